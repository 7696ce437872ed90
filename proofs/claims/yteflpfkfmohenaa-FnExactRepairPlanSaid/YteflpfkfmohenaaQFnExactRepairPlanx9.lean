-- A text of this session, printed by a program of its own (wip/tools: xpatch.py, xprint.sh, mkq.py). No condition.
import Derived.Test.YteflpfkfmohenaaQFnExactRepairPlanx0
import Derived.Test.YteflpfkfmohenaaQFnExactRepairPlanx8
namespace Go.Proofs.Yteflpfkfmohenaa.QFnExactRepairPlan
open Go.RowKit Go.Proofs.YteflpfkfmohenaaW.PrintWords Go.Proofs.YteflpfkfmohenaaW.PrintLast Go.Proofs.YteflpfkfmohenaaW.PrintMore
attribute [local go_sem] max2_int min2_int max_two min_two max_three min_three max_four min_four   -- for this text's walks alone
set_option linter.unusedVariables false
set_option linter.unusedSimpArgs false

/-! ### impl_plant_groupOf: function 28 -/
/-- What the drafts' calls stand for: the plant's numbers, a row of the rows taken. -/
def plantK.f (p : Int) : Option Int := some ((pK p : Nat) : Int)
def plantM.f (p : Int) : Option Int := some ((pM p : Nat) : Int)
def plantG.f (p : Int) : Option Int := some ((pG p : Nat) : Int)
theorem plant_cell {W : World} {g o : Nat} {x : Nat} {t : Int} {F : Option Int} (h : W.cell? ⟨g, o, none⟩ = some (.int .i64 (x : Int))) (e : F = some t) (eF : F = some (x : Int)) : W.cell? ⟨g, o, none⟩ = some (.int .i64 t) := by
  rw [eF] at e
  rw [h, Option.some.inj e]
mutual
def impl_plant_groupOf.j0 : Nat → Int → Int → Int → Int → Bool → Option (List Int)
  | 0, _, _, _, _, _ => none
  | k + 1, x1, x5, x6, x7, x39 => if x39 = true then (some ([] : List Int)) else (if x6 = 0 then (none) else (if x1 ≥ x5 then (impl_plant_groupOf.j1 k x1 x5 x6 x7 (wrap64 (x1 - x7))) else (impl_plant_groupOf.j1 k x1 x5 x6 x7 (Int.tmod x1 x6))))
def impl_plant_groupOf.j1 : Nat → Int → Int → Int → Int → Int → Option (List Int)
  | 0, _, _, _, _, _ => none
  | k + 1, x1, x5, x6, x7, x8 => impl_plant_groupOf.l0 k x1 x5 x6 x7 x8 (([] : List Int)) x8
def impl_plant_groupOf.l0 : Nat → Int → Int → Int → Int → Int → List Int → Int → Option (List Int)
  | 0, _, _, _, _, _, _, _ => none
  | k + 1, x1, x5, x6, x7, x8, x9, x10 => if x10 < x5 then (if x10 = x1 then (impl_plant_groupOf.l0 k x1 x5 x6 x7 x8 x9 (wrap64 (x10 + x6))) else (if x9.length < 17592186044416 then (impl_plant_groupOf.l0 k x1 x5 x6 x7 x8 (x9 ++ [x10]) (wrap64 (x10 + x6))) else (none))) else (if x1 < x5 then (if x9.length < 17592186044416 then (some (x9 ++ [wrap64 (x7 + x8)])) else (none)) else (some x9))
end
def impl_plant_groupOf.f (k : Nat) (a0 : Int) (a1 : Int) : Option (List Int) := (plantK.f a0).bind fun t221 => ((plantG.f a0).bind fun t222 => ((plantM.f a0).bind fun t223 => (if t222 = 0 then (impl_plant_groupOf.j0 k a1 t221 t222 (wrap64 (t221 + t223)) true) else (if a1 ≥ t221 then (impl_plant_groupOf.j0 k a1 t221 t222 (wrap64 (t221 + t223)) (decide (a1 < (wrap64 (t221 + t223))))) else (impl_plant_groupOf.j0 k a1 t221 t222 (wrap64 (t221 + t223)) false)))))
theorem impl_plant_groupOf.mono_l : ∀ k, (∀ y0 y1 y2 y3 y4, LeO (impl_plant_groupOf.j0 k y0 y1 y2 y3 y4) (impl_plant_groupOf.j0 (k + 1) y0 y1 y2 y3 y4)) ∧ (∀ y0 y1 y2 y3 y4, LeO (impl_plant_groupOf.j1 k y0 y1 y2 y3 y4) (impl_plant_groupOf.j1 (k + 1) y0 y1 y2 y3 y4)) ∧ (∀ y0 y1 y2 y3 y4 y5 y6, LeO (impl_plant_groupOf.l0 k y0 y1 y2 y3 y4 y5 y6) (impl_plant_groupOf.l0 (k + 1) y0 y1 y2 y3 y4 y5 y6))
  | 0 => ⟨fun _ _ _ _ _ r h => by simp [impl_plant_groupOf.j0] at h, fun _ _ _ _ _ r h => by simp [impl_plant_groupOf.j1] at h, fun _ _ _ _ _ _ _ r h => by simp [impl_plant_groupOf.l0] at h⟩
  | k + 1 => by
    obtain ⟨ih0, ih1, ih2⟩ := impl_plant_groupOf.mono_l k
    refine ⟨?_, ?_, ?_⟩
    · intro y0 y1 y2 y3 y4
      unfold impl_plant_groupOf.j0
      repeat' first
      | (with_reducible exact ih0 _ _ _ _ _)
      | (with_reducible exact ih1 _ _ _ _ _)
      | (with_reducible exact ih2 _ _ _ _ _ _ _)
      | (with_reducible exact LeO.refl _)
      | (with_reducible exact LeO.none _)
      | (with_reducible refine LeO.ite ?_ ?_)
      | (with_reducible refine LeO.bind ?_ (fun _ => ?_))
      | exact ih0 _ _ _ _ _
      | exact ih1 _ _ _ _ _
      | exact ih2 _ _ _ _ _ _ _
      | exact LeO.none _
      | refine LeO.ite ?_ ?_
      | refine LeO.bind ?_ (fun _ => ?_)
    · intro y0 y1 y2 y3 y4
      unfold impl_plant_groupOf.j1
      repeat' first
      | (with_reducible exact ih0 _ _ _ _ _)
      | (with_reducible exact ih1 _ _ _ _ _)
      | (with_reducible exact ih2 _ _ _ _ _ _ _)
      | (with_reducible exact LeO.refl _)
      | (with_reducible exact LeO.none _)
      | (with_reducible refine LeO.ite ?_ ?_)
      | (with_reducible refine LeO.bind ?_ (fun _ => ?_))
      | exact ih0 _ _ _ _ _
      | exact ih1 _ _ _ _ _
      | exact ih2 _ _ _ _ _ _ _
      | exact LeO.none _
      | refine LeO.ite ?_ ?_
      | refine LeO.bind ?_ (fun _ => ?_)
    · intro y0 y1 y2 y3 y4 y5 y6
      unfold impl_plant_groupOf.l0
      repeat' first
      | (with_reducible exact ih0 _ _ _ _ _)
      | (with_reducible exact ih1 _ _ _ _ _)
      | (with_reducible exact ih2 _ _ _ _ _ _ _)
      | (with_reducible exact LeO.refl _)
      | (with_reducible exact LeO.none _)
      | (with_reducible refine LeO.ite ?_ ?_)
      | (with_reducible refine LeO.bind ?_ (fun _ => ?_))
      | exact ih0 _ _ _ _ _
      | exact ih1 _ _ _ _ _
      | exact ih2 _ _ _ _ _ _ _
      | exact LeO.none _
      | refine LeO.ite ?_ ?_
      | refine LeO.bind ?_ (fun _ => ?_)
theorem impl_plant_groupOf.mono : ∀ a0 a1 k, LeO (impl_plant_groupOf.f k a0 a1) (impl_plant_groupOf.f (k + 1) a0 a1) := by
  intro a0 a1 k
  obtain ⟨ih0, ih1, ih2⟩ := impl_plant_groupOf.mono_l k
  unfold impl_plant_groupOf.f
  repeat' first
      | (with_reducible exact ih0 _ _ _ _ _)
      | (with_reducible exact ih1 _ _ _ _ _)
      | (with_reducible exact ih2 _ _ _ _ _ _ _)
      | (with_reducible exact LeO.refl _)
      | (with_reducible exact LeO.none _)
      | (with_reducible refine LeO.ite ?_ ?_)
      | (with_reducible refine LeO.bind ?_ (fun _ => ?_))
      | exact ih0 _ _ _ _ _
      | exact ih1 _ _ _ _ _
      | exact ih2 _ _ _ _ _ _ _
      | exact LeO.none _
      | refine LeO.ite ?_ ?_
      | refine LeO.bind ?_ (fun _ => ?_)
set_option maxHeartbeats 8000000 in
set_option maxRecDepth 100000 in
set_option maxHeartbeats 8000000 in
set_option maxRecDepth 100000 in
theorem impl_plant_groupOf.calls (k : Nat) {a0 : Int} (gP : Nat) (a1 : Int) (r : List Int) (w : World) (h : impl_plant_groupOf.f k a0 a1 = some r) (hP : PlantAt w gP a0) :
  Calls Try.prog 28 #[.pointer (some ⟨gP, 0, none⟩), .int .i64 a1] w fun e w' => ∃ v0_ : Value, e = .returned (v0_) ∧ Kd.R (Kd.int .i64) 3 w' w.heap.size (fun _ => True) v0_ r ∧ Below w.heap.size w w' := by
 have hu55 := Try.underlying55
 have hu29 := Try.underlying29
 have HP := Aside0.mk hP
 clear hP
 have HB := Aside0.mk (Below.refl w.heap.size w)
 have H : ((plantK.f a0).bind fun t221 => ((plantG.f a0).bind fun t222 => ((plantM.f a0).bind fun t223 => (if t222 = 0 then (impl_plant_groupOf.j0 k a1 t221 t222 (wrap64 (t221 + t223)) true) else (if a1 ≥ t221 then (impl_plant_groupOf.j0 k a1 t221 t222 (wrap64 (t221 + t223)) (decide (a1 < (wrap64 (t221 + t223))))) else (impl_plant_groupOf.j0 k a1 t221 t222 (wrap64 (t221 + t223)) false)))))) = some r := h
 clear h
 replace H := Option.bind_eq_some_iff.mp H
 obtain ⟨t221, A30, H⟩ := H
 replace H : ((plantG.f a0).bind fun t222 => ((plantM.f a0).bind fun t223 => (if t222 = 0 then (impl_plant_groupOf.j0 k a1 t221 t222 (wrap64 (t221 + t223)) true) else (if a1 ≥ t221 then (impl_plant_groupOf.j0 k a1 t221 t222 (wrap64 (t221 + t223)) (decide (a1 < (wrap64 (t221 + t223))))) else (impl_plant_groupOf.j0 k a1 t221 t222 (wrap64 (t221 + t223)) false))))) = some r := H
 have A3 := Aside0.mk A30
 clear A30
 have hk_t221 := plant_cell (F := plantK.f a0) HP.out.at_.k A3.out rfl
 replace H := Option.bind_eq_some_iff.mp H
 obtain ⟨t222, A40, H⟩ := H
 replace H : ((plantM.f a0).bind fun t223 => (if t222 = 0 then (impl_plant_groupOf.j0 k a1 t221 t222 (wrap64 (t221 + t223)) true) else (if a1 ≥ t221 then (impl_plant_groupOf.j0 k a1 t221 t222 (wrap64 (t221 + t223)) (decide (a1 < (wrap64 (t221 + t223))))) else (impl_plant_groupOf.j0 k a1 t221 t222 (wrap64 (t221 + t223)) false)))) = some r := H
 have A4 := Aside0.mk A40
 clear A40
 have hk_t222 := plant_cell (F := plantG.f a0) HP.out.at_.n A4.out rfl
 replace H := Option.bind_eq_some_iff.mp H
 obtain ⟨t223, A50, H⟩ := H
 replace H : (if t222 = 0 then (impl_plant_groupOf.j0 k a1 t221 t222 (wrap64 (t221 + t223)) true) else (if a1 ≥ t221 then (impl_plant_groupOf.j0 k a1 t221 t222 (wrap64 (t221 + t223)) (decide (a1 < (wrap64 (t221 + t223))))) else (impl_plant_groupOf.j0 k a1 t221 t222 (wrap64 (t221 + t223)) false))) = some r := H
 have A5 := Aside0.mk A50
 clear A50
 have hk_t223 := plant_cell (F := plantM.f a0) HP.out.at_.m A5.out rfl
 have HC6 := Aside0.mk H
 clear H
 go_enter Try.func28, Try.ntmps28
 go_upto_region 3 with (fail)
 repeat (go_quiet (fail); go_upto_region 3 with (fail))
 (try simp only [Act.put, List.setIfInBounds_toArray, List.set_cons_zero, List.set_cons_succ])
 go_cut [39] (fun v39 wc => ∃ (kq : Nat) (x39_5 : Bool), v39 = .bool x39_5 ∧ Aside0 (impl_plant_groupOf.j0 kq a1 t221 t222 (wrap64 (t221 + t223)) x39_5 = some r) ∧ Aside0 (kq ≤ k) ∧ Aside0 (Below w.heap.size w wc))
 case first =>
  have H := HC6.out
  clear HC6
  by_cases c7 : t222 = 0
  ·
   rw [if_pos c7] at H
   have c7b0 : (t222 == 0) = true := beq_iff_eq.mpr c7
   have c7b1 : (t222 != 0) = false := bne_eq_false_iff_eq.mpr c7
   clear c7
   (first | rw [c7b0] | rw [c7b1] | (simp only [i64_w, i32_w]; rw [c7b0]) | skip)
   have H' := Aside0.mk H
   clear H
   go_wp2
   repeat (go_quiet (fail); try go_wp2)
   go_meet
   case rel => exact ⟨_, (true), (by first | rfl | (simp; done) | (simp [*]; done)), H', ⟨by first | omega | exact Nat.le_refl _⟩, ⟨by first | exact Grow.bl HB.out | exact HB.out⟩⟩
  rw [if_neg c7] at H
  have c7b0 : (t222 == 0) = false := beq_eq_false_iff_ne.mpr c7
  have c7b1 : (t222 != 0) = true := bne_iff_ne.mpr c7
  (first | rw [c7b0] | rw [c7b1] | (simp only [i64_w, i32_w]; rw [c7b0]) | skip)
  by_cases c8 : a1 ≥ t221
  rotate_left
  ·
   rw [if_neg c8] at H
   have c8b0 : decide (t221 ≤ a1) = false := decide_eq_false c8
   clear c8
   have H' := Aside0.mk H
   clear H
   go_wp2
   repeat (go_quiet (fail); try go_wp2)
   go_meet
   case rel => exact ⟨_, (false), (by first | rfl | (simp; done) | (simp [*]; done)), H', ⟨by first | omega | exact Nat.le_refl _⟩, ⟨by first | exact Grow.bl HB.out | exact HB.out⟩⟩
  rw [if_pos c8] at H
  have c8b0 : decide (t221 ≤ a1) = true := decide_eq_true c8
  clear c8
  have H' := Aside0.mk H
  clear H
  go_wp2
  repeat (go_quiet (fail); try go_wp2)
  go_meet
  case rel => exact ⟨_, (decide (a1 < (wrap64 (t221 + t223)))), (by first | rfl | (simp; done) | (simp [*]; done)), H', ⟨by first | omega | exact Nat.le_refl _⟩, ⟨by first | exact Grow.bl HB.out | exact HB.out⟩⟩
 case rest =>
  clear HC6
  try clear c2
  try clear p2
  try clear p6
  try clear c7
  try clear c7b0
  try clear c7b1
  try clear c8
  try clear c8b0
  obtain ⟨kq, x39_5, rfl, HA, HJ5, HB⟩ := hcut
  cases kq with
  | zero => exact absurd HA.out (by simp [impl_plant_groupOf.j0])
  | succ kj5 =>
   have H := HA.out
   clear HA
   simp only [impl_plant_groupOf.j0] at H
   by_cases c9 : x39_5 = true
   ·
    subst c9
    have H1 : (some ([] : List Int)) = some r := by rw [if_pos rfl] at H; exact H
    clear H
    have H := H1
    clear H1
    obtain rfl := Option.some.inj H
    go_wp2
    repeat (go_quiet (fail); try go_wp2)
    go_ret
    exact ⟨_, by first | rfl | (simp [errW_none, errW_some] <;> rfl) | (simp [*, errW_none, errW_some] <;> rfl), by first | exact Kd.R_nil _ _ _ _ _ | exact Kd.N_nil _ _ _ _ _ | exact Kd.V_nil _ _ _ _ _ | exact Kd.Q_nil _ _ _ _ _ | exact Kd.S_nil _ _ _ _ _, by first | exact Grow.bl HB.out | exact HB.out⟩
   replace c9 := Bool.eq_false_iff.mpr c9
   subst c9
   have H1 : (if t222 = 0 then (none) else (if a1 ≥ t221 then (impl_plant_groupOf.j1 kj5 a1 t221 t222 (wrap64 (t221 + t223)) (wrap64 (a1 - (wrap64 (t221 + t223))))) else (impl_plant_groupOf.j1 kj5 a1 t221 t222 (wrap64 (t221 + t223)) (Int.tmod a1 t222)))) = some r := by rw [if_neg (show ¬ (false = true) by decide)] at H; exact H
   clear H
   have H := H1
   clear H1
   by_cases c10 : t222 = 0
   ·
    rw [if_pos c10] at H
    exact absurd H (by simp)
   rw [if_neg c10] at H
   have c10b0 : (t222 == 0) = false := beq_eq_false_iff_ne.mpr c10
   have c10b1 : (t222 != 0) = true := bne_iff_ne.mpr c10
   have HC11 := Aside0.mk H
   clear H
   go_upto_if 45 with (fail)
   repeat (go_quiet (fail); go_upto_if 45 with (fail))
   go_cut [8] (fun v8 wc => ∃ (kq : Nat) (x8_10 : Int), v8 = .int .i64 x8_10 ∧ Aside0 (impl_plant_groupOf.j1 kq a1 t221 t222 (wrap64 (t221 + t223)) x8_10 = some r) ∧ Aside0 (kq ≤ kj5) ∧ Aside0 (Below w.heap.size w wc))
   case first =>
    have H := HC11.out
    clear HC11
    by_cases c12 : a1 ≥ t221
    rotate_left
    ·
     rw [if_neg c12] at H
     have c12b0 : decide (t221 ≤ a1) = false := decide_eq_false c12
     clear c12
     (first | rw [c12b0] | (simp only [i64_w, i32_w]; rw [c12b0]) | skip)
     have H' := Aside0.mk H
     clear H
     go_wp2
     repeat (go_quiet (fail); try go_wp2)
     go_meet
     case rel => exact ⟨_, (Int.tmod a1 t222), (by first | rfl | (simp; done) | (simp [*]; done)), H', ⟨by have := HJ5.out; first | omega | exact Nat.le_refl _⟩, ⟨by first | exact Grow.bl HB.out | exact HB.out⟩⟩
    rw [if_pos c12] at H
    have c12b0 : decide (t221 ≤ a1) = true := decide_eq_true c12
    clear c12
    (first | rw [c12b0] | (simp only [i64_w, i32_w]; rw [c12b0]) | skip)
    have H' := Aside0.mk H
    clear H
    go_wp2
    repeat (go_quiet (fail); try go_wp2)
    go_meet
    case rel => exact ⟨_, (wrap64 (a1 - (wrap64 (t221 + t223)))), (by first | rfl | (simp; done) | (simp [*]; done)), H', ⟨by have := HJ5.out; first | omega | exact Nat.le_refl _⟩, ⟨by first | exact Grow.bl HB.out | exact HB.out⟩⟩
   case rest =>
    clear HC11
    try clear c1
    try clear c2
    try clear p2
    try clear p6
    try clear c7
    try clear c7b0
    try clear c7b1
    try clear c8
    try clear c8b0
    try clear c9
    try clear c10
    try clear c10b0
    try clear c10b1
    try clear c12
    try clear c12b0
    try clear p2
    try clear p6
    obtain ⟨kq, x8_10, rfl, HA, HJ10, HB⟩ := hcut
    cases kq with
    | zero => exact absurd HA.out (by simp [impl_plant_groupOf.j1])
    | succ kj10 =>
     have H := HA.out
     clear HA
     simp only [impl_plant_groupOf.j1] at H
     obtain ⟨y224, hy224⟩ : ∃ y_ : List Int, y_ = (([] : List Int)) := ⟨_, rfl⟩
     replace H : (impl_plant_groupOf.l0 kj10 a1 t221 t222 (wrap64 (t221 + t223)) x8_10 y224 x8_10) = some r := by first | (rw [hy224]; with_reducible exact H) | (have H2_ := (Option.bind_some _ _).symm.trans H; rw [hy224]; with_reducible exact H2_) | (have H2_ := (Option.bind_some _ _).symm.trans H; with_reducible exact H2_) | with_reducible exact H | (rw [hy224]; exact H) | exact H
     have Ny224 := Aside0.mk hy224
     clear hy224
     have H' := Aside0.mk H
     clear H
     go_wp2_with (first | ((with_reducible refine gate_dst (N := 49) rfl ?_); refine Kd.R_lit (Kd.int .i64) _ 3 ?hg (N := 49) ?hd (xs := ([] : List Int)) (inner := []) (ok := fun _ => True) (okp := fun _ => True) ?hr ?hp (fun _ hk => hk) trivial (Below.refl _ _) (Nat.le_refl _) (by simp) ?_; (case hd => rfl); (case hg => rfl); (case hr => first | (go_simp; done) | (go_simp; rfl)); (case hp => exact (Reps.none _ _)); intro v225 w13 ho14 hb hg_ hnew_; clear hg_ hnew_; (first | rw [← Ny224.out] at ho14 | (simp only [Int.reduceToNat] at ho14; rw [← Ny224.out] at ho14)); have n0_ := Aside0.mk (Kd.R_lower ho14 (below_size (by first | exact Grow.bl HB.out | exact HB.out))); have n1_ := Aside0.mk (below_step (by first | exact Grow.bl HB.out | exact HB.out) hb); clear HB; have HO226 := n0_; have HB := n1_; clear n0_ n1_; clear hb ho14))
     repeat (go_quiet (first | ((with_reducible refine gate_dst (N := 49) rfl ?_); refine Kd.R_lit (Kd.int .i64) _ 3 ?hg (N := 49) ?hd (xs := ([] : List Int)) (inner := []) (ok := fun _ => True) (okp := fun _ => True) ?hr ?hp (fun _ hk => hk) trivial (Below.refl _ _) (Nat.le_refl _) (by simp) ?_; (case hd => rfl); (case hg => rfl); (case hr => first | (go_simp; done) | (go_simp; rfl)); (case hp => exact (Reps.none _ _)); intro v225 w13 ho14 hb hg_ hnew_; clear hg_ hnew_; (first | rw [← Ny224.out] at ho14 | (simp only [Int.reduceToNat] at ho14; rw [← Ny224.out] at ho14)); have n0_ := Aside0.mk (Kd.R_lower ho14 (below_size (by first | exact Grow.bl HB.out | exact HB.out))); have n1_ := Aside0.mk (below_step (by first | exact Grow.bl HB.out | exact HB.out) hb); clear HB; have HO226 := n0_; have HB := n1_; clear n0_ n1_; clear hb ho14)); try go_wp2_with (first | ((with_reducible refine gate_dst (N := 49) rfl ?_); refine Kd.R_lit (Kd.int .i64) _ 3 ?hg (N := 49) ?hd (xs := ([] : List Int)) (inner := []) (ok := fun _ => True) (okp := fun _ => True) ?hr ?hp (fun _ hk => hk) trivial (Below.refl _ _) (Nat.le_refl _) (by simp) ?_; (case hd => rfl); (case hg => rfl); (case hr => first | (go_simp; done) | (go_simp; rfl)); (case hp => exact (Reps.none _ _)); intro v225 w13 ho14 hb hg_ hnew_; clear hg_ hnew_; (first | rw [← Ny224.out] at ho14 | (simp only [Int.reduceToNat] at ho14; rw [← Ny224.out] at ho14)); have n0_ := Aside0.mk (Kd.R_lower ho14 (below_size (by first | exact Grow.bl HB.out | exact HB.out))); have n1_ := Aside0.mk (below_step (by first | exact Grow.bl HB.out | exact HB.out) hb); clear HB; have HO226 := n0_; have HB := n1_; clear n0_ n1_; clear hb ho14)))
     go_loopg [9, 10] kj10 (fun kq v9 v10 w' => ∃ (x9_3 : List Int) (x10_3 : Int), v10 = .int .i64 x10_3 ∧ Aside0 (impl_plant_groupOf.l0 kq a1 t221 t222 (wrap64 (t221 + t223)) x8_10 x9_3 x10_3 = some r) ∧ Aside0 (kq ≤ kj10) ∧ Aside0 (Kd.R (Kd.int .i64) 3 w' w.heap.size (fun _ => True) v9 x9_3) ∧ Aside0 (Below w.heap.size w w'))
     case atStart => exact ⟨(y224), (x8_10), (by first | rfl | (simp; done) | (simp [*]; done)), H', ⟨Nat.le_refl _⟩, ⟨by first | exact Grow.rg HO226.out | exact HO226.out⟩, ⟨by first | exact Grow.bl HB.out | exact HB.out⟩⟩
     case round =>
      clear H'
      try clear c1
      try clear c2
      try clear p2
      try clear p6
      try clear c7
      try clear c7b0
      try clear c7b1
      try clear c8
      try clear c8b0
      try clear c9
      try clear c10
      try clear c10b0
      try clear c10b1
      try clear c12
      try clear c12b0
      try clear p2
      try clear p6
      obtain ⟨x9_3, x10_3, rfl, HA, HK3, HO_9, HB⟩ := hrel
      cases gk with
      | zero => exact absurd HA.out (by simp [impl_plant_groupOf.l0])
      | succ k3 =>
       have H := HA.out
       clear HA
       simp only [impl_plant_groupOf.l0] at H
       by_cases c15 : x10_3 < t221
       rotate_left
       ·
        rw [if_neg c15] at H
        have c15b0 : decide (x10_3 < t221) = false := decide_eq_false c15
        clear c15
        by_cases c19 : a1 < t221
        rotate_left
        ·
         rw [if_neg c19] at H
         have c19b0 : decide (a1 < t221) = false := decide_eq_false c19
         clear c19
         obtain rfl := Option.some.inj H
         go_wp2
         repeat (go_quiet (fail); try go_wp2)
         go_ret
         exact ⟨_, by first | rfl | (simp [errW_none, errW_some] <;> rfl) | (simp [*, errW_none, errW_some] <;> rfl), by (with_reducible repeat (first | apply Kd.R_alloc | apply Kd.R_drewN | apply Kd.R_drew)); exact HO_9.out, by first | exact Grow.bl HB.out | exact HB.out⟩
        rw [if_pos c19] at H
        have c19b0 : decide (a1 < t221) = true := decide_eq_true c19
        clear c19
        by_cases c20 : x9_3.length < 17592186044416
        rotate_left
        ·
         rw [if_neg c20] at H
         exact absurd H (by simp)
        rw [if_pos c20] at H
        have LMc20 := Aside0.mk c20
        clear c20
        obtain ⟨y230, hy230⟩ : ∃ y_ : List Int, y_ = (x9_3 ++ [wrap64 ((wrap64 (t221 + t223)) + x8_10)]) := ⟨_, rfl⟩
        replace H : (some y230) = some r := by first | (rw [hy230]; with_reducible exact H) | (have H2_ := (Option.bind_some _ _).symm.trans H; rw [hy230]; with_reducible exact H2_) | (have H2_ := (Option.bind_some _ _).symm.trans H; with_reducible exact H2_) | with_reducible exact H | (rw [hy230]; exact H) | exact H
        have Ny230 := Aside0.mk hy230
        clear hy230
        obtain rfl := Option.some.inj H
        go_wp2_with (first | ((with_reducible refine gate_builtin (b := .append) (xs := #[.tmp 67, .tmp 71]) rfl ?_); at_builtin; refine Kd.R_append (Kd.int .i64) (w0 := w) w.heap.size rfl (.tmp 67) (.tmp 71) 40 3 (.int .i64 0) 8 rfl Try.underlying40 info3 rfl (by decide) (by omega) u9 x9_3 (wrap64 ((wrap64 (t221 + t223)) + x8_10)) [.int .i64 (wrap64 ((wrap64 (t221 + t223)) + x8_10))] (fun _ => True) (fun _ => False) rfl rfl ?aP (fun _ hk => hk.elim) ?aF ?aO ?aB ?aS ?aL ?_; (case aP => exact rfl); (case aB => exact (by first | exact Grow.bl HB.out | exact HB.out)); (case aF => exact (fun _ _ => trivial)); (case aO => exact (by first | exact Grow.rg HO_9.out | exact HO_9.out)); (case aS => exact (below_size (by first | exact Grow.bl HB.out | exact HB.out))); (case aL => have := LMc20.out; omega); intro v231 w21 ho hb hg hat; rw [← Ny230.out] at ho; have n0_ := Aside0.mk (hb); have n1_ := Aside0.mk (ho); clear HB; clear HO_9; have HB := n0_; have HO232 := n1_; clear n0_ n1_; clear ho hb hg hat))
        repeat (go_quiet (first | ((with_reducible refine gate_builtin (b := .append) (xs := #[.tmp 67, .tmp 71]) rfl ?_); at_builtin; refine Kd.R_append (Kd.int .i64) (w0 := w) w.heap.size rfl (.tmp 67) (.tmp 71) 40 3 (.int .i64 0) 8 rfl Try.underlying40 info3 rfl (by decide) (by omega) u9 x9_3 (wrap64 ((wrap64 (t221 + t223)) + x8_10)) [.int .i64 (wrap64 ((wrap64 (t221 + t223)) + x8_10))] (fun _ => True) (fun _ => False) rfl rfl ?aP (fun _ hk => hk.elim) ?aF ?aO ?aB ?aS ?aL ?_; (case aP => exact rfl); (case aB => exact (by first | exact Grow.bl HB.out | exact HB.out)); (case aF => exact (fun _ _ => trivial)); (case aO => exact (by first | exact Grow.rg HO_9.out | exact HO_9.out)); (case aS => exact (below_size (by first | exact Grow.bl HB.out | exact HB.out))); (case aL => have := LMc20.out; omega); intro v231 w21 ho hb hg hat; rw [← Ny230.out] at ho; have n0_ := Aside0.mk (hb); have n1_ := Aside0.mk (ho); clear HB; clear HO_9; have HB := n0_; have HO232 := n1_; clear n0_ n1_; clear ho hb hg hat)); try go_wp2_with (first | ((with_reducible refine gate_builtin (b := .append) (xs := #[.tmp 67, .tmp 71]) rfl ?_); at_builtin; refine Kd.R_append (Kd.int .i64) (w0 := w) w.heap.size rfl (.tmp 67) (.tmp 71) 40 3 (.int .i64 0) 8 rfl Try.underlying40 info3 rfl (by decide) (by omega) u9 x9_3 (wrap64 ((wrap64 (t221 + t223)) + x8_10)) [.int .i64 (wrap64 ((wrap64 (t221 + t223)) + x8_10))] (fun _ => True) (fun _ => False) rfl rfl ?aP (fun _ hk => hk.elim) ?aF ?aO ?aB ?aS ?aL ?_; (case aP => exact rfl); (case aB => exact (by first | exact Grow.bl HB.out | exact HB.out)); (case aF => exact (fun _ _ => trivial)); (case aO => exact (by first | exact Grow.rg HO_9.out | exact HO_9.out)); (case aS => exact (below_size (by first | exact Grow.bl HB.out | exact HB.out))); (case aL => have := LMc20.out; omega); intro v231 w21 ho hb hg hat; rw [← Ny230.out] at ho; have n0_ := Aside0.mk (hb); have n1_ := Aside0.mk (ho); clear HB; clear HO_9; have HB := n0_; have HO232 := n1_; clear n0_ n1_; clear ho hb hg hat)))
        go_ret
        exact ⟨_, by first | rfl | (simp [errW_none, errW_some] <;> rfl) | (simp [*, errW_none, errW_some] <;> rfl), by (with_reducible repeat (first | apply Kd.R_alloc | apply Kd.R_drewN | apply Kd.R_drew)); exact HO232.out, by first | exact Grow.bl HB.out | exact HB.out⟩
       rw [if_pos c15] at H
       have c15b0 : decide (x10_3 < t221) = true := decide_eq_true c15
       clear c15
       by_cases c16 : x10_3 = a1
       ·
        rw [if_pos c16] at H
        have c16b0 : (x10_3 == a1) = true := beq_iff_eq.mpr c16
        have c16b1 : (x10_3 != a1) = false := bne_eq_false_iff_eq.mpr c16
        clear c16
        have H' := Aside0.mk H
        clear H
        go_wp2
        repeat (go_quiet (fail); try go_wp2)
        go_roundg k3
        case measure => have := HJ5.out; have := HJ10.out; have := HK3.out; omega
        case rel => exact ⟨(x9_3), (wrap64 (x10_3 + t222)), (by first | rfl | (simp; done) | (simp [*]; done)), H', ⟨by have := HJ5.out; have := HJ10.out; have := HK3.out; omega⟩, ⟨by first | exact Grow.rg HO_9.out | exact HO_9.out⟩, ⟨by first | exact Grow.bl HB.out | exact HB.out⟩⟩
       rw [if_neg c16] at H
       have c16b0 : (x10_3 == a1) = false := beq_eq_false_iff_ne.mpr c16
       have c16b1 : (x10_3 != a1) = true := bne_iff_ne.mpr c16
       by_cases c17 : x9_3.length < 17592186044416
       rotate_left
       ·
        rw [if_neg c17] at H
        exact absurd H (by simp)
       rw [if_pos c17] at H
       have LMc17 := Aside0.mk c17
       clear c17
       obtain ⟨y227, hy227⟩ : ∃ y_ : List Int, y_ = (x9_3 ++ [x10_3]) := ⟨_, rfl⟩
       replace H : (impl_plant_groupOf.l0 k3 a1 t221 t222 (wrap64 (t221 + t223)) x8_10 y227 (wrap64 (x10_3 + t222))) = some r := by first | (rw [hy227]; with_reducible exact H) | (have H2_ := (Option.bind_some _ _).symm.trans H; rw [hy227]; with_reducible exact H2_) | (have H2_ := (Option.bind_some _ _).symm.trans H; with_reducible exact H2_) | with_reducible exact H | (rw [hy227]; exact H) | exact H
       have Ny227 := Aside0.mk hy227
       clear hy227
       have H' := Aside0.mk H
       clear H
       go_wp2_with (first | ((with_reducible refine gate_builtin (b := .append) (xs := #[.tmp 60, .tmp 62]) rfl ?_); at_builtin; refine Kd.R_append (Kd.int .i64) (w0 := w) w.heap.size rfl (.tmp 60) (.tmp 62) 40 3 (.int .i64 0) 8 rfl Try.underlying40 info3 rfl (by decide) (by omega) u9 x9_3 x10_3 [.int .i64 x10_3] (fun _ => True) (fun _ => False) rfl rfl ?aP (fun _ hk => hk.elim) ?aF ?aO ?aB ?aS ?aL ?_; (case aP => exact rfl); (case aB => exact (by first | exact Grow.bl HB.out | exact HB.out)); (case aF => exact (fun _ _ => trivial)); (case aO => exact (by first | exact Grow.rg HO_9.out | exact HO_9.out)); (case aS => exact (below_size (by first | exact Grow.bl HB.out | exact HB.out))); (case aL => have := LMc17.out; omega); intro v228 w18 ho hb hg hat; rw [← Ny227.out] at ho; have n0_ := Aside0.mk (hb); have n1_ := Aside0.mk (ho); clear HB; clear HO_9; have HB := n0_; have HO229 := n1_; clear n0_ n1_; clear ho hb hg hat))
       repeat (go_quiet (first | ((with_reducible refine gate_builtin (b := .append) (xs := #[.tmp 60, .tmp 62]) rfl ?_); at_builtin; refine Kd.R_append (Kd.int .i64) (w0 := w) w.heap.size rfl (.tmp 60) (.tmp 62) 40 3 (.int .i64 0) 8 rfl Try.underlying40 info3 rfl (by decide) (by omega) u9 x9_3 x10_3 [.int .i64 x10_3] (fun _ => True) (fun _ => False) rfl rfl ?aP (fun _ hk => hk.elim) ?aF ?aO ?aB ?aS ?aL ?_; (case aP => exact rfl); (case aB => exact (by first | exact Grow.bl HB.out | exact HB.out)); (case aF => exact (fun _ _ => trivial)); (case aO => exact (by first | exact Grow.rg HO_9.out | exact HO_9.out)); (case aS => exact (below_size (by first | exact Grow.bl HB.out | exact HB.out))); (case aL => have := LMc17.out; omega); intro v228 w18 ho hb hg hat; rw [← Ny227.out] at ho; have n0_ := Aside0.mk (hb); have n1_ := Aside0.mk (ho); clear HB; clear HO_9; have HB := n0_; have HO229 := n1_; clear n0_ n1_; clear ho hb hg hat)); try go_wp2_with (first | ((with_reducible refine gate_builtin (b := .append) (xs := #[.tmp 60, .tmp 62]) rfl ?_); at_builtin; refine Kd.R_append (Kd.int .i64) (w0 := w) w.heap.size rfl (.tmp 60) (.tmp 62) 40 3 (.int .i64 0) 8 rfl Try.underlying40 info3 rfl (by decide) (by omega) u9 x9_3 x10_3 [.int .i64 x10_3] (fun _ => True) (fun _ => False) rfl rfl ?aP (fun _ hk => hk.elim) ?aF ?aO ?aB ?aS ?aL ?_; (case aP => exact rfl); (case aB => exact (by first | exact Grow.bl HB.out | exact HB.out)); (case aF => exact (fun _ _ => trivial)); (case aO => exact (by first | exact Grow.rg HO_9.out | exact HO_9.out)); (case aS => exact (below_size (by first | exact Grow.bl HB.out | exact HB.out))); (case aL => have := LMc17.out; omega); intro v228 w18 ho hb hg hat; rw [← Ny227.out] at ho; have n0_ := Aside0.mk (hb); have n1_ := Aside0.mk (ho); clear HB; clear HO_9; have HB := n0_; have HO229 := n1_; clear n0_ n1_; clear ho hb hg hat)))
       go_roundg k3
       case measure => have := HJ5.out; have := HJ10.out; have := HK3.out; omega
       case rel => exact ⟨(y227), (wrap64 (x10_3 + t222)), (by first | rfl | (simp; done) | (simp [*]; done)), H', ⟨by have := HJ5.out; have := HJ10.out; have := HK3.out; omega⟩, ⟨by first | exact Grow.rg HO229.out | exact HO229.out⟩, ⟨by first | exact Grow.bl HB.out | exact HB.out⟩⟩

/-! ### impl_plant_row: function 36 -/
/-- By which factors a shard is made. -/
def rowC (K M G i j : Nat) : Int := if i < K then (if j = i then 1 else 0) else if i < K + M then ((tabInv (xr i j) : Nat) : Int) else if j % G = i - K - M then 1 else 0
def rowL (K M G i : Nat) : List Int := (List.range K).map (rowC K M G i)
theorem rowL_len (K M G i : Nat) : (rowL K M G i).length = K := by unfold rowL; simp
theorem rowL_get (K M G i j : Nat) (h : j < K) : (rowL K M G i)[j]? = some (rowC K M G i j) := by unfold rowL; rw [List.getElem?_map, List.getElem?_range h]; rfl
theorem row_ext {K : Nat} {l l' : List Int} (h : l.length = K) (h' : l'.length = K) (e : ∀ j, j < K → l[j]? = l'[j]?) : l = l' := by
  apply List.ext_getElem?
  intro t
  by_cases ht : t < K
  · exact e t ht
  rw [List.getElem?_eq_none (by omega), List.getElem?_eq_none (by omega)]
theorem row_one (K M G i : Nat) (h : i < K) : (List.replicate K (0 : Int)).set i 1 = rowL K M G i := by
  refine row_ext (K := K) (by simp) (rowL_len _ _ _ _) (fun t ht => ?_)
  rw [rowL_get _ _ _ _ _ ht, List.getElem?_set, List.length_replicate]
  unfold rowC
  simp only [if_pos h]
  by_cases e : i = t
  · subst e
    rw [if_pos rfl, if_pos rfl]
  rw [if_neg e, List.getElem?_replicate, if_pos ht, if_neg (fun x => e x.symm)]
/-- The ones of a group, up to a place. -/
def rowG (K G l n : Nat) : List Int := (List.range K).map fun j => if j < n ∧ j % G = l then 1 else 0
theorem rowG_len (K G l n : Nat) : (rowG K G l n).length = K := by unfold rowG; simp
theorem rowG_get (K G l n j : Nat) (h : j < K) : (rowG K G l n)[j]? = some (if j < n ∧ j % G = l then 1 else 0) := by unfold rowG; rw [List.getElem?_map, List.getElem?_range h]; rfl
theorem rowG_zero (K G l : Nat) : List.replicate K (0 : Int) = rowG K G l l := by
  refine row_ext (K := K) (by simp) (rowG_len _ _ _ _) (fun t ht => ?_)
  rw [rowG_get _ _ _ _ _ ht, List.getElem?_replicate, if_pos ht, if_neg]
  rintro ⟨h1, h2⟩
  have := Nat.mod_le t G
  omega
theorem rowG_set (K G l n : Nat) (hl : l < G) (hn : n % G = l) (hK : n < K) : (rowG K G l n).set n 1 = rowG K G l (n + G) := by
  refine row_ext (K := K) (by simp [rowG_len]) (rowG_len _ _ _ _) (fun t ht => ?_)
  rw [rowG_get _ _ _ _ _ ht, List.getElem?_set, rowG_len, rowG_get _ _ _ _ _ ht]
  by_cases e : n = t
  · subst e
    rw [if_pos rfl, if_pos hK, if_pos ⟨by omega, hn⟩]
  rw [if_neg e]
  by_cases h1 : t < n
  · by_cases h2 : t % G = l
    · rw [if_pos ⟨h1, h2⟩, if_pos ⟨by omega, h2⟩]
    rw [if_neg (fun h => h2 h.2), if_neg (fun h => h2 h.2)]
  rw [if_neg (fun h => h1 h.1), if_neg]
  rintro ⟨h2, h3⟩
  have e1 := Nat.div_add_mod t G
  have e2 := Nat.div_add_mod n G
  rw [h3] at e1
  rw [hn] at e2
  have h4 : G * (n / G) < G * (t / G) := by omega
  have h5 : n / G < t / G := Nat.lt_of_mul_lt_mul_left h4
  have h6 : G * (n / G + 1) ≤ G * (t / G) := Nat.mul_le_mul_left G h5
  rw [Nat.mul_add, Nat.mul_one] at h6
  omega
theorem rowG_last (K M G i n : Nat) (h1 : ¬ i < K) (h2 : ¬ i < K + M) (hn : K ≤ n) : rowG K G (i - K - M) n = rowL K M G i := by
  refine row_ext (K := K) (rowG_len _ _ _ _) (rowL_len _ _ _ _) (fun t ht => ?_)
  rw [rowG_get _ _ _ _ _ ht, rowL_get _ _ _ _ _ ht]
  unfold rowC
  rw [if_neg h1, if_neg h2]
  by_cases h3 : t % G = i - K - M
  · rw [if_pos ⟨by omega, h3⟩, if_pos h3]
  rw [if_neg (fun h => h3 h.2), if_neg h3]
/-- The row behind a copy into it. -/
theorem row_after {w2 : World} {base gO K cO : Nat} {curL : List Value} {L : List Int} (hh : w2.heap[gO]? = some (.cells (splice curL 0 (L.map (Value.int .u8))).toArray 5 (0, 0))) (hL : L.length = K) (hc : curL.length = cO) (hK : K ≤ cO) (hm : cO ≤ maxLen) (hb : base ≤ gO) :
    (Kd.int .u8).R 5 w2 base (fun _ => True) (.slice (some ⟨gO, 0, none⟩) K cO) L := by
  subst hL
  refine Kd.R_of_own ⟨by simp [encs], .inr ⟨gO, cO, _, rfl, hb, hh, hK, hm, ?_, ?_⟩⟩ (fun _ _ => trivial)
  · have := length_splice curL 0 (L.map (Value.int .u8)) (by simp; omega)
    simp only [List.size_toArray]
    omega
  · simp only [splice, List.take_zero, List.nil_append, Nat.mul_one, Nat.zero_add]
    rw [List.take_append_of_le_length (by simp), List.take_of_length_le (by simp)]
    rfl
theorem own_cur {w1 : World} {K gO cO e base : Nat} {inn : List Value} (h : w1.ownsRow base e 1 (.slice (some ⟨gO, 0, none⟩) K cO) K inn) :
    ∃ cur : Array Value, w1.heap[gO]? = some (.cells cur.toList.toArray e (0, 0)) ∧ K ≤ cO ∧ cO ≤ maxLen ∧ cur.toList.length = cO := by
  rcases h.2 with ⟨h, _⟩ | ⟨g, cap, cur, he, hb, hh, h1, h2, h3, h4⟩
  · simp at h
  · simp only [Value.slice.injEq, Option.some.injEq, Addr.mk.injEq, and_true, true_and] at he
    obtain ⟨rfl, rfl⟩ := he
    exact ⟨cur, by simpa using hh, h1, h2, by simpa using h3⟩
theorem two_src {w w1 : World} {K M G i bA : Nat} (h1 : ¬ i < K) (h2 : i < K + M) (hb : Aside0 (Below w.heap.size w w1)) {cs : List Value} (hc : ∀ (j : Nat) (u : Value), cs[j]? = some u → w.cell? ((⟨bA, 0, none⟩ : Addr).add ((i - K) * (Kd.raw 33).sz + j)) = some u) (hr : (Kd.raw 33).K w (globAt K (i - K) K) cs) (hK : K ≤ 32 := by omega) :
    ∀ j v, ((rowL K M G i).map (Value.int .u8))[j]? = some v → w1.cell? ((⟨bA, (i - K) * 33 + 1, none⟩ : Addr).add j) = some v := by
  intro j v hv
  rw [List.getElem?_map] at hv
  by_cases hj : j < K
  rotate_left
  · rw [List.getElem?_eq_none (by rw [rowL_len]; omega)] at hv
    simp at hv
  rw [rowL_get _ _ _ _ _ hj] at hv
  obtain rfl := Option.some.inj hv
  obtain ⟨rfl, _, _⟩ := hr
  have h3 := hc (1 + j) (.int .u8 (rowC K M G i j)) (by
    unfold globAt rowAt
    rw [show 1 + j = j + 1 by omega, List.getElem?_cons_succ, List.getElem?_map, List.getElem?_range (by omega)]
    unfold rowC
    rw [if_neg h1, if_pos h2, show K + (i - K) = i by omega]
    show some (Value.int .u8 ((if j < K then tabInv (xr i j) else 0 : Nat) : Int)) = _
    rw [if_pos hj])
  rw [add_plain] at h3
  have h4 := pw_cell_below hb.out h3
  have e : (⟨bA, (i - K) * 33 + 1, none⟩ : Addr).add j = ⟨bA, (i - K) * (Kd.raw 33).sz + (1 + j), none⟩ := by
    have z : (Kd.raw 33).sz = 33 := rfl
    rw [z]
    unfold Addr.add
    split
    · simp_all
    · simp; omega
  rw [e]
  exact h4

set_option maxHeartbeats 8000000 in
set_option maxRecDepth 100000 in
theorem impl_plant_row.one (g K M G i : Nat) (hK1 : 1 ≤ K) (hK : K ≤ 32) (hM : M ≤ 16) (hG : G ≤ 32) (h1 : i < K) (w : World) (hp : PlantIn w g K M G) :
    Calls Try.prog 36 #[.pointer (some ⟨g, 0, none⟩), .int .i64 (i : Int)] w fun e w' => ∃ v, e = .returned v ∧ (Kd.int .u8).R 5 w' w.heap.size (fun _ => True) v (rowL K M G i) ∧ Below w.heap.size w w' := by
  have hk0 := hp.k
  have c1 : decide ((i : Int) < (K : Int)) = true := decide_eq_true (by omega)
  go_enter Try.func36, Try.ntmps36
  go_wp2_with ((with_reducible refine gate_dst (N := 14) rfl ?_); refine Kd.R_make (Kd.int .u8) _ 5 rfl (N := 14) rfl 77 _ _ rfl (K : Int) rfl rfl Try.underlying77 (.int .u8 0) 1 (by kernel_rfl) rfl (by decide) (by omega) 0 (ok := fun _ => True) (okp := fun _ => True) rfl (fun _ hk => hk) trivial (by omega) (by simp; omega) (Below.refl _ _) (Nat.le_refl _) ?_; intro v1 w1 ho hb hg_ hnew_; clear hg_ hnew_; rw [Int.toNat_natCast] at ho; obtain ⟨gO, cO, eO, hgO, hlO, cellsO, hcO⟩ := Kd.R_form ho (by simp; omega); rw [List.length_replicate] at eO; subst eO; have hp1 := hp.below hb; have hk1 := hp1.k; have hm1 := hp1.m; have hn1 := hp1.n; clear hcO; obtain ⟨hx0, hf0⟩ := Kd.R_celln 0 ho (i : Int) (by omega) (by omega); rw [Int.toNat_natCast] at hx0 hf0; have HO := Aside0.mk ho; have HB := Aside0.mk hb; have GO := Aside0.mk hgO; have NEo := Aside0.mk (show g ≠ gO from fun e_ => by have := hp.lt; omega); clear ho hb hgO)
  go_ret
  have h1_ := (Kd.R_putg HO.out (i : Int) 1).1
  rw [Int.toNat_natCast, row_one K M G i h1] at h1_
  exact ⟨_, rfl, h1_, below_set HB.out GO.out⟩
set_option maxHeartbeats 8000000 in
set_option maxRecDepth 100000 in
theorem impl_plant_row.two (g K M G i : Nat) (hK1 : 1 ≤ K) (hK : K ≤ 32) (hM : M ≤ 16) (hG : G ≤ 32) (h1 : ¬ i < K) (h2 : i < K + M) (w : World) (hp : PlantIn w g K M G) :
    Calls Try.prog 36 #[.pointer (some ⟨g, 0, none⟩), .int .i64 (i : Int)] w fun e w' => ∃ v, e = .returned v ∧ (Kd.int .u8).R 5 w' w.heap.size (fun _ => True) v (rowL K M G i) ∧ Below w.heap.size w w' := by
  have hk0 := hp.k
  have c1 : decide ((i : Int) < (K : Int)) = false := decide_eq_false (by omega)
  have c2 : decide ((i : Int) < (K : Int) + (M : Int)) = true := decide_eq_true (by omega)
  have b1 : (K : Int) ≤ 32 := by omega
  have b2 : (M : Int) ≤ 16 := by omega
  obtain ⟨A0, cA0, hA0, hC0⟩ := hp.gl
  obtain ⟨ad, rfl, hcell⟩ := hC0.1.2.2 (by omega)
  obtain ⟨bA, rfl⟩ := hC0.2 _ rfl
  obtain ⟨cs_, hcl_, hcr_, hcc_⟩ := hcell (i - K) (globAt K (i - K) K) (by unfold globs; rw [List.getElem?_map, List.getElem?_range (by omega)]; rfl)
  have hi0 : 0 ≤ (i : Int) - (K : Int) := by omega
  have hi1 : decide ((i : Int) - (K : Int) < (M : Int)) = true := decide_eq_true (by omega)
  have hi2 : ((i : Int) - (K : Int)).toNat = i - K := by omega
  have HCC := Aside0.mk hcc_
  clear hcell hcc_ hC0
  go_enter Try.func36, Try.ntmps36
  go_wp2_with (first | ((with_reducible refine gate_dst (N := 14) rfl ?_); refine Kd.R_make (Kd.int .u8) _ 5 rfl (N := 14) rfl 77 _ _ rfl (K : Int) rfl rfl Try.underlying77 (.int .u8 0) 1 (by kernel_rfl) rfl (by decide) (by omega) 0 (ok := fun _ => True) (okp := fun _ => True) rfl (fun _ hk => hk) trivial (by omega) (by simp; omega) (Below.refl _ _) (Nat.le_refl _) ?_; intro v1 w1 ho hb hg_ hnew_; clear hg_ hnew_; rw [Int.toNat_natCast] at ho; obtain ⟨gO, cO, eO, hgO, hlO, cellsO, hcO⟩ := Kd.R_form ho (by simp; omega); rw [List.length_replicate] at eO; subst eO; have hp1 := hp.below hb; have hk1 := hp1.k; have hm1 := hp1.m; have hn1 := hp1.n; clear hcO; have hA1 : w1.cell? ⟨g, 4, none⟩ = some (.slice (some ⟨bA, 0, none⟩) M cA0) := pw_cell_below hb hA0; have hb0_ := Aside0.mk hb; obtain ⟨inn_, hown_⟩ := Kd.R_own ho; rw [List.length_replicate] at hown_; obtain ⟨cur_, hh_, hcap_, hmx_, hsz_⟩ := own_cur hown_; clear hown_; have HO := Aside0.mk ho; have HB := Aside0.mk hb; have GO := Aside0.mk hgO; have NEo := Aside0.mk (show g ≠ gO from fun e_ => by have := hp.lt; omega); clear ho hb hgO) | ((with_reducible refine gate_dst (N := 78) rfl ?_); with_reducible refine wpList_copy_splice rfl (.tmp 67) (.tmp 77) 77 77 rfl 5 Try.underlying77 (by kernel_rfl) _ _ _ _ _ _ rfl rfl gO 0 cur_.toList 5 hh_ ((rowL K M G i).map (Value.int .u8)) (by rw [List.length_map, rowL_len]; show K = min 32 K; omega) (fun _ => ⟨rfl, _, rfl, two_src h1 h2 hb0_ HCC.out hcr_ hK⟩) (by rw [List.length_map, rowL_len]; omega) (by simp [Value.oneCell']) w.heap.size w HB.out GO.out ?_; intro w2 hg2 hb2; have H2 := Aside0.mk hg2.out; have B2 := Aside0.mk hb2; clear hg2 hb2))
  go_ret
  exact ⟨_, rfl, row_after H2.out (rowL_len _ _ _ _) (by simpa using hsz_) hcap_ hmx_ GO.out, B2.out⟩
/-- A whole struct written. -/
theorem row_put {W : World} {oi : Oper} {a : Act} (ty : TypeId) (x y : Operand) (ho : oi.op = .store ty x y) (g : Nat) (old cells : Array Value) (hx : a.eval x = .pointer (some ⟨g, 0, none⟩)) (hy : a.eval y = .agg cells)
    (hb : W.heap[g]? = some (.cells old ty (0, 0))) (hi : (Try.prog.info? ty).map (·.size) = some cells.size) (hs : old.size = cells.size) (h1 : cells.all (·.oneCell') = true) : (execOp a.eval oi).run Try.prog W = .ok .skip (W.setRow g cells) := by
  unfold execOp
  simp only [ho, hx, hy, Instr.storeAt, Instr.sureAddr, Sem.run_bind, Sem.run_pure, Result.andThen_ok, run_storeVar_row W g ty ty old cells hb hi hs h1]
set_option maxHeartbeats 8000000 in
set_option maxRecDepth 100000 in
theorem impl_plant_row.three (g K M G i : Nat) (hK1 : 1 ≤ K) (hK : K ≤ 32) (hM : M ≤ 16) (hG : G ≤ 32) (h1 : ¬ i < K) (h2 : ¬ i < K + M) (h3 : i < K + M + G) (w : World) (hp : PlantIn w g K M G) :
    Calls Try.prog 36 #[.pointer (some ⟨g, 0, none⟩), .int .i64 (i : Int)] w fun e w' => ∃ v, e = .returned v ∧ (Kd.int .u8).R 5 w' w.heap.size (fun _ => True) v (rowL K M G i) ∧ Below w.heap.size w w' := by
  have hk0 := hp.k
  have c1 : decide ((i : Int) < (K : Int)) = false := decide_eq_false (by omega)
  have c2 : decide ((i : Int) < (K : Int) + (M : Int)) = false := decide_eq_false (by omega)
  have b1 : (K : Int) ≤ 32 := by omega
  have b2 : (M : Int) ≤ 16 := by omega
  have b3 : (i : Int) ≤ 100 := by omega
  obtain ⟨A0, cA0, hA0, hC0⟩ := hp.lo
  obtain ⟨ad, rfl, hcell⟩ := hC0.1.2.2 (by omega)
  obtain ⟨bA, rfl⟩ := hC0.2 _ rfl
  obtain ⟨cs_, hcl_, ⟨rfl, _, _⟩, hcc_⟩ := hcell (i - K - M) (locAt K M (i - K - M)) (by unfold locs; rw [List.getElem?_map, List.getElem?_range (by omega)]; rfl)
  have hq0 := hcc_ 0 _ rfl
  have hq1 := hcc_ 1 _ rfl
  rw [add_plain] at hq0 hq1
  have hL : (i - K - M) < G := by omega
  have Q0 : Aside0 (w.cell? ⟨bA, (i - K - M) * 2, none⟩ = some (.int .i64 ((K + M + (i - K - M) : Nat) : Int))) := ⟨hq0⟩
  have Q1 : Aside0 (w.cell? ⟨bA, (i - K - M) * 2 + 1, none⟩ = some (.int .i64 (((i - K - M) : Nat) : Int))) := ⟨hq1⟩
  have HA0 := Aside0.mk hA0
  clear hcell hcc_ hC0 hq0 hq1 hcl_
  go_enter Try.func36, Try.ntmps36
  go_wp2_with ((with_reducible refine gate_dst (N := 14) rfl ?_); refine Kd.R_make (Kd.int .u8) _ 5 rfl (N := 14) rfl 77 _ _ rfl (K : Int) rfl rfl Try.underlying77 (.int .u8 0) 1 (by kernel_rfl) rfl (by decide) (by omega) 0 (ok := fun _ => True) (okp := fun _ => True) rfl (fun _ hk => hk) trivial (by omega) (by simp; omega) (Below.refl _ _) (Nat.le_refl _) ?_; intro v1 w1 ho hb hg_ hnew_; clear hg_ hnew_; rw [Int.toNat_natCast] at ho; obtain ⟨gO, cO, eO, hgO, hlO, cellsO, hcO⟩ := Kd.R_form ho (by simp; omega); rw [List.length_replicate] at eO; subst eO; have hp1 := hp.below hb; have hk1 := hp1.k; have hm1 := hp1.m; have hn1 := hp1.n; clear hcO; have hA1 : w1.cell? ⟨g, 5, none⟩ = some (.slice (some ⟨bA, 0, none⟩) G cA0) := pw_cell_below hb hA0; have HO := Aside0.mk ho; have HB := Aside0.mk hb; have GO := Aside0.mk hgO; have NEo := Aside0.mk (show g ≠ gO from fun e_ => by have := hp.lt; omega); clear ho hb hgO)
  clear hk0 hk1 hm1 hn1 hp1 hA1 hA0
  have n0_ := Aside0.mk (Kd.R_drew HO.out)
  have n1_ := Aside0.mk (below_drew1 HB.out)
  clear HO HB
  have HO := n0_
  have HB := n1_
  clear n0_ n1_
  have hw1 : IntKind.i64.wrap ((i : Int) - (K : Int)) = ((i - K : Nat) : Int) := by rw [IntKind.wrap_i64]; omega
  have hw2 : IntKind.i64.wrap (((i - K : Nat) : Int) - (M : Int)) = (((i - K - M) : Nat) : Int) := by rw [IntKind.wrap_i64]; omega
  have hL2 : (((i - K - M) : Nat) : Int) < (G : Int) := by omega
  refine start_ (n := 17) (S := fun w' => w'.cell? ⟨g, 5, none⟩ = some (.slice (some ⟨bA, 0, none⟩) G cA0) ∧ w'.cell? ⟨g, 2, none⟩ = some (.int .i64 (M : Int)) ∧ w'.cell? ⟨bA, (i - K - M) * 2, none⟩ = some (.int .i64 ((K + M + (i - K - M) : Nat) : Int)) ∧ w'.cell? ⟨bA, (i - K - M) * 2 + 1, none⟩ = some (.int .i64 (((i - K - M) : Nat) : Int))) (ds := [16]) zf0 (by kernel_rfl) rfl rfl ⟨pw_cell_below HB.out HA0.out, (hp.below HB.out).m, pw_cell_below HB.out Q0.out, pw_cell_below HB.out Q1.out⟩ (fun hHeld => ?_)
  generalize w1.drew = w7 at HO HB hHeld ⊢
  refine pure_ (i := 0) (N := some 20) (v := ?_) (a' := ?_) zf1 rfl rfl (by kernel_rfl) (fun _ _ _ h => h) (Or.inl ⟨by rfl, ?_⟩) ?_ ?_; rotate_left; intro w'; go_simp; with_reducible rfl; rotate_left; simp only [Cap.pz]; rfl
  refine pure_ (i := 1) (N := some 21) (v := ?_) (a' := ?_) zf2 rfl rfl (by kernel_rfl) (fun _ _ _ h => h) (Or.inl ⟨by rfl, ?_⟩) ?_ ?_; rotate_left; intro w'; go_simp; with_reducible rfl; rotate_left; simp only [Cap.pz]; rfl
  refine pure_ (i := 2) (N := some 22) (v := ?_) (a' := ?_) zf3 rfl rfl (by kernel_rfl) (fun _ _ _ h => h) (Or.inl ⟨by rfl, ?_⟩) ?_ ?_; rotate_left; intro w'; go_simp; with_reducible rfl; rotate_left; simp only [Cap.pz]; rfl
  refine take_ (i := 3) (N := some 23) (v := ?_) (a' := ?_) zf144 rfl rfl (by kernel_rfl) (fun _ _ _ h => h) (Or.inl ⟨by rfl, ?_⟩) hHeld ?_ ?_; rotate_left; rintro w' ⟨s0, s1, s2, s3⟩; go_simp; with_reducible rfl; rotate_left; simp only [Cap.pz]; rfl
  refine pure_ (i := 4) (N := some 24) (v := ?_) (a' := ?_) zf145 rfl rfl (by kernel_rfl) (fun _ _ _ h => h) (Or.inl ⟨by rfl, ?_⟩) ?_ ?_; rotate_left; intro w'; go_simp; with_reducible rfl; rotate_left; simp only [Cap.pz]; rfl
  refine pure_ (i := 5) (N := some 25) (v := ?_) (a' := ?_) zf146 rfl rfl (by kernel_rfl) (fun _ _ _ h => h) (Or.inl ⟨by rfl, ?_⟩) ?_ ?_; rotate_left; intro w'; go_simp; with_reducible rfl; rotate_left; simp only [Cap.pz]; rfl
  refine pure_ (i := 6) (N := some 26) (v := ?_) (a' := ?_) zf147 rfl rfl (by kernel_rfl) (fun _ _ _ h => h) (Or.inl ⟨by rfl, ?_⟩) ?_ ?_; rotate_left; intro w'; go_simp; with_reducible rfl; rotate_left; simp only [Cap.pz]; rfl
  refine pure_ (i := 7) (N := some 27) (v := ?_) (a' := ?_) zf148 rfl rfl (by kernel_rfl) (fun _ _ _ h => h) (Or.inl ⟨by rfl, ?_⟩) ?_ ?_; rotate_left; intro w'; go_simp; with_reducible rfl; rotate_left; simp only [Cap.pz]; rfl
  refine pure_ (i := 8) (N := some 28) (v := ?_) (a' := ?_) zf149 rfl rfl (by kernel_rfl) (fun _ _ _ h => h) (Or.inl ⟨by rfl, ?_⟩) ?_ ?_; rotate_left; intro w'; go_simp; with_reducible rfl; rotate_left; simp only [Cap.pz]; rfl
  refine pure_ (i := 9) (N := some 29) (v := ?_) (a' := ?_) zf150 rfl rfl (by kernel_rfl) (fun _ _ _ h => h) (Or.inl ⟨by rfl, ?_⟩) ?_ ?_; rotate_left; intro w'; go_simp; with_reducible rfl; rotate_left; simp only [Cap.pz]; rfl
  refine pure_ (i := 10) (N := some 30) (v := ?_) (a' := ?_) zf151 rfl rfl (by kernel_rfl) (fun _ _ _ h => h) (Or.inl ⟨by rfl, ?_⟩) ?_ ?_; rotate_left; intro w'; go_simp; with_reducible rfl; rotate_left; simp only [Cap.pz]; rfl
  refine take_ (i := 11) (N := some 31) (v := ?_) (a' := ?_) zf12 rfl rfl (by kernel_rfl) (fun _ _ _ h => h) (Or.inl ⟨by rfl, ?_⟩) hHeld ?_ ?_; rotate_left; rintro w' ⟨s0, s1, s2, s3⟩; go_simp; with_reducible rfl; rotate_left; simp only [Cap.pz]; rfl
  refine pure_ (i := 12) (N := some 32) (v := ?_) (a' := ?_) zf13 rfl rfl (by kernel_rfl) (fun _ _ _ h => h) (Or.inl ⟨by rfl, ?_⟩) ?_ ?_; rotate_left; intro w'; go_simp; with_reducible rfl; rotate_left; simp only [Cap.pz]; rfl
  refine pure_ (i := 13) (N := some 33) (v := ?_) (a' := ?_) zf14 rfl rfl (by kernel_rfl) (fun _ _ _ h => h) (Or.inl ⟨by rfl, ?_⟩) ?_ ?_; rotate_left; intro w'; go_simp; with_reducible rfl; rotate_left; simp only [Cap.pz]; rfl
  refine take_ (i := 14) (N := some 34) (v := ?_) (a' := ?_) zf15 rfl rfl (by kernel_rfl) (fun _ _ _ h => h) (Or.inl ⟨by rfl, ?_⟩) hHeld ?_ ?_; rotate_left; rintro w' ⟨s0, s1, s2, s3⟩; go_simp; with_reducible rfl; rotate_left; simp only [Cap.pz]; rfl
  refine one_ (i := 15) (N := some 7) zf16 rfl rfl (by kernel_rfl) (by decide) (fun Kq hK => ?_)
  refine value_ (w1 := ?_) (v := ?_) (by rfl) rfl ?_ ?_
  rotate_left 2
  · go_simp
    constructor
    · rfl
    · rfl
  refine hK.out _ _ ⟨pw_cell_below (below_alloc HB.out _) HA0.out, (hp.below (below_alloc HB.out _)).m, pw_cell_below (below_alloc HB.out _) Q0.out, pw_cell_below (below_alloc HB.out _) Q1.out⟩ (fun hHeld => ?_)
  clear hK Kq
  refine norm_ (a' := ?_) ?_ ?_; rotate_left; show Act.put _ (some 7) _ = _; simp only [Cap.pz]; rfl
  refine last_ (i := 16) (N := none) zf17 rfl rfl (by kernel_rfl) (by decide) (fun Kq hK => ?_)
  have hB2_ := below_alloc HB.out (.cells #[.int .i64 0, .int .i64 0] 63 (0, 0))
  have hn_ := blk_new w7 (.cells #[.int .i64 0, .int .i64 0] 63 (0, 0))
  have hsz_ := below_size HB.out
  refine skip_ (w1 := (w7.alloc (.cells #[.int .i64 0, .int .i64 0] 63 (0, 0))).setRow w7.heap.size #[.int .i64 ((K + M + (i - K - M) : Nat) : Int), .int .i64 (((i - K - M) : Nat) : Int)]) (by rfl) rfl (row_put 63 (.tmp 7) (.tmp 34) rfl w7.heap.size _ _ rfl rfl hn_ (by kernel_rfl) rfl (by simp [Value.oneCell'])) ?_
  refine hK.out _ _ ?_
  clear hK Kq
  refine done_ (by kernel_rfl) ?_
  have hl_ : gO < w7.heap.size := by obtain ⟨_, _, e_, _, h_, _⟩ := Kd.R_form HO.out (by simp; omega); injection e_ with e_ _ _; injection e_ with e_; injection e_ with e_; omega
  have n0_ : Aside0 ((Kd.int .u8).R 5 ((w7.alloc (.cells #[.int .i64 0, .int .i64 0] 63 (0, 0))).setRow w7.heap.size #[.int .i64 ((K + M + (i - K - M) : Nat) : Int), .int .i64 (((i - K - M) : Nat) : Int)]) w.heap.size (fun k => k < w7.heap.size) (.slice (some ⟨gO, 0, none⟩) K cO) (rowG K G (i - K - M) (i - K - M))) := ⟨by rw [← rowG_zero]; exact Kd.R_mono (Kd.R_step (Kd.R_alloc (Kd.R_bound HO.out) _) (fun k hk _ => setRow_other _ _ _ _ (by have := hk.2.2.1; omega))) (fun k hk => hk.2.2.1)⟩
  have n1_ : Aside0 (Below w.heap.size w ((w7.alloc (.cells #[.int .i64 0, .int .i64 0] 63 (0, 0))).setRow w7.heap.size #[.int .i64 ((K + M + (i - K - M) : Nat) : Int), .int .i64 (((i - K - M) : Nat) : Int)])) := ⟨below_row hB2_ hsz_ _⟩
  have hg8_ : ((w7.alloc (.cells #[.int .i64 0, .int .i64 0] 63 (0, 0))).setRow w7.heap.size #[.int .i64 ((K + M + (i - K - M) : Nat) : Int), .int .i64 (((i - K - M) : Nat) : Int)]).heap[w7.heap.size]? = some (.cells #[.int .i64 ((K + M + (i - K - M) : Nat) : Int), .int .i64 (((i - K - M) : Nat) : Int)] 63 (0, 0)) := setRow_heap _ _ _ _ 63 (0, 0) hn_
  clear HO HB hHeld hB2_ hn_ hsz_
  generalize w7.heap.size = gl at n0_ n1_ hg8_ hl_ ⊢
  generalize (w7.alloc (.cells #[.int .i64 0, .int .i64 0] 63 (0, 0))).setRow gl #[.int .i64 ((K + M + (i - K - M) : Nat) : Int), .int .i64 (((i - K - M) : Nat) : Int)] = w8 at n0_ n1_ hg8_ ⊢
  have HO := n0_
  have HB := n1_
  clear n0_ n1_ hl_
  have hl1 : w8.cell? ⟨gl, 1, none⟩ = some (.int .i64 (((i - K - M) : Nat) : Int)) := (blk_cell hg8_ 1).trans rfl
  clear hg8_
  go_wp2
  clear hl1
  go_loopw [8] (fun v8 wr => ∃ d : Nat, d % G = (i - K - M) ∧ d < K + G + G ∧ v8 = .int .i64 (d : Int) ∧ Aside0 ((Kd.int .u8).R 5 wr w.heap.size (fun _ => True) (.slice (some ⟨gO, 0, none⟩) K cO) (rowG K G (i - K - M) d)) ∧ Aside0 (Below w.heap.size w wr)) (fun v8 _ => K + 1 - (intOf v8).toNat)
  case atStart => exact ⟨(i - K - M), Nat.mod_eq_of_lt hL, by omega, rfl, ⟨Kd.R_mono HO.out (fun _ _ => trivial)⟩, HB⟩
  case round =>
    clear HO HB
    obtain ⟨d, hd1, hd2, rfl, HO, HB⟩ := hrel
    by_cases hlt : d < K
    rotate_left
    · have c3 : decide ((d : Int) < (K : Int)) = false := decide_eq_false (by omega)
      go_wp2
      go_ret
      exact ⟨_, rfl, by rw [← rowG_last K M G i d h1 h2 (by omega)]; exact HO.out, HB.out⟩
    have c3 : decide ((d : Int) < (K : Int)) = true := decide_eq_true (by omega)
    have b4 : (G : Int) ≤ 32 := by omega
    have b5 : (d : Int) ≤ 32 := by omega
    obtain ⟨hx0, hf0⟩ := Kd.R_celln 0 HO.out (d : Int) (by omega) (by omega)
    rw [Int.toNat_natCast] at hx0 hf0
    have hk1 := (hp.below HB.out).k
    have hn1 := (hp.below HB.out).n
    have hn2 : (wr.setCell ⟨gO, d, none⟩ (.int .u8 1)).cell? ⟨g, 3, none⟩ = some (.int .i64 (G : Int)) := (World.cell?_setCell_far _ _ _ _ (by have := NEo.out; exact fun e => this e.symm)).trans hn1
    go_wp2
    go_roundw
    case rel => exact ⟨d + G, by rw [Nat.add_mod_right]; exact hd1, by omega, by go_num, ⟨by have h := (Kd.R_putg HO.out (d : Int) 1).1; rw [Int.toNat_natCast, rowG_set K G _ d hL hd1 hlt] at h; exact h⟩, ⟨below_set HB.out GO.out⟩⟩
    case measure => simp [intOf]; omega
theorem impl_plant_row.callsN (g K M G i : Nat) (hK1 : 1 ≤ K) (hK : K ≤ 32) (hM : M ≤ 16) (hG : G ≤ 32) (hi : i < K + M + G) (w : World) (hp : PlantIn w g K M G) :
  Calls Try.prog 36 #[.pointer (some ⟨g, 0, none⟩), .int .i64 (i : Int)] w fun e w' => ∃ v, e = .returned v ∧ (Kd.int .u8).R 5 w' w.heap.size (fun _ => True) v (rowL K M G i) ∧ Below w.heap.size w w' := by
 by_cases h1 : i < K
 ·
  exact impl_plant_row.one g K M G i hK1 hK hM hG h1 w hp
 by_cases h2 : i < K + M
 ·
  exact impl_plant_row.two g K M G i hK1 hK hM hG h1 h2 w hp
 exact impl_plant_row.three g K M G i hK1 hK hM hG h1 h2 (by omega) w hp
def impl_plant_row.f (p i : Int) : Option (List Int) := if 0 ≤ i ∧ i < pK p + pM p + pG p then some (rowL (pK p) (pM p) (pG p) i.toNat) else none
theorem impl_plant_row.calls {p : Int} (g : Nat) (i : Int) (r : List Int) (w : World) (h : impl_plant_row.f p i = some r) (hp : PlantAt w g p) :
  Calls Try.prog 36 #[.pointer (some ⟨g, 0, none⟩), .int .i64 i] w fun e w' => ∃ v, e = .returned v ∧ Kd.R (Kd.int .u8) 5 w' w.heap.size (fun _ => True) v r ∧ Below w.heap.size w w' := by
 unfold impl_plant_row.f at h
 by_cases hc : 0 ≤ i ∧ i < pK p + pM p + pG p
 rotate_left
 ·
  rw [if_neg hc] at h
  exact absurd h (by simp)
 rw [if_pos hc] at h
 obtain rfl := Option.some.inj h
 obtain ⟨i, rfl⟩ := Int.eq_ofNat_of_zero_le hc.1
 exact impl_plant_row.callsN g (pK p) (pM p) (pG p) i hp.k1 hp.k2 hp.m2 hp.g2 (by omega) w hp.at_

/-! ### impl_leadOf: function 37 -/
def impl_leadOf.l0 : Nat → List Int → Int → Int → Option (Int)
  | 0, _, _, _ => none
  | k + 1, x5, x6, x7 => if x7 < x6 then (if 0 ≤ x7 then (if x7 < (x5.length : Int) then (if (rd x5 x7) = 0 then (impl_leadOf.l0 k x5 x6 (wrap64 (x7 + 1))) else (some x7)) else (none)) else (none)) else (some (-1))
def impl_leadOf.f (k : Nat) (l0 : List Int) : Option (Int) := impl_leadOf.l0 k l0 (l0.length : Int) 0
theorem impl_leadOf.mono_l : ∀ k, (∀ y0 y1 y2, LeO (impl_leadOf.l0 k y0 y1 y2) (impl_leadOf.l0 (k + 1) y0 y1 y2))
  | 0 => fun _ _ _ r h => by simp [impl_leadOf.l0] at h
  | k + 1 => by
    have ih0 := impl_leadOf.mono_l k
    · intro y0 y1 y2
      unfold impl_leadOf.l0
      repeat' first
      | (with_reducible exact ih0 _ _ _)
      | (with_reducible exact LeO.refl _)
      | (with_reducible exact LeO.none _)
      | (with_reducible refine LeO.ite ?_ ?_)
      | (with_reducible refine LeO.bind ?_ (fun _ => ?_))
      | exact ih0 _ _ _
      | exact LeO.none _
      | refine LeO.ite ?_ ?_
      | refine LeO.bind ?_ (fun _ => ?_)
theorem impl_leadOf.mono : ∀ a0 k, LeO (impl_leadOf.f k a0) (impl_leadOf.f (k + 1) a0) := by
  intro a0 k
  have ih0 := impl_leadOf.mono_l k
  unfold impl_leadOf.f
  repeat' first
      | (with_reducible exact ih0 _ _ _)
      | (with_reducible exact LeO.refl _)
      | (with_reducible exact LeO.none _)
      | (with_reducible refine LeO.ite ?_ ?_)
      | (with_reducible refine LeO.bind ?_ (fun _ => ?_))
      | exact ih0 _ _ _
      | exact LeO.none _
      | refine LeO.ite ?_ ?_
      | refine LeO.bind ?_ (fun _ => ?_)
set_option maxHeartbeats 8000000 in
set_option maxRecDepth 100000 in
theorem impl_leadOf.calls (k : Nat) (A0 : Option Addr) (c0 : Nat) (l0 : List Int) (r : Int) (w : World) (hr0 : Kd.C (Kd.int .u8) w A0 l0.length l0) (hc0 : l0.length ≤ c0) (h : impl_leadOf.f k l0 = some r) :
  Calls Try.prog 37 #[.slice A0 l0.length c0] w fun e w' => e = .returned (.int .i64 r) ∧ Drawn0 w w' := by
 have HR0 := Aside0.mk hr0
 have HC0 := Aside0.mk hc0
 clear hr0 hc0
 have H : (impl_leadOf.l0 k l0 (l0.length : Int) 0) = some r := h
 clear h
 have H' := Aside0.mk H
 clear H
 go_enter Try.func37, Try.ntmps37
 go_wp2
 go_loopg [7] k (fun kq v7 w' => ∃ (x7_1 : Int), v7 = .int .i64 x7_1 ∧ Aside0 (impl_leadOf.l0 kq l0 (l0.length : Int) x7_1 = some r) ∧ Aside0 (kq ≤ k) ∧ Drawn0 w w')
 case atStart => exact ⟨(0), (by first | rfl | (simp; done) | (simp [*]; done)), H', ⟨Nat.le_refl _⟩, by repeat (first | exact Drawn0.refl _ | apply Drawn0.step)⟩
 case round =>
  clear H'
  obtain ⟨x7_1, rfl, HA, HK1, ⟨m1, rfl⟩⟩ := hrel
  cases gk with
  | zero => exact absurd HA.out (by simp [impl_leadOf.l0])
  | succ k1 =>
   have H := HA.out
   clear HA
   simp only [impl_leadOf.l0] at H
   by_cases c2 : x7_1 < (l0.length : Int)
   rotate_left
   ·
    rw [if_neg c2] at H
    have c2b0 : decide (x7_1 < (l0.length : Int)) = false := decide_eq_false c2
    clear c2
    obtain rfl := Option.some.inj H
    go_wp2
    go_ret
    exact ⟨by first | rfl | (simp; done) | (simp [*]; done), by repeat (first | exact Drawn0.refl _ | apply Drawn0.step)⟩
   rw [if_pos c2] at H
   have c2b0 : decide (x7_1 < (l0.length : Int)) = true := decide_eq_true c2
   clear c2
   by_cases c3 : 0 ≤ x7_1
   rotate_left
   ·
    rw [if_neg c3] at H
    exact absurd H (by simp)
   rw [if_pos c3] at H
   have c3b0 : decide (0 ≤ x7_1) = true := decide_eq_true c3
   clear c3
   by_cases c4 : x7_1 < (l0.length : Int)
   rotate_left
   ·
    exact absurd (of_decide_eq_true c2b0) c4
   rw [if_pos c4] at H
   have c4b0 : decide (x7_1 < (l0.length : Int)) = true := decide_eq_true c4
   clear c4
   by_cases c5 : (rd l0 x7_1) = 0
   rotate_left
   ·
    rw [if_neg c5] at H
    have c5b0 : ((rd l0 x7_1) == 0) = false := beq_eq_false_iff_ne.mpr c5
    have c5b1 : ((rd l0 x7_1) != 0) = true := bne_iff_ne.mpr c5
    obtain rfl := Option.some.inj H
    have p233 : 0 ≤ (x7_1 : Int) := of_decide_eq_true (by first | (with_reducible assumption) | assumption)
    have q233 : x7_1 < (l0.length : Int) := of_decide_eq_true (by first | (with_reducible assumption) | assumption)
    obtain ⟨ad233, e233, hx233_0⟩ := Kd.at_int HR0.out x7_1 p233 q233
    cases e233
    replace p233 := eq_true p233
    replace q233 := eq_true q233
    go_wp2
    go_ret
    exact ⟨by first | rfl | (simp; done) | (simp [*]; done), by repeat (first | exact Drawn0.refl _ | apply Drawn0.step)⟩
   rw [if_pos c5] at H
   have c5b0 : ((rd l0 x7_1) == 0) = true := beq_iff_eq.mpr c5
   have c5b1 : ((rd l0 x7_1) != 0) = false := bne_eq_false_iff_eq.mpr c5
   clear c5
   have H' := Aside0.mk H
   clear H
   have p233 : 0 ≤ (x7_1 : Int) := of_decide_eq_true (by first | (with_reducible assumption) | assumption)
   have q233 : x7_1 < (l0.length : Int) := of_decide_eq_true (by first | (with_reducible assumption) | assumption)
   obtain ⟨ad233, e233, hx233_0⟩ := Kd.at_int HR0.out x7_1 p233 q233
   cases e233
   replace p233 := eq_true p233
   replace q233 := eq_true q233
   go_wp2
   go_roundg k1
   case measure => have := HK1.out; omega
   case rel => exact ⟨(wrap64 (x7_1 + 1)), (by first | rfl | (simp; done) | (simp [*]; done)), H', ⟨by have := HK1.out; omega⟩, by repeat (first | exact Drawn0.refl _ | apply Drawn0.step)⟩

/-! ### impl_tables8_mul: function 38 -/
/-- The table's product. -/
def tabMul (a b : Nat) : Nat := if a = 0 then 0 else if b = 0 then 0 else tE 255 (lg a + lg b)
def impl_tables8_mul.f (_ : Int) (a : Int) (b : Int) : Option (Int) := if 0 ≤ a ∧ a < 256 ∧ 0 ≤ b ∧ b < 256 then some ((tabMul a.toNat b.toNat : Nat) : Int) else none
theorem impl_tables8_mul.callsN (g : Nat) (a : Nat) (ha : a < 256) (b : Nat) (hb : b < 256) (w : World) (hT : TabInv w g 255) :
  Calls Try.prog 38 #[.pointer (some ⟨g, 0, none⟩), .int .u8 (a : Int), .int .u8 (b : Int)] w fun e w' => e = .returned (.int .u8 ((tabMul a b : Nat) : Int)) ∧ Drawn0 w w' := by
 by_cases h0 : a = 0
 ·
  subst h0
  go_enter Try.func38, Try.ntmps38
  go_wp2
  go_ret
  exact ⟨rfl, Drawn0.refl _⟩
 have c0 : ((a : Int) == 0) = false := beq_eq_false_iff_ne.mpr (by omega)
 by_cases h1 : b = 0
 ·
  subst h1
  have e : tabMul a 0 = 0 := by unfold tabMul; rw [if_neg h0, if_pos rfl]
  rw [e]
  go_enter Try.func38, Try.ntmps38
  go_wp2
  go_ret
  exact ⟨rfl, Drawn0.refl _⟩
 have c1 : ((b : Int) == 0) = false := beq_eq_false_iff_ne.mpr (by omega)
 obtain ⟨l0, _⟩ := lg_facts ⟨a, ha⟩
 obtain ⟨l1, _⟩ := lg_facts ⟨b, hb⟩
 simp only at l0 l1
 have e0 : tL 255 a = lg a := by unfold tL; rw [if_pos ⟨h0, l0⟩]
 have e1 : tL 255 b = lg b := by unfold tL; rw [if_pos ⟨h1, l1⟩]
 have hl := hT.log a ha
 rw [e0] at hl
 have hm := hT.log b hb
 rw [e1] at hm
 have he := hT.exp (lg a + lg b) (by omega)
 have hw : IntKind.i64.wrap ((lg a : Int) + (lg b : Int)) = ((lg a + lg b : Nat) : Int) := by rw [IntKind.wrap_i64]; omega
 have hr : tabMul a b = tE 255 (lg a + lg b) := by unfold tabMul; rw [if_neg h0, if_neg h1]
 rw [hr]
 have b0 : (a : Int) < 256 := by omega
 have b2 : (b : Int) < 256 := by omega
 have b1 : ((lg a + lg b : Nat) : Int) < 512 := by omega
 have hl2 : w.drew.cell? ⟨g, 512 + a, none⟩ = some (.int .i64 ((lg a : Nat) : Int)) := hl
 have hm2 : w.drew.cell? ⟨g, 512 + b, none⟩ = some (.int .i64 ((lg b : Nat) : Int)) := hm
 have he2 : w.drew.cell? ⟨g, lg a + lg b, none⟩ = some (.int .u8 ((tE 255 (lg a + lg b) : Nat) : Int)) := he
 go_enter Try.func38, Try.ntmps38
 go_wp2
 go_region
 all_goals go_wp2
 all_goals go_ret
 all_goals exact ⟨rfl, ⟨⟨1, rfl⟩⟩⟩
theorem impl_tables8_mul.calls {t : Int} (g : Nat) (a : Int) (b : Int) (r : Int) (w : World) (h : impl_tables8_mul.f t a b = some r) (hT : TabInv w g 255) :
  Calls Try.prog 38 #[.pointer (some ⟨g, 0, none⟩), .int .u8 a, .int .u8 b] w fun e w' => e = .returned (.int .u8 r) ∧ Drawn0 w w' := by
 unfold impl_tables8_mul.f at h
 by_cases hc : 0 ≤ a ∧ a < 256 ∧ 0 ≤ b ∧ b < 256
 rotate_left
 ·
  rw [if_neg hc] at h; cases h
 rw [if_pos hc] at h
 obtain ⟨ha0, ha1, hb0, hb1⟩ := hc
 obtain ⟨m, rfl⟩ := Int.eq_ofNat_of_zero_le ha0
 obtain ⟨n, rfl⟩ := Int.eq_ofNat_of_zero_le hb0
 obtain rfl := Option.some.inj h
 exact impl_tables8_mul.callsN g m (by omega) n (by omega) w hT

end Go.Proofs.Yteflpfkfmohenaa.QFnExactRepairPlan
