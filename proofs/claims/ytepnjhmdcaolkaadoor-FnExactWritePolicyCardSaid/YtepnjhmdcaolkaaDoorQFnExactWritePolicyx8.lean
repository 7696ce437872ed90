-- A text of this session, printed by a program of its own (wip/tools: xpatch.py, xprint.sh, mkq.py). No condition.
import Derived.Test.YtepnjhmdcaolkaaDoorQFnExactWritePolicyx0
import Derived.Test.YtepnjhmdcaolkaaDoorQFnExactWritePolicyx6
import Derived.Test.YtepnjhmdcaolkaaDoorQFnExactWritePolicyx7
namespace Go.Proofs.YtepnjhmdcaolkaaDoor.QFnExactWritePolicy
open Go.RowKit Go.Proofs.YtepnjhmdcaolkaaDoorW.PrintWords Go.Proofs.YtepnjhmdcaolkaaDoorW.PrintLast Go.Proofs.YtepnjhmdcaolkaaDoorW.PrintMore
attribute [local go_sem] max2_int min2_int max_two min_two max_three min_three max_four min_four   -- for this text's walks alone
set_option linter.unusedVariables false
set_option linter.unusedSimpArgs false

/-! ### impl_PolicyFault: function 35 -/
mutual
def impl_PolicyFault.l0 : Nat → List (S58) → Int → Int → Option (Int)
  | 0, _, _, _ => none
  | k + 1, x10, x11, x12 => if x12 < x11 then (if 0 ≤ x12 then (if x12 < (x10.length : Int) then (if ((rd_T58 x10 x12).f0) = 1 then ((impl_listFault.f k ((rd_T58 x10 x12).f1)).bind fun t215 => (if t215 = true then (impl_PolicyFault.j1 k x10 x11 x12 true ((rd_T58 x10 x12).f0) ((rd_T58 x10 x12).f1) ((rd_T58 x10 x12).f2) ((rd_T58 x10 x12).f3) ((rd_T58 x10 x12).f4)) else ((impl_listFault.f k ((rd_T58 x10 x12).f2)).bind fun t216 => (if t216 = true then (impl_PolicyFault.j1 k x10 x11 x12 true ((rd_T58 x10 x12).f0) ((rd_T58 x10 x12).f1) ((rd_T58 x10 x12).f2) ((rd_T58 x10 x12).f3) ((rd_T58 x10 x12).f4)) else ((impl_listFault.f k ((rd_T58 x10 x12).f3)).bind fun t217 => (if t217 = true then (impl_PolicyFault.j1 k x10 x11 x12 true ((rd_T58 x10 x12).f0) ((rd_T58 x10 x12).f1) ((rd_T58 x10 x12).f2) ((rd_T58 x10 x12).f3) ((rd_T58 x10 x12).f4)) else (impl_PolicyFault.j1 k x10 x11 x12 (decide ((((rd_T58 x10 x12).f4).length : Int) > 10)) ((rd_T58 x10 x12).f0) ((rd_T58 x10 x12).f1) ((rd_T58 x10 x12).f2) ((rd_T58 x10 x12).f3) ((rd_T58 x10 x12).f4)))))))) else (if ((rd_T58 x10 x12).f0) = 2 then ((impl_listFault.f k ((rd_T58 x10 x12).f1)).bind fun t218 => (if t218 = true then (impl_PolicyFault.j1 k x10 x11 x12 true ((rd_T58 x10 x12).f0) ((rd_T58 x10 x12).f1) ((rd_T58 x10 x12).f2) ((rd_T58 x10 x12).f3) ((rd_T58 x10 x12).f4)) else ((impl_listFault.f k ((rd_T58 x10 x12).f2)).bind fun t219 => (if t219 = true then (impl_PolicyFault.j1 k x10 x11 x12 true ((rd_T58 x10 x12).f0) ((rd_T58 x10 x12).f1) ((rd_T58 x10 x12).f2) ((rd_T58 x10 x12).f3) ((rd_T58 x10 x12).f4)) else ((impl_listFault.f k ((rd_T58 x10 x12).f3)).bind fun t220 => (if t220 = true then (impl_PolicyFault.j1 k x10 x11 x12 true ((rd_T58 x10 x12).f0) ((rd_T58 x10 x12).f1) ((rd_T58 x10 x12).f2) ((rd_T58 x10 x12).f3) ((rd_T58 x10 x12).f4)) else (impl_PolicyFault.j1 k x10 x11 x12 (decide ((((rd_T58 x10 x12).f4).length : Int) > 10)) ((rd_T58 x10 x12).f0) ((rd_T58 x10 x12).f1) ((rd_T58 x10 x12).f2) ((rd_T58 x10 x12).f3) ((rd_T58 x10 x12).f4)))))))) else (impl_PolicyFault.j1 k x10 x11 x12 true ((rd_T58 x10 x12).f0) ((rd_T58 x10 x12).f1) ((rd_T58 x10 x12).f2) ((rd_T58 x10 x12).f3) ((rd_T58 x10 x12).f4)))) else (none)) else (none)) else (some 0)
def impl_PolicyFault.j1 : Nat → List (S58) → Int → Int → Bool → Int → List ByteArray → List ByteArray → List ByteArray → List (S61) → Option (Int)
  | 0, _, _, _, _, _, _, _, _, _ => none
  | k + 1, x10, x11, x12, x44, x215000, x215001, x215002, x215003, x215004 => if x44 = true then (some 1) else (impl_PolicyFault.l1 k x10 x11 x12 x215004 (x215004.length : Int) 0)
def impl_PolicyFault.l1 : Nat → List (S58) → Int → Int → List (S61) → Int → Int → Option (Int)
  | 0, _, _, _, _, _, _ => none
  | k + 1, x10, x11, x12, x46, x47, x48 => if x48 < x47 then (if 0 ≤ x48 then (if x48 < (x46.length : Int) then ((impl_conditionFault.f k ((rd_T61 x46 x48).f0) ((rd_T61 x46 x48).f1) ((rd_T61 x46 x48).f2)).bind fun t223 => (if t223 = true then (some 1) else (impl_PolicyFault.l1 k x10 x11 x12 x46 x47 (wrap64 (x48 + 1))))) else (none)) else (none)) else (impl_PolicyFault.l0 k x10 x11 (wrap64 (x12 + 1)))
end
def impl_PolicyFault.f (k : Nat) (l0 : List (S58)) : Option (Int) := if (l0.length : Int) > 50 then (some 1) else (impl_PolicyFault.l0 k l0 (l0.length : Int) 0)
theorem impl_PolicyFault.mono_l : ∀ k, (∀ y0 y1 y2, LeO (impl_PolicyFault.l0 k y0 y1 y2) (impl_PolicyFault.l0 (k + 1) y0 y1 y2)) ∧ (∀ y0 y1 y2 y3 y4 y5 y6 y7 y8, LeO (impl_PolicyFault.j1 k y0 y1 y2 y3 y4 y5 y6 y7 y8) (impl_PolicyFault.j1 (k + 1) y0 y1 y2 y3 y4 y5 y6 y7 y8)) ∧ (∀ y0 y1 y2 y3 y4 y5, LeO (impl_PolicyFault.l1 k y0 y1 y2 y3 y4 y5) (impl_PolicyFault.l1 (k + 1) y0 y1 y2 y3 y4 y5))
  | 0 => ⟨fun _ _ _ r h => by simp [impl_PolicyFault.l0] at h, fun _ _ _ _ _ _ _ _ _ r h => by simp [impl_PolicyFault.j1] at h, fun _ _ _ _ _ _ r h => by simp [impl_PolicyFault.l1] at h⟩
  | k + 1 => by
    obtain ⟨ih0, ih1, ih2⟩ := impl_PolicyFault.mono_l k
    refine ⟨?_, ?_, ?_⟩
    · intro y0 y1 y2
      unfold impl_PolicyFault.l0
      repeat' first
      | (with_reducible exact ih0 _ _ _)
      | (with_reducible exact ih1 _ _ _ _ _ _ _ _ _)
      | (with_reducible exact ih2 _ _ _ _ _ _)
      | (with_reducible exact impl_conditionFault.mono _ _ _ _)
      | (with_reducible exact impl_listFault.mono _ _)
      | (with_reducible exact LeO.refl _)
      | (with_reducible exact LeO.none _)
      | (with_reducible refine LeO.ite ?_ ?_)
      | (with_reducible refine LeO.bind ?_ (fun _ => ?_))
      | exact ih0 _ _ _
      | exact ih1 _ _ _ _ _ _ _ _ _
      | exact ih2 _ _ _ _ _ _
      | exact impl_conditionFault.mono _ _ _ _
      | exact impl_listFault.mono _ _
      | exact LeO.none _
      | refine LeO.ite ?_ ?_
      | refine LeO.bind ?_ (fun _ => ?_)
    · intro y0 y1 y2 y3 y4 y5 y6 y7 y8
      unfold impl_PolicyFault.j1
      repeat' first
      | (with_reducible exact ih0 _ _ _)
      | (with_reducible exact ih1 _ _ _ _ _ _ _ _ _)
      | (with_reducible exact ih2 _ _ _ _ _ _)
      | (with_reducible exact impl_conditionFault.mono _ _ _ _)
      | (with_reducible exact impl_listFault.mono _ _)
      | (with_reducible exact LeO.refl _)
      | (with_reducible exact LeO.none _)
      | (with_reducible refine LeO.ite ?_ ?_)
      | (with_reducible refine LeO.bind ?_ (fun _ => ?_))
      | exact ih0 _ _ _
      | exact ih1 _ _ _ _ _ _ _ _ _
      | exact ih2 _ _ _ _ _ _
      | exact impl_conditionFault.mono _ _ _ _
      | exact impl_listFault.mono _ _
      | exact LeO.none _
      | refine LeO.ite ?_ ?_
      | refine LeO.bind ?_ (fun _ => ?_)
    · intro y0 y1 y2 y3 y4 y5
      unfold impl_PolicyFault.l1
      repeat' first
      | (with_reducible exact ih0 _ _ _)
      | (with_reducible exact ih1 _ _ _ _ _ _ _ _ _)
      | (with_reducible exact ih2 _ _ _ _ _ _)
      | (with_reducible exact impl_conditionFault.mono _ _ _ _)
      | (with_reducible exact impl_listFault.mono _ _)
      | (with_reducible exact LeO.refl _)
      | (with_reducible exact LeO.none _)
      | (with_reducible refine LeO.ite ?_ ?_)
      | (with_reducible refine LeO.bind ?_ (fun _ => ?_))
      | exact ih0 _ _ _
      | exact ih1 _ _ _ _ _ _ _ _ _
      | exact ih2 _ _ _ _ _ _
      | exact impl_conditionFault.mono _ _ _ _
      | exact impl_listFault.mono _ _
      | exact LeO.none _
      | refine LeO.ite ?_ ?_
      | refine LeO.bind ?_ (fun _ => ?_)
theorem impl_PolicyFault.mono : ∀ a0 k, LeO (impl_PolicyFault.f k a0) (impl_PolicyFault.f (k + 1) a0) := by
  intro a0 k
  obtain ⟨ih0, ih1, ih2⟩ := impl_PolicyFault.mono_l k
  unfold impl_PolicyFault.f
  repeat' first
      | (with_reducible exact ih0 _ _ _)
      | (with_reducible exact ih1 _ _ _ _ _ _ _ _ _)
      | (with_reducible exact ih2 _ _ _ _ _ _)
      | (with_reducible exact impl_conditionFault.mono _ _ _ _)
      | (with_reducible exact impl_listFault.mono _ _)
      | (with_reducible exact LeO.refl _)
      | (with_reducible exact LeO.none _)
      | (with_reducible refine LeO.ite ?_ ?_)
      | (with_reducible refine LeO.bind ?_ (fun _ => ?_))
      | exact ih0 _ _ _
      | exact ih1 _ _ _ _ _ _ _ _ _
      | exact ih2 _ _ _ _ _ _
      | exact impl_conditionFault.mono _ _ _ _
      | exact impl_listFault.mono _ _
      | exact LeO.none _
      | refine LeO.ite ?_ ?_
      | refine LeO.bind ?_ (fun _ => ?_)
set_option maxHeartbeats 8000000 in
set_option maxRecDepth 100000 in
theorem impl_PolicyFault.calls (k : Nat) (A0 : Option Addr) (c0 : Nat) (l0 : List (S58)) (r : Int) (w : World) (hr0 : Kd.C k58 w A0 l0.length l0) (hc0 : l0.length ≤ c0) (h : impl_PolicyFault.f k l0 = some r) :
  Calls Tryd.prog 35 #[.slice A0 l0.length c0] w fun e w' => e = .returned (.int .i64 r) ∧ Below w.heap.size w w' := by
 have hu58 := Tryd.underlying58
 have hu61 := Tryd.underlying61
 have HR0 := Aside0.mk hr0
 have HC0 := Aside0.mk hc0
 clear hr0 hc0
 have HB := Aside0.mk (Below.refl w.heap.size w)
 have H : (if (l0.length : Int) > 50 then (some 1) else (impl_PolicyFault.l0 k l0 (l0.length : Int) 0)) = some r := h
 clear h
 by_cases c2 : (l0.length : Int) > 50
 ·
  rw [if_pos c2] at H
  have c2b0 : decide (50 < (l0.length : Int)) = true := decide_eq_true c2
  have c2b1 : decide (50 < l0.length) = true := decide_eq_true (by omega)
  clear c2
  obtain rfl := Option.some.inj H
  go_enter Tryd.func35, Tryd.ntmps35
  go_wp2
  go_ret
  exact ⟨by first | rfl | (simp [errW_none, errW_some] <;> rfl) | (simp [*, errW_none, errW_some] <;> rfl), by first | exact Grow.bl HB.out | exact HB.out⟩
 rw [if_neg c2] at H
 have c2b0 : decide (50 < (l0.length : Int)) = false := decide_eq_false c2
 have c2b1 : decide (50 < l0.length) = false := decide_eq_false (by omega)
 clear c2
 have H' := Aside0.mk H
 clear H
 go_enter Tryd.func35, Tryd.ntmps35
 go_wp2
 go_loopg [12] k (fun kq v12 w' => ∃ (x12_1 : Int), v12 = .int .i64 x12_1 ∧ Aside0 (impl_PolicyFault.l0 kq l0 (l0.length : Int) x12_1 = some r) ∧ Aside0 (kq ≤ k) ∧ Aside0 (Below w.heap.size w w'))
 case atStart => exact ⟨(0), (by first | rfl | (simp; done) | (simp [*]; done)), H', ⟨Nat.le_refl _⟩, ⟨by first | exact Grow.bl HB.out | exact HB.out⟩⟩
 case round =>
  clear H'
  try clear c2
  try clear c2b0
  try clear c2b1
  try clear p2
  obtain ⟨x12_1, rfl, HA, HK1, HB⟩ := hrel
  cases gk with
  | zero => exact absurd HA.out (by simp [impl_PolicyFault.l0])
  | succ k1 =>
   have H := HA.out
   clear HA
   simp only [impl_PolicyFault.l0] at H
   by_cases c3 : x12_1 < (l0.length : Int)
   rotate_left
   ·
    rw [if_neg c3] at H
    have c3b0 : decide (x12_1 < (l0.length : Int)) = false := decide_eq_false c3
    clear c3
    obtain rfl := Option.some.inj H
    go_wp2
    go_ret
    exact ⟨by first | rfl | (simp [errW_none, errW_some] <;> rfl) | (simp [*, errW_none, errW_some] <;> rfl), by first | exact Grow.bl HB.out | exact HB.out⟩
   rw [if_pos c3] at H
   have c3b0 : decide (x12_1 < (l0.length : Int)) = true := decide_eq_true c3
   clear c3
   by_cases c4 : 0 ≤ x12_1
   rotate_left
   ·
    rw [if_neg c4] at H
    exact absurd H (by simp)
   rw [if_pos c4] at H
   have c4b0 : decide (0 ≤ x12_1) = true := decide_eq_true c4
   clear c4
   by_cases c5 : x12_1 < (l0.length : Int)
   rotate_left
   ·
    rw [if_neg c5] at H
    exact absurd H (by simp)
   rw [if_pos c5] at H
   have c5b0 : decide (x12_1 < (l0.length : Int)) = true := decide_eq_true c5
   clear c5
   have HC6 := Aside0.mk H
   clear H
   have p213 : 0 ≤ (x12_1 : Int) := of_decide_eq_true (by first | (with_reducible assumption) | assumption)
   have q213 : x12_1 < (l0.length : Int) := of_decide_eq_true (by first | (with_reducible assumption) | assumption)
   obtain ⟨ad213, A213_1, c213_1, A213_2, c213_2, A213_3, c213_3, A213_4, c213_4, e213, hx213_0, hx213_1, hx213_2, hx213_3, hx213_4, hl213_1, hi213_1, hl213_2, hi213_2, hl213_3, hi213_3, hl213_4, hi213_4⟩ := at_T58 HR0.out x12_1 p213 q213
   cases e213
   replace hx213_0 := Grow.bc HB.out hx213_0
   replace hx213_1 := Grow.bc HB.out hx213_1
   replace hx213_2 := Grow.bc HB.out hx213_2
   replace hx213_3 := Grow.bc HB.out hx213_3
   replace hx213_4 := Grow.bc HB.out hx213_4
   have HR213_1 := Aside0.mk hi213_1
   have HC213_1 := Aside0.mk hl213_1
   clear hi213_1 hl213_1
   have HR213_2 := Aside0.mk hi213_2
   have HC213_2 := Aside0.mk hl213_2
   clear hi213_2 hl213_2
   have HR213_3 := Aside0.mk hi213_3
   have HC213_3 := Aside0.mk hl213_3
   clear hi213_3 hl213_3
   have HR213_4 := Aside0.mk hi213_4
   have HC213_4 := Aside0.mk hl213_4
   clear hi213_4 hl213_4
   replace p213 := eq_true p213
   replace q213 := eq_true q213
   go_upto_region 6 with (first | ((with_reducible refine gate_dst (N := 4) rfl ?_); (try (refine gate_guard (by rfl) ?_; dsimp only)); refine box_event ?hg (N := 4) ?hd (cs := #[.int .i64 0, .slice none 0 0, .slice none 0 0, .slice none 0 0, .slice none 0 0]) (t := 58) ?hr ?_; (case hd => rfl); (case hg => rfl); (case hr => first | (go_simp; done) | (go_simp; rfl)); intro gb214 hg w7 hbox hb; have n0_ := Aside0.mk (below_step (by first | exact Grow.bl HB.out | exact HB.out) hb); have n1_ := Aside0.mk (hbox); have n2_ := Aside0.mk ((by rw [hg]; exact (below_size (by first | exact Grow.bl HB.out | exact HB.out)) : w.heap.size ≤ gb214)); have n3_ := Aside0.mk ((by rw [hg]; exact (below_size (by first | exact Grow.bl HB.out | exact HB.out)) : w.heap.size ≤ gb214)); clear HB; have HB := n0_; have BK214 := n1_; have GW214 := n2_; have GE214 := n3_; clear n0_ n1_ n2_ n3_; clear hb hbox hg; have hcz8_0 : w7.cell? ⟨gb214, 0, none⟩ = some (.int .i64 0) := (blk_cell BK214.out 0).trans rfl; have hcz8_1 : w7.cell? ⟨gb214, 1, none⟩ = some (.slice none 0 0) := (blk_cell BK214.out 1).trans rfl; have hcz8_2 : w7.cell? ⟨gb214, 2, none⟩ = some (.slice none 0 0) := (blk_cell BK214.out 2).trans rfl; have hcz8_3 : w7.cell? ⟨gb214, 3, none⟩ = some (.slice none 0 0) := (blk_cell BK214.out 3).trans rfl; have hcz8_4 : w7.cell? ⟨gb214, 4, none⟩ = some (.slice none 0 0) := (blk_cell BK214.out 4).trans rfl; have hfz8_0 := blk_frozen BK214.out 0; have hfz8_1 := blk_frozen BK214.out 1; have hfz8_2 := blk_frozen BK214.out 2; have hfz8_3 := blk_frozen BK214.out 3; have hfz8_4 := blk_frozen BK214.out 4))
   (try simp only [Act.put, List.setIfInBounds_toArray, List.set_cons_zero, List.set_cons_succ])
   go_cut [44] (fun v44 wc => ∃ (kq : Nat) (x44_5 : Bool), v44 = .bool x44_5 ∧ Aside0 (impl_PolicyFault.j1 kq l0 (l0.length : Int) x12_1 x44_5 ((rd_T58 l0 x12_1).f0) ((rd_T58 l0 x12_1).f1) ((rd_T58 l0 x12_1).f2) ((rd_T58 l0 x12_1).f3) ((rd_T58 l0 x12_1).f4) = some r) ∧ Aside0 (kq ≤ k1) ∧ Aside0 (wc.heap[gb214]? = some (.cells #[.int .i64 ((rd_T58 l0 x12_1).f0), (.slice A213_1 ((rd_T58 l0 x12_1).f1).length c213_1), (.slice A213_2 ((rd_T58 l0 x12_1).f2).length c213_2), (.slice A213_3 ((rd_T58 l0 x12_1).f3).length c213_3), (.slice A213_4 ((rd_T58 l0 x12_1).f4).length c213_4)] 58 (0, 0))) ∧ Aside0 (Below w.heap.size w wc))
   case first =>
    have H := HC6.out
    clear HC6
    by_cases c9 : ((rd_T58 l0 x12_1).f0) = 1
    ·
     rw [if_pos c9] at H
     have c9b0 : (((rd_T58 l0 x12_1).f0) == 1) = true := beq_iff_eq.mpr c9
     have c9b1 : (((rd_T58 l0 x12_1).f0) != 1) = false := bne_eq_false_iff_eq.mpr c9
     clear c9
     (first | rw [c9b0] | (simp only [i64_w, i32_w]; rw [c9b0]) | skip)
     replace H := Option.bind_eq_some_iff.mp H
     obtain ⟨t215, A100, H⟩ := H
     replace H : (if t215 = true then (impl_PolicyFault.j1 k1 l0 (l0.length : Int) x12_1 true ((rd_T58 l0 x12_1).f0) ((rd_T58 l0 x12_1).f1) ((rd_T58 l0 x12_1).f2) ((rd_T58 l0 x12_1).f3) ((rd_T58 l0 x12_1).f4)) else ((impl_listFault.f k1 ((rd_T58 l0 x12_1).f2)).bind fun t216 => (if t216 = true then (impl_PolicyFault.j1 k1 l0 (l0.length : Int) x12_1 true ((rd_T58 l0 x12_1).f0) ((rd_T58 l0 x12_1).f1) ((rd_T58 l0 x12_1).f2) ((rd_T58 l0 x12_1).f3) ((rd_T58 l0 x12_1).f4)) else ((impl_listFault.f k1 ((rd_T58 l0 x12_1).f3)).bind fun t217 => (if t217 = true then (impl_PolicyFault.j1 k1 l0 (l0.length : Int) x12_1 true ((rd_T58 l0 x12_1).f0) ((rd_T58 l0 x12_1).f1) ((rd_T58 l0 x12_1).f2) ((rd_T58 l0 x12_1).f3) ((rd_T58 l0 x12_1).f4)) else (impl_PolicyFault.j1 k1 l0 (l0.length : Int) x12_1 (decide ((((rd_T58 l0 x12_1).f4).length : Int) > 10)) ((rd_T58 l0 x12_1).f0) ((rd_T58 l0 x12_1).f1) ((rd_T58 l0 x12_1).f2) ((rd_T58 l0 x12_1).f3) ((rd_T58 l0 x12_1).f4))))))) = some r := H
     have A10 := Aside0.mk A100
     clear A100
     by_cases c11 : t215 = true
     ·
      subst c11
      have H1 : (impl_PolicyFault.j1 k1 l0 (l0.length : Int) x12_1 true ((rd_T58 l0 x12_1).f0) ((rd_T58 l0 x12_1).f1) ((rd_T58 l0 x12_1).f2) ((rd_T58 l0 x12_1).f3) ((rd_T58 l0 x12_1).f4)) = some r := by rw [if_pos rfl] at H; exact H
      clear H
      have H := H1
      clear H1
      have H' := Aside0.mk H
      clear H
      have hcz12_0 : w7.cell? ⟨gb214, 0, none⟩ = some (.int .i64 0) := (blk_cell BK214.out 0).trans rfl
      have hcz12_1 : w7.cell? ⟨gb214, 1, none⟩ = some (.slice none 0 0) := (blk_cell BK214.out 1).trans rfl
      have hcz12_2 : w7.cell? ⟨gb214, 2, none⟩ = some (.slice none 0 0) := (blk_cell BK214.out 2).trans rfl
      have hcz12_3 : w7.cell? ⟨gb214, 3, none⟩ = some (.slice none 0 0) := (blk_cell BK214.out 3).trans rfl
      have hcz12_4 : w7.cell? ⟨gb214, 4, none⟩ = some (.slice none 0 0) := (blk_cell BK214.out 4).trans rfl
      have hfz12_0 := blk_frozen BK214.out 0
      have hfz12_1 := blk_frozen BK214.out 1
      have hfz12_2 := blk_frozen BK214.out 2
      have hfz12_3 := blk_frozen BK214.out 3
      have hfz12_4 := blk_frozen BK214.out 4
      go_wp2_with (first | (go_at_call 56; (with_reducible refine (impl_listFault.calls k1 _ _ ((rd_T58 l0 x12_1).f1) true _ ?side1 ?side2 A10.out).mono ?_); (case side1 => exact Kd.C_below HR213_1.out (by repeat (first | (with_reducible first | exact HB.out | apply below_alloc | apply pw_below_drewN | apply below_drew1 | refine below_set ?_ GE214.out) | exact HB.out))); (case side2 => exact HC213_1.out); rintro e w' ⟨rfl, ⟨nd, rfl⟩⟩))
      go_meet
      case rel => exact ⟨_, (true), (by first | rfl | (simp; done) | (simp [*]; done)), H', ⟨by have := HK1.out; first | omega | exact Nat.le_refl _⟩, ⟨by (with_reducible repeat (first | refine blk_drewN ?_ _ | refine blk_drew ?_ | refine blk_alloc ?_ _)); refine blk_put (cs := #[.int .i64 ((rd_T58 l0 x12_1).f0), .slice A213_1 ((rd_T58 l0 x12_1).f1).length c213_1, .slice A213_2 ((rd_T58 l0 x12_1).f2).length c213_2, .slice A213_3 ((rd_T58 l0 x12_1).f3).length c213_3, .slice none 0 0]) ?_ 4 _ rfl; (with_reducible repeat (first | refine blk_drewN ?_ _ | refine blk_drew ?_ | refine blk_alloc ?_ _)); refine blk_put (cs := #[.int .i64 ((rd_T58 l0 x12_1).f0), .slice A213_1 ((rd_T58 l0 x12_1).f1).length c213_1, .slice A213_2 ((rd_T58 l0 x12_1).f2).length c213_2, .slice none 0 0, .slice none 0 0]) ?_ 3 _ rfl; (with_reducible repeat (first | refine blk_drewN ?_ _ | refine blk_drew ?_ | refine blk_alloc ?_ _)); refine blk_put (cs := #[.int .i64 ((rd_T58 l0 x12_1).f0), .slice A213_1 ((rd_T58 l0 x12_1).f1).length c213_1, .slice none 0 0, .slice none 0 0, .slice none 0 0]) ?_ 2 _ rfl; (with_reducible repeat (first | refine blk_drewN ?_ _ | refine blk_drew ?_ | refine blk_alloc ?_ _)); refine blk_put (cs := #[.int .i64 ((rd_T58 l0 x12_1).f0), .slice none 0 0, .slice none 0 0, .slice none 0 0, .slice none 0 0]) ?_ 1 _ rfl; (with_reducible repeat (first | refine blk_drewN ?_ _ | refine blk_drew ?_ | refine blk_alloc ?_ _)); refine blk_put (cs := #[.int .i64 0, .slice none 0 0, .slice none 0 0, .slice none 0 0, .slice none 0 0]) ?_ 0 _ rfl; (with_reducible repeat (first | refine blk_drewN ?_ _ | refine blk_drew ?_ | refine blk_alloc ?_ _)); exact BK214.out⟩, ⟨by repeat (first | (with_reducible first | exact HB.out | apply below_alloc | apply pw_below_drewN | apply below_drew1 | refine below_set ?_ GE214.out) | exact HB.out)⟩⟩
     replace c11 := Bool.eq_false_iff.mpr c11
     subst c11
     have H1 : ((impl_listFault.f k1 ((rd_T58 l0 x12_1).f2)).bind fun t216 => (if t216 = true then (impl_PolicyFault.j1 k1 l0 (l0.length : Int) x12_1 true ((rd_T58 l0 x12_1).f0) ((rd_T58 l0 x12_1).f1) ((rd_T58 l0 x12_1).f2) ((rd_T58 l0 x12_1).f3) ((rd_T58 l0 x12_1).f4)) else ((impl_listFault.f k1 ((rd_T58 l0 x12_1).f3)).bind fun t217 => (if t217 = true then (impl_PolicyFault.j1 k1 l0 (l0.length : Int) x12_1 true ((rd_T58 l0 x12_1).f0) ((rd_T58 l0 x12_1).f1) ((rd_T58 l0 x12_1).f2) ((rd_T58 l0 x12_1).f3) ((rd_T58 l0 x12_1).f4)) else (impl_PolicyFault.j1 k1 l0 (l0.length : Int) x12_1 (decide ((((rd_T58 l0 x12_1).f4).length : Int) > 10)) ((rd_T58 l0 x12_1).f0) ((rd_T58 l0 x12_1).f1) ((rd_T58 l0 x12_1).f2) ((rd_T58 l0 x12_1).f3) ((rd_T58 l0 x12_1).f4)))))) = some r := by rw [if_neg (show ¬ (false = true) by decide)] at H; exact H
     clear H
     have H := H1
     clear H1
     replace H := Option.bind_eq_some_iff.mp H
     obtain ⟨t216, A130, H⟩ := H
     replace H : (if t216 = true then (impl_PolicyFault.j1 k1 l0 (l0.length : Int) x12_1 true ((rd_T58 l0 x12_1).f0) ((rd_T58 l0 x12_1).f1) ((rd_T58 l0 x12_1).f2) ((rd_T58 l0 x12_1).f3) ((rd_T58 l0 x12_1).f4)) else ((impl_listFault.f k1 ((rd_T58 l0 x12_1).f3)).bind fun t217 => (if t217 = true then (impl_PolicyFault.j1 k1 l0 (l0.length : Int) x12_1 true ((rd_T58 l0 x12_1).f0) ((rd_T58 l0 x12_1).f1) ((rd_T58 l0 x12_1).f2) ((rd_T58 l0 x12_1).f3) ((rd_T58 l0 x12_1).f4)) else (impl_PolicyFault.j1 k1 l0 (l0.length : Int) x12_1 (decide ((((rd_T58 l0 x12_1).f4).length : Int) > 10)) ((rd_T58 l0 x12_1).f0) ((rd_T58 l0 x12_1).f1) ((rd_T58 l0 x12_1).f2) ((rd_T58 l0 x12_1).f3) ((rd_T58 l0 x12_1).f4))))) = some r := H
     have A13 := Aside0.mk A130
     clear A130
     by_cases c14 : t216 = true
     ·
      subst c14
      have H1 : (impl_PolicyFault.j1 k1 l0 (l0.length : Int) x12_1 true ((rd_T58 l0 x12_1).f0) ((rd_T58 l0 x12_1).f1) ((rd_T58 l0 x12_1).f2) ((rd_T58 l0 x12_1).f3) ((rd_T58 l0 x12_1).f4)) = some r := by rw [if_pos rfl] at H; exact H
      clear H
      have H := H1
      clear H1
      have H' := Aside0.mk H
      clear H
      have hcz15_0 : w7.cell? ⟨gb214, 0, none⟩ = some (.int .i64 0) := (blk_cell BK214.out 0).trans rfl
      have hcz15_1 : w7.cell? ⟨gb214, 1, none⟩ = some (.slice none 0 0) := (blk_cell BK214.out 1).trans rfl
      have hcz15_2 : w7.cell? ⟨gb214, 2, none⟩ = some (.slice none 0 0) := (blk_cell BK214.out 2).trans rfl
      have hcz15_3 : w7.cell? ⟨gb214, 3, none⟩ = some (.slice none 0 0) := (blk_cell BK214.out 3).trans rfl
      have hcz15_4 : w7.cell? ⟨gb214, 4, none⟩ = some (.slice none 0 0) := (blk_cell BK214.out 4).trans rfl
      have hfz15_0 := blk_frozen BK214.out 0
      have hfz15_1 := blk_frozen BK214.out 1
      have hfz15_2 := blk_frozen BK214.out 2
      have hfz15_3 := blk_frozen BK214.out 3
      have hfz15_4 := blk_frozen BK214.out 4
      go_wp2_with (first | (go_at_call 56; (with_reducible refine (impl_listFault.calls k1 _ _ ((rd_T58 l0 x12_1).f1) false _ ?side1 ?side2 A10.out).mono ?_); (case side1 => exact Kd.C_below HR213_1.out (by repeat (first | (with_reducible first | exact HB.out | apply below_alloc | apply pw_below_drewN | apply below_drew1 | refine below_set ?_ GE214.out) | exact HB.out))); (case side2 => exact HC213_1.out); rintro e w' ⟨rfl, ⟨nd, rfl⟩⟩) | (go_at_call 56; (with_reducible refine (impl_listFault.calls k1 _ _ ((rd_T58 l0 x12_1).f2) true _ ?side1 ?side2 A13.out).mono ?_); (case side1 => exact Kd.C_below HR213_2.out (by repeat (first | (with_reducible first | exact HB.out | apply below_alloc | apply pw_below_drewN | apply below_drew1 | refine below_set ?_ GE214.out) | exact HB.out))); (case side2 => exact HC213_2.out); rintro e w' ⟨rfl, ⟨nd, rfl⟩⟩))
      go_meet
      case rel => exact ⟨_, (true), (by first | rfl | (simp; done) | (simp [*]; done)), H', ⟨by have := HK1.out; first | omega | exact Nat.le_refl _⟩, ⟨by (with_reducible repeat (first | refine blk_drewN ?_ _ | refine blk_drew ?_ | refine blk_alloc ?_ _)); refine blk_put (cs := #[.int .i64 ((rd_T58 l0 x12_1).f0), .slice A213_1 ((rd_T58 l0 x12_1).f1).length c213_1, .slice A213_2 ((rd_T58 l0 x12_1).f2).length c213_2, .slice A213_3 ((rd_T58 l0 x12_1).f3).length c213_3, .slice none 0 0]) ?_ 4 _ rfl; (with_reducible repeat (first | refine blk_drewN ?_ _ | refine blk_drew ?_ | refine blk_alloc ?_ _)); refine blk_put (cs := #[.int .i64 ((rd_T58 l0 x12_1).f0), .slice A213_1 ((rd_T58 l0 x12_1).f1).length c213_1, .slice A213_2 ((rd_T58 l0 x12_1).f2).length c213_2, .slice none 0 0, .slice none 0 0]) ?_ 3 _ rfl; (with_reducible repeat (first | refine blk_drewN ?_ _ | refine blk_drew ?_ | refine blk_alloc ?_ _)); refine blk_put (cs := #[.int .i64 ((rd_T58 l0 x12_1).f0), .slice A213_1 ((rd_T58 l0 x12_1).f1).length c213_1, .slice none 0 0, .slice none 0 0, .slice none 0 0]) ?_ 2 _ rfl; (with_reducible repeat (first | refine blk_drewN ?_ _ | refine blk_drew ?_ | refine blk_alloc ?_ _)); refine blk_put (cs := #[.int .i64 ((rd_T58 l0 x12_1).f0), .slice none 0 0, .slice none 0 0, .slice none 0 0, .slice none 0 0]) ?_ 1 _ rfl; (with_reducible repeat (first | refine blk_drewN ?_ _ | refine blk_drew ?_ | refine blk_alloc ?_ _)); refine blk_put (cs := #[.int .i64 0, .slice none 0 0, .slice none 0 0, .slice none 0 0, .slice none 0 0]) ?_ 0 _ rfl; (with_reducible repeat (first | refine blk_drewN ?_ _ | refine blk_drew ?_ | refine blk_alloc ?_ _)); exact BK214.out⟩, ⟨by repeat (first | (with_reducible first | exact HB.out | apply below_alloc | apply pw_below_drewN | apply below_drew1 | refine below_set ?_ GE214.out) | exact HB.out)⟩⟩
     replace c14 := Bool.eq_false_iff.mpr c14
     subst c14
     have H1 : ((impl_listFault.f k1 ((rd_T58 l0 x12_1).f3)).bind fun t217 => (if t217 = true then (impl_PolicyFault.j1 k1 l0 (l0.length : Int) x12_1 true ((rd_T58 l0 x12_1).f0) ((rd_T58 l0 x12_1).f1) ((rd_T58 l0 x12_1).f2) ((rd_T58 l0 x12_1).f3) ((rd_T58 l0 x12_1).f4)) else (impl_PolicyFault.j1 k1 l0 (l0.length : Int) x12_1 (decide ((((rd_T58 l0 x12_1).f4).length : Int) > 10)) ((rd_T58 l0 x12_1).f0) ((rd_T58 l0 x12_1).f1) ((rd_T58 l0 x12_1).f2) ((rd_T58 l0 x12_1).f3) ((rd_T58 l0 x12_1).f4)))) = some r := by rw [if_neg (show ¬ (false = true) by decide)] at H; exact H
     clear H
     have H := H1
     clear H1
     replace H := Option.bind_eq_some_iff.mp H
     obtain ⟨t217, A160, H⟩ := H
     replace H : (if t217 = true then (impl_PolicyFault.j1 k1 l0 (l0.length : Int) x12_1 true ((rd_T58 l0 x12_1).f0) ((rd_T58 l0 x12_1).f1) ((rd_T58 l0 x12_1).f2) ((rd_T58 l0 x12_1).f3) ((rd_T58 l0 x12_1).f4)) else (impl_PolicyFault.j1 k1 l0 (l0.length : Int) x12_1 (decide ((((rd_T58 l0 x12_1).f4).length : Int) > 10)) ((rd_T58 l0 x12_1).f0) ((rd_T58 l0 x12_1).f1) ((rd_T58 l0 x12_1).f2) ((rd_T58 l0 x12_1).f3) ((rd_T58 l0 x12_1).f4))) = some r := H
     have A16 := Aside0.mk A160
     clear A160
     by_cases c17 : t217 = true
     ·
      subst c17
      have H1 : (impl_PolicyFault.j1 k1 l0 (l0.length : Int) x12_1 true ((rd_T58 l0 x12_1).f0) ((rd_T58 l0 x12_1).f1) ((rd_T58 l0 x12_1).f2) ((rd_T58 l0 x12_1).f3) ((rd_T58 l0 x12_1).f4)) = some r := by rw [if_pos rfl] at H; exact H
      clear H
      have H := H1
      clear H1
      have H' := Aside0.mk H
      clear H
      have hcz18_0 : w7.cell? ⟨gb214, 0, none⟩ = some (.int .i64 0) := (blk_cell BK214.out 0).trans rfl
      have hcz18_1 : w7.cell? ⟨gb214, 1, none⟩ = some (.slice none 0 0) := (blk_cell BK214.out 1).trans rfl
      have hcz18_2 : w7.cell? ⟨gb214, 2, none⟩ = some (.slice none 0 0) := (blk_cell BK214.out 2).trans rfl
      have hcz18_3 : w7.cell? ⟨gb214, 3, none⟩ = some (.slice none 0 0) := (blk_cell BK214.out 3).trans rfl
      have hcz18_4 : w7.cell? ⟨gb214, 4, none⟩ = some (.slice none 0 0) := (blk_cell BK214.out 4).trans rfl
      have hfz18_0 := blk_frozen BK214.out 0
      have hfz18_1 := blk_frozen BK214.out 1
      have hfz18_2 := blk_frozen BK214.out 2
      have hfz18_3 := blk_frozen BK214.out 3
      have hfz18_4 := blk_frozen BK214.out 4
      go_wp2_with (first | (go_at_call 56; (with_reducible refine (impl_listFault.calls k1 _ _ ((rd_T58 l0 x12_1).f1) false _ ?side1 ?side2 A10.out).mono ?_); (case side1 => exact Kd.C_below HR213_1.out (by repeat (first | (with_reducible first | exact HB.out | apply below_alloc | apply pw_below_drewN | apply below_drew1 | refine below_set ?_ GE214.out) | exact HB.out))); (case side2 => exact HC213_1.out); rintro e w' ⟨rfl, ⟨nd, rfl⟩⟩) | (go_at_call 56; (with_reducible refine (impl_listFault.calls k1 _ _ ((rd_T58 l0 x12_1).f2) false _ ?side1 ?side2 A13.out).mono ?_); (case side1 => exact Kd.C_below HR213_2.out (by repeat (first | (with_reducible first | exact HB.out | apply below_alloc | apply pw_below_drewN | apply below_drew1 | refine below_set ?_ GE214.out) | exact HB.out))); (case side2 => exact HC213_2.out); rintro e w' ⟨rfl, ⟨nd, rfl⟩⟩) | (go_at_call 56; (with_reducible refine (impl_listFault.calls k1 _ _ ((rd_T58 l0 x12_1).f3) true _ ?side1 ?side2 A16.out).mono ?_); (case side1 => exact Kd.C_below HR213_3.out (by repeat (first | (with_reducible first | exact HB.out | apply below_alloc | apply pw_below_drewN | apply below_drew1 | refine below_set ?_ GE214.out) | exact HB.out))); (case side2 => exact HC213_3.out); rintro e w' ⟨rfl, ⟨nd, rfl⟩⟩))
      go_meet
      case rel => exact ⟨_, (true), (by first | rfl | (simp; done) | (simp [*]; done)), H', ⟨by have := HK1.out; first | omega | exact Nat.le_refl _⟩, ⟨by (with_reducible repeat (first | refine blk_drewN ?_ _ | refine blk_drew ?_ | refine blk_alloc ?_ _)); refine blk_put (cs := #[.int .i64 ((rd_T58 l0 x12_1).f0), .slice A213_1 ((rd_T58 l0 x12_1).f1).length c213_1, .slice A213_2 ((rd_T58 l0 x12_1).f2).length c213_2, .slice A213_3 ((rd_T58 l0 x12_1).f3).length c213_3, .slice none 0 0]) ?_ 4 _ rfl; (with_reducible repeat (first | refine blk_drewN ?_ _ | refine blk_drew ?_ | refine blk_alloc ?_ _)); refine blk_put (cs := #[.int .i64 ((rd_T58 l0 x12_1).f0), .slice A213_1 ((rd_T58 l0 x12_1).f1).length c213_1, .slice A213_2 ((rd_T58 l0 x12_1).f2).length c213_2, .slice none 0 0, .slice none 0 0]) ?_ 3 _ rfl; (with_reducible repeat (first | refine blk_drewN ?_ _ | refine blk_drew ?_ | refine blk_alloc ?_ _)); refine blk_put (cs := #[.int .i64 ((rd_T58 l0 x12_1).f0), .slice A213_1 ((rd_T58 l0 x12_1).f1).length c213_1, .slice none 0 0, .slice none 0 0, .slice none 0 0]) ?_ 2 _ rfl; (with_reducible repeat (first | refine blk_drewN ?_ _ | refine blk_drew ?_ | refine blk_alloc ?_ _)); refine blk_put (cs := #[.int .i64 ((rd_T58 l0 x12_1).f0), .slice none 0 0, .slice none 0 0, .slice none 0 0, .slice none 0 0]) ?_ 1 _ rfl; (with_reducible repeat (first | refine blk_drewN ?_ _ | refine blk_drew ?_ | refine blk_alloc ?_ _)); refine blk_put (cs := #[.int .i64 0, .slice none 0 0, .slice none 0 0, .slice none 0 0, .slice none 0 0]) ?_ 0 _ rfl; (with_reducible repeat (first | refine blk_drewN ?_ _ | refine blk_drew ?_ | refine blk_alloc ?_ _)); exact BK214.out⟩, ⟨by repeat (first | (with_reducible first | exact HB.out | apply below_alloc | apply pw_below_drewN | apply below_drew1 | refine below_set ?_ GE214.out) | exact HB.out)⟩⟩
     replace c17 := Bool.eq_false_iff.mpr c17
     subst c17
     have H1 : (impl_PolicyFault.j1 k1 l0 (l0.length : Int) x12_1 (decide ((((rd_T58 l0 x12_1).f4).length : Int) > 10)) ((rd_T58 l0 x12_1).f0) ((rd_T58 l0 x12_1).f1) ((rd_T58 l0 x12_1).f2) ((rd_T58 l0 x12_1).f3) ((rd_T58 l0 x12_1).f4)) = some r := by rw [if_neg (show ¬ (false = true) by decide)] at H; exact H
     clear H
     have H := H1
     clear H1
     have H' := Aside0.mk H
     clear H
     have hcz19_0 : w7.cell? ⟨gb214, 0, none⟩ = some (.int .i64 0) := (blk_cell BK214.out 0).trans rfl
     have hcz19_1 : w7.cell? ⟨gb214, 1, none⟩ = some (.slice none 0 0) := (blk_cell BK214.out 1).trans rfl
     have hcz19_2 : w7.cell? ⟨gb214, 2, none⟩ = some (.slice none 0 0) := (blk_cell BK214.out 2).trans rfl
     have hcz19_3 : w7.cell? ⟨gb214, 3, none⟩ = some (.slice none 0 0) := (blk_cell BK214.out 3).trans rfl
     have hcz19_4 : w7.cell? ⟨gb214, 4, none⟩ = some (.slice none 0 0) := (blk_cell BK214.out 4).trans rfl
     have hfz19_0 := blk_frozen BK214.out 0
     have hfz19_1 := blk_frozen BK214.out 1
     have hfz19_2 := blk_frozen BK214.out 2
     have hfz19_3 := blk_frozen BK214.out 3
     have hfz19_4 := blk_frozen BK214.out 4
     go_wp2_with (first | (go_at_call 56; (with_reducible refine (impl_listFault.calls k1 _ _ ((rd_T58 l0 x12_1).f1) false _ ?side1 ?side2 A10.out).mono ?_); (case side1 => exact Kd.C_below HR213_1.out (by repeat (first | (with_reducible first | exact HB.out | apply below_alloc | apply pw_below_drewN | apply below_drew1 | refine below_set ?_ GE214.out) | exact HB.out))); (case side2 => exact HC213_1.out); rintro e w' ⟨rfl, ⟨nd, rfl⟩⟩) | (go_at_call 56; (with_reducible refine (impl_listFault.calls k1 _ _ ((rd_T58 l0 x12_1).f2) false _ ?side1 ?side2 A13.out).mono ?_); (case side1 => exact Kd.C_below HR213_2.out (by repeat (first | (with_reducible first | exact HB.out | apply below_alloc | apply pw_below_drewN | apply below_drew1 | refine below_set ?_ GE214.out) | exact HB.out))); (case side2 => exact HC213_2.out); rintro e w' ⟨rfl, ⟨nd, rfl⟩⟩) | (go_at_call 56; (with_reducible refine (impl_listFault.calls k1 _ _ ((rd_T58 l0 x12_1).f3) false _ ?side1 ?side2 A16.out).mono ?_); (case side1 => exact Kd.C_below HR213_3.out (by repeat (first | (with_reducible first | exact HB.out | apply below_alloc | apply pw_below_drewN | apply below_drew1 | refine below_set ?_ GE214.out) | exact HB.out))); (case side2 => exact HC213_3.out); rintro e w' ⟨rfl, ⟨nd, rfl⟩⟩))
     go_meet
     case rel => exact ⟨_, (decide ((((rd_T58 l0 x12_1).f4).length : Int) > 10)), (by first | rfl | (simp; done) | (simp [*]; done)), H', ⟨by have := HK1.out; first | omega | exact Nat.le_refl _⟩, ⟨by (with_reducible repeat (first | refine blk_drewN ?_ _ | refine blk_drew ?_ | refine blk_alloc ?_ _)); refine blk_put (cs := #[.int .i64 ((rd_T58 l0 x12_1).f0), .slice A213_1 ((rd_T58 l0 x12_1).f1).length c213_1, .slice A213_2 ((rd_T58 l0 x12_1).f2).length c213_2, .slice A213_3 ((rd_T58 l0 x12_1).f3).length c213_3, .slice none 0 0]) ?_ 4 _ rfl; (with_reducible repeat (first | refine blk_drewN ?_ _ | refine blk_drew ?_ | refine blk_alloc ?_ _)); refine blk_put (cs := #[.int .i64 ((rd_T58 l0 x12_1).f0), .slice A213_1 ((rd_T58 l0 x12_1).f1).length c213_1, .slice A213_2 ((rd_T58 l0 x12_1).f2).length c213_2, .slice none 0 0, .slice none 0 0]) ?_ 3 _ rfl; (with_reducible repeat (first | refine blk_drewN ?_ _ | refine blk_drew ?_ | refine blk_alloc ?_ _)); refine blk_put (cs := #[.int .i64 ((rd_T58 l0 x12_1).f0), .slice A213_1 ((rd_T58 l0 x12_1).f1).length c213_1, .slice none 0 0, .slice none 0 0, .slice none 0 0]) ?_ 2 _ rfl; (with_reducible repeat (first | refine blk_drewN ?_ _ | refine blk_drew ?_ | refine blk_alloc ?_ _)); refine blk_put (cs := #[.int .i64 ((rd_T58 l0 x12_1).f0), .slice none 0 0, .slice none 0 0, .slice none 0 0, .slice none 0 0]) ?_ 1 _ rfl; (with_reducible repeat (first | refine blk_drewN ?_ _ | refine blk_drew ?_ | refine blk_alloc ?_ _)); refine blk_put (cs := #[.int .i64 0, .slice none 0 0, .slice none 0 0, .slice none 0 0, .slice none 0 0]) ?_ 0 _ rfl; (with_reducible repeat (first | refine blk_drewN ?_ _ | refine blk_drew ?_ | refine blk_alloc ?_ _)); exact BK214.out⟩, ⟨by repeat (first | (with_reducible first | exact HB.out | apply below_alloc | apply pw_below_drewN | apply below_drew1 | refine below_set ?_ GE214.out) | exact HB.out)⟩⟩
    rw [if_neg c9] at H
    have c9b0 : (((rd_T58 l0 x12_1).f0) == 1) = false := beq_eq_false_iff_ne.mpr c9
    have c9b1 : (((rd_T58 l0 x12_1).f0) != 1) = true := bne_iff_ne.mpr c9
    (first | rw [c9b0] | (simp only [i64_w, i32_w]; rw [c9b0]) | skip)
    by_cases c20 : ((rd_T58 l0 x12_1).f0) = 2
    rotate_left
    ·
     rw [if_neg c20] at H
     have c20b0 : (((rd_T58 l0 x12_1).f0) == 2) = false := beq_eq_false_iff_ne.mpr c20
     have c20b1 : (((rd_T58 l0 x12_1).f0) != 2) = true := bne_iff_ne.mpr c20
     have H' := Aside0.mk H
     clear H
     have hcz31_0 : w7.cell? ⟨gb214, 0, none⟩ = some (.int .i64 0) := (blk_cell BK214.out 0).trans rfl
     have hcz31_1 : w7.cell? ⟨gb214, 1, none⟩ = some (.slice none 0 0) := (blk_cell BK214.out 1).trans rfl
     have hcz31_2 : w7.cell? ⟨gb214, 2, none⟩ = some (.slice none 0 0) := (blk_cell BK214.out 2).trans rfl
     have hcz31_3 : w7.cell? ⟨gb214, 3, none⟩ = some (.slice none 0 0) := (blk_cell BK214.out 3).trans rfl
     have hcz31_4 : w7.cell? ⟨gb214, 4, none⟩ = some (.slice none 0 0) := (blk_cell BK214.out 4).trans rfl
     have hfz31_0 := blk_frozen BK214.out 0
     have hfz31_1 := blk_frozen BK214.out 1
     have hfz31_2 := blk_frozen BK214.out 2
     have hfz31_3 := blk_frozen BK214.out 3
     have hfz31_4 := blk_frozen BK214.out 4
     go_wp2
     go_meet
     case rel => exact ⟨_, (true), (by first | rfl | (simp; done) | (simp [*]; done)), H', ⟨by have := HK1.out; first | omega | exact Nat.le_refl _⟩, ⟨by (with_reducible repeat (first | refine blk_drewN ?_ _ | refine blk_drew ?_ | refine blk_alloc ?_ _)); refine blk_put (cs := #[.int .i64 ((rd_T58 l0 x12_1).f0), .slice A213_1 ((rd_T58 l0 x12_1).f1).length c213_1, .slice A213_2 ((rd_T58 l0 x12_1).f2).length c213_2, .slice A213_3 ((rd_T58 l0 x12_1).f3).length c213_3, .slice none 0 0]) ?_ 4 _ rfl; (with_reducible repeat (first | refine blk_drewN ?_ _ | refine blk_drew ?_ | refine blk_alloc ?_ _)); refine blk_put (cs := #[.int .i64 ((rd_T58 l0 x12_1).f0), .slice A213_1 ((rd_T58 l0 x12_1).f1).length c213_1, .slice A213_2 ((rd_T58 l0 x12_1).f2).length c213_2, .slice none 0 0, .slice none 0 0]) ?_ 3 _ rfl; (with_reducible repeat (first | refine blk_drewN ?_ _ | refine blk_drew ?_ | refine blk_alloc ?_ _)); refine blk_put (cs := #[.int .i64 ((rd_T58 l0 x12_1).f0), .slice A213_1 ((rd_T58 l0 x12_1).f1).length c213_1, .slice none 0 0, .slice none 0 0, .slice none 0 0]) ?_ 2 _ rfl; (with_reducible repeat (first | refine blk_drewN ?_ _ | refine blk_drew ?_ | refine blk_alloc ?_ _)); refine blk_put (cs := #[.int .i64 ((rd_T58 l0 x12_1).f0), .slice none 0 0, .slice none 0 0, .slice none 0 0, .slice none 0 0]) ?_ 1 _ rfl; (with_reducible repeat (first | refine blk_drewN ?_ _ | refine blk_drew ?_ | refine blk_alloc ?_ _)); refine blk_put (cs := #[.int .i64 0, .slice none 0 0, .slice none 0 0, .slice none 0 0, .slice none 0 0]) ?_ 0 _ rfl; (with_reducible repeat (first | refine blk_drewN ?_ _ | refine blk_drew ?_ | refine blk_alloc ?_ _)); exact BK214.out⟩, ⟨by repeat (first | (with_reducible first | exact HB.out | apply below_alloc | apply pw_below_drewN | apply below_drew1 | refine below_set ?_ GE214.out) | exact HB.out)⟩⟩
    rw [if_pos c20] at H
    have c20b0 : (((rd_T58 l0 x12_1).f0) == 2) = true := beq_iff_eq.mpr c20
    have c20b1 : (((rd_T58 l0 x12_1).f0) != 2) = false := bne_eq_false_iff_eq.mpr c20
    clear c20
    replace H := Option.bind_eq_some_iff.mp H
    obtain ⟨t218, A210, H⟩ := H
    replace H : (if t218 = true then (impl_PolicyFault.j1 k1 l0 (l0.length : Int) x12_1 true ((rd_T58 l0 x12_1).f0) ((rd_T58 l0 x12_1).f1) ((rd_T58 l0 x12_1).f2) ((rd_T58 l0 x12_1).f3) ((rd_T58 l0 x12_1).f4)) else ((impl_listFault.f k1 ((rd_T58 l0 x12_1).f2)).bind fun t219 => (if t219 = true then (impl_PolicyFault.j1 k1 l0 (l0.length : Int) x12_1 true ((rd_T58 l0 x12_1).f0) ((rd_T58 l0 x12_1).f1) ((rd_T58 l0 x12_1).f2) ((rd_T58 l0 x12_1).f3) ((rd_T58 l0 x12_1).f4)) else ((impl_listFault.f k1 ((rd_T58 l0 x12_1).f3)).bind fun t220 => (if t220 = true then (impl_PolicyFault.j1 k1 l0 (l0.length : Int) x12_1 true ((rd_T58 l0 x12_1).f0) ((rd_T58 l0 x12_1).f1) ((rd_T58 l0 x12_1).f2) ((rd_T58 l0 x12_1).f3) ((rd_T58 l0 x12_1).f4)) else (impl_PolicyFault.j1 k1 l0 (l0.length : Int) x12_1 (decide ((((rd_T58 l0 x12_1).f4).length : Int) > 10)) ((rd_T58 l0 x12_1).f0) ((rd_T58 l0 x12_1).f1) ((rd_T58 l0 x12_1).f2) ((rd_T58 l0 x12_1).f3) ((rd_T58 l0 x12_1).f4))))))) = some r := H
    have A21 := Aside0.mk A210
    clear A210
    by_cases c22 : t218 = true
    ·
     subst c22
     have H1 : (impl_PolicyFault.j1 k1 l0 (l0.length : Int) x12_1 true ((rd_T58 l0 x12_1).f0) ((rd_T58 l0 x12_1).f1) ((rd_T58 l0 x12_1).f2) ((rd_T58 l0 x12_1).f3) ((rd_T58 l0 x12_1).f4)) = some r := by rw [if_pos rfl] at H; exact H
     clear H
     have H := H1
     clear H1
     have H' := Aside0.mk H
     clear H
     have hcz23_0 : w7.cell? ⟨gb214, 0, none⟩ = some (.int .i64 0) := (blk_cell BK214.out 0).trans rfl
     have hcz23_1 : w7.cell? ⟨gb214, 1, none⟩ = some (.slice none 0 0) := (blk_cell BK214.out 1).trans rfl
     have hcz23_2 : w7.cell? ⟨gb214, 2, none⟩ = some (.slice none 0 0) := (blk_cell BK214.out 2).trans rfl
     have hcz23_3 : w7.cell? ⟨gb214, 3, none⟩ = some (.slice none 0 0) := (blk_cell BK214.out 3).trans rfl
     have hcz23_4 : w7.cell? ⟨gb214, 4, none⟩ = some (.slice none 0 0) := (blk_cell BK214.out 4).trans rfl
     have hfz23_0 := blk_frozen BK214.out 0
     have hfz23_1 := blk_frozen BK214.out 1
     have hfz23_2 := blk_frozen BK214.out 2
     have hfz23_3 := blk_frozen BK214.out 3
     have hfz23_4 := blk_frozen BK214.out 4
     go_wp2_with (first | (go_at_call 56; (with_reducible refine (impl_listFault.calls k1 _ _ ((rd_T58 l0 x12_1).f1) true _ ?side1 ?side2 A21.out).mono ?_); (case side1 => exact Kd.C_below HR213_1.out (by repeat (first | (with_reducible first | exact HB.out | apply below_alloc | apply pw_below_drewN | apply below_drew1 | refine below_set ?_ GE214.out) | exact HB.out))); (case side2 => exact HC213_1.out); rintro e w' ⟨rfl, ⟨nd, rfl⟩⟩))
     go_meet
     case rel => exact ⟨_, (true), (by first | rfl | (simp; done) | (simp [*]; done)), H', ⟨by have := HK1.out; first | omega | exact Nat.le_refl _⟩, ⟨by (with_reducible repeat (first | refine blk_drewN ?_ _ | refine blk_drew ?_ | refine blk_alloc ?_ _)); refine blk_put (cs := #[.int .i64 ((rd_T58 l0 x12_1).f0), .slice A213_1 ((rd_T58 l0 x12_1).f1).length c213_1, .slice A213_2 ((rd_T58 l0 x12_1).f2).length c213_2, .slice A213_3 ((rd_T58 l0 x12_1).f3).length c213_3, .slice none 0 0]) ?_ 4 _ rfl; (with_reducible repeat (first | refine blk_drewN ?_ _ | refine blk_drew ?_ | refine blk_alloc ?_ _)); refine blk_put (cs := #[.int .i64 ((rd_T58 l0 x12_1).f0), .slice A213_1 ((rd_T58 l0 x12_1).f1).length c213_1, .slice A213_2 ((rd_T58 l0 x12_1).f2).length c213_2, .slice none 0 0, .slice none 0 0]) ?_ 3 _ rfl; (with_reducible repeat (first | refine blk_drewN ?_ _ | refine blk_drew ?_ | refine blk_alloc ?_ _)); refine blk_put (cs := #[.int .i64 ((rd_T58 l0 x12_1).f0), .slice A213_1 ((rd_T58 l0 x12_1).f1).length c213_1, .slice none 0 0, .slice none 0 0, .slice none 0 0]) ?_ 2 _ rfl; (with_reducible repeat (first | refine blk_drewN ?_ _ | refine blk_drew ?_ | refine blk_alloc ?_ _)); refine blk_put (cs := #[.int .i64 ((rd_T58 l0 x12_1).f0), .slice none 0 0, .slice none 0 0, .slice none 0 0, .slice none 0 0]) ?_ 1 _ rfl; (with_reducible repeat (first | refine blk_drewN ?_ _ | refine blk_drew ?_ | refine blk_alloc ?_ _)); refine blk_put (cs := #[.int .i64 0, .slice none 0 0, .slice none 0 0, .slice none 0 0, .slice none 0 0]) ?_ 0 _ rfl; (with_reducible repeat (first | refine blk_drewN ?_ _ | refine blk_drew ?_ | refine blk_alloc ?_ _)); exact BK214.out⟩, ⟨by repeat (first | (with_reducible first | exact HB.out | apply below_alloc | apply pw_below_drewN | apply below_drew1 | refine below_set ?_ GE214.out) | exact HB.out)⟩⟩
    replace c22 := Bool.eq_false_iff.mpr c22
    subst c22
    have H1 : ((impl_listFault.f k1 ((rd_T58 l0 x12_1).f2)).bind fun t219 => (if t219 = true then (impl_PolicyFault.j1 k1 l0 (l0.length : Int) x12_1 true ((rd_T58 l0 x12_1).f0) ((rd_T58 l0 x12_1).f1) ((rd_T58 l0 x12_1).f2) ((rd_T58 l0 x12_1).f3) ((rd_T58 l0 x12_1).f4)) else ((impl_listFault.f k1 ((rd_T58 l0 x12_1).f3)).bind fun t220 => (if t220 = true then (impl_PolicyFault.j1 k1 l0 (l0.length : Int) x12_1 true ((rd_T58 l0 x12_1).f0) ((rd_T58 l0 x12_1).f1) ((rd_T58 l0 x12_1).f2) ((rd_T58 l0 x12_1).f3) ((rd_T58 l0 x12_1).f4)) else (impl_PolicyFault.j1 k1 l0 (l0.length : Int) x12_1 (decide ((((rd_T58 l0 x12_1).f4).length : Int) > 10)) ((rd_T58 l0 x12_1).f0) ((rd_T58 l0 x12_1).f1) ((rd_T58 l0 x12_1).f2) ((rd_T58 l0 x12_1).f3) ((rd_T58 l0 x12_1).f4)))))) = some r := by rw [if_neg (show ¬ (false = true) by decide)] at H; exact H
    clear H
    have H := H1
    clear H1
    replace H := Option.bind_eq_some_iff.mp H
    obtain ⟨t219, A240, H⟩ := H
    replace H : (if t219 = true then (impl_PolicyFault.j1 k1 l0 (l0.length : Int) x12_1 true ((rd_T58 l0 x12_1).f0) ((rd_T58 l0 x12_1).f1) ((rd_T58 l0 x12_1).f2) ((rd_T58 l0 x12_1).f3) ((rd_T58 l0 x12_1).f4)) else ((impl_listFault.f k1 ((rd_T58 l0 x12_1).f3)).bind fun t220 => (if t220 = true then (impl_PolicyFault.j1 k1 l0 (l0.length : Int) x12_1 true ((rd_T58 l0 x12_1).f0) ((rd_T58 l0 x12_1).f1) ((rd_T58 l0 x12_1).f2) ((rd_T58 l0 x12_1).f3) ((rd_T58 l0 x12_1).f4)) else (impl_PolicyFault.j1 k1 l0 (l0.length : Int) x12_1 (decide ((((rd_T58 l0 x12_1).f4).length : Int) > 10)) ((rd_T58 l0 x12_1).f0) ((rd_T58 l0 x12_1).f1) ((rd_T58 l0 x12_1).f2) ((rd_T58 l0 x12_1).f3) ((rd_T58 l0 x12_1).f4))))) = some r := H
    have A24 := Aside0.mk A240
    clear A240
    by_cases c25 : t219 = true
    ·
     subst c25
     have H1 : (impl_PolicyFault.j1 k1 l0 (l0.length : Int) x12_1 true ((rd_T58 l0 x12_1).f0) ((rd_T58 l0 x12_1).f1) ((rd_T58 l0 x12_1).f2) ((rd_T58 l0 x12_1).f3) ((rd_T58 l0 x12_1).f4)) = some r := by rw [if_pos rfl] at H; exact H
     clear H
     have H := H1
     clear H1
     have H' := Aside0.mk H
     clear H
     have hcz26_0 : w7.cell? ⟨gb214, 0, none⟩ = some (.int .i64 0) := (blk_cell BK214.out 0).trans rfl
     have hcz26_1 : w7.cell? ⟨gb214, 1, none⟩ = some (.slice none 0 0) := (blk_cell BK214.out 1).trans rfl
     have hcz26_2 : w7.cell? ⟨gb214, 2, none⟩ = some (.slice none 0 0) := (blk_cell BK214.out 2).trans rfl
     have hcz26_3 : w7.cell? ⟨gb214, 3, none⟩ = some (.slice none 0 0) := (blk_cell BK214.out 3).trans rfl
     have hcz26_4 : w7.cell? ⟨gb214, 4, none⟩ = some (.slice none 0 0) := (blk_cell BK214.out 4).trans rfl
     have hfz26_0 := blk_frozen BK214.out 0
     have hfz26_1 := blk_frozen BK214.out 1
     have hfz26_2 := blk_frozen BK214.out 2
     have hfz26_3 := blk_frozen BK214.out 3
     have hfz26_4 := blk_frozen BK214.out 4
     go_wp2_with (first | (go_at_call 56; (with_reducible refine (impl_listFault.calls k1 _ _ ((rd_T58 l0 x12_1).f1) false _ ?side1 ?side2 A21.out).mono ?_); (case side1 => exact Kd.C_below HR213_1.out (by repeat (first | (with_reducible first | exact HB.out | apply below_alloc | apply pw_below_drewN | apply below_drew1 | refine below_set ?_ GE214.out) | exact HB.out))); (case side2 => exact HC213_1.out); rintro e w' ⟨rfl, ⟨nd, rfl⟩⟩) | (go_at_call 56; (with_reducible refine (impl_listFault.calls k1 _ _ ((rd_T58 l0 x12_1).f2) true _ ?side1 ?side2 A24.out).mono ?_); (case side1 => exact Kd.C_below HR213_2.out (by repeat (first | (with_reducible first | exact HB.out | apply below_alloc | apply pw_below_drewN | apply below_drew1 | refine below_set ?_ GE214.out) | exact HB.out))); (case side2 => exact HC213_2.out); rintro e w' ⟨rfl, ⟨nd, rfl⟩⟩))
     go_meet
     case rel => exact ⟨_, (true), (by first | rfl | (simp; done) | (simp [*]; done)), H', ⟨by have := HK1.out; first | omega | exact Nat.le_refl _⟩, ⟨by (with_reducible repeat (first | refine blk_drewN ?_ _ | refine blk_drew ?_ | refine blk_alloc ?_ _)); refine blk_put (cs := #[.int .i64 ((rd_T58 l0 x12_1).f0), .slice A213_1 ((rd_T58 l0 x12_1).f1).length c213_1, .slice A213_2 ((rd_T58 l0 x12_1).f2).length c213_2, .slice A213_3 ((rd_T58 l0 x12_1).f3).length c213_3, .slice none 0 0]) ?_ 4 _ rfl; (with_reducible repeat (first | refine blk_drewN ?_ _ | refine blk_drew ?_ | refine blk_alloc ?_ _)); refine blk_put (cs := #[.int .i64 ((rd_T58 l0 x12_1).f0), .slice A213_1 ((rd_T58 l0 x12_1).f1).length c213_1, .slice A213_2 ((rd_T58 l0 x12_1).f2).length c213_2, .slice none 0 0, .slice none 0 0]) ?_ 3 _ rfl; (with_reducible repeat (first | refine blk_drewN ?_ _ | refine blk_drew ?_ | refine blk_alloc ?_ _)); refine blk_put (cs := #[.int .i64 ((rd_T58 l0 x12_1).f0), .slice A213_1 ((rd_T58 l0 x12_1).f1).length c213_1, .slice none 0 0, .slice none 0 0, .slice none 0 0]) ?_ 2 _ rfl; (with_reducible repeat (first | refine blk_drewN ?_ _ | refine blk_drew ?_ | refine blk_alloc ?_ _)); refine blk_put (cs := #[.int .i64 ((rd_T58 l0 x12_1).f0), .slice none 0 0, .slice none 0 0, .slice none 0 0, .slice none 0 0]) ?_ 1 _ rfl; (with_reducible repeat (first | refine blk_drewN ?_ _ | refine blk_drew ?_ | refine blk_alloc ?_ _)); refine blk_put (cs := #[.int .i64 0, .slice none 0 0, .slice none 0 0, .slice none 0 0, .slice none 0 0]) ?_ 0 _ rfl; (with_reducible repeat (first | refine blk_drewN ?_ _ | refine blk_drew ?_ | refine blk_alloc ?_ _)); exact BK214.out⟩, ⟨by repeat (first | (with_reducible first | exact HB.out | apply below_alloc | apply pw_below_drewN | apply below_drew1 | refine below_set ?_ GE214.out) | exact HB.out)⟩⟩
    replace c25 := Bool.eq_false_iff.mpr c25
    subst c25
    have H1 : ((impl_listFault.f k1 ((rd_T58 l0 x12_1).f3)).bind fun t220 => (if t220 = true then (impl_PolicyFault.j1 k1 l0 (l0.length : Int) x12_1 true ((rd_T58 l0 x12_1).f0) ((rd_T58 l0 x12_1).f1) ((rd_T58 l0 x12_1).f2) ((rd_T58 l0 x12_1).f3) ((rd_T58 l0 x12_1).f4)) else (impl_PolicyFault.j1 k1 l0 (l0.length : Int) x12_1 (decide ((((rd_T58 l0 x12_1).f4).length : Int) > 10)) ((rd_T58 l0 x12_1).f0) ((rd_T58 l0 x12_1).f1) ((rd_T58 l0 x12_1).f2) ((rd_T58 l0 x12_1).f3) ((rd_T58 l0 x12_1).f4)))) = some r := by rw [if_neg (show ¬ (false = true) by decide)] at H; exact H
    clear H
    have H := H1
    clear H1
    replace H := Option.bind_eq_some_iff.mp H
    obtain ⟨t220, A270, H⟩ := H
    replace H : (if t220 = true then (impl_PolicyFault.j1 k1 l0 (l0.length : Int) x12_1 true ((rd_T58 l0 x12_1).f0) ((rd_T58 l0 x12_1).f1) ((rd_T58 l0 x12_1).f2) ((rd_T58 l0 x12_1).f3) ((rd_T58 l0 x12_1).f4)) else (impl_PolicyFault.j1 k1 l0 (l0.length : Int) x12_1 (decide ((((rd_T58 l0 x12_1).f4).length : Int) > 10)) ((rd_T58 l0 x12_1).f0) ((rd_T58 l0 x12_1).f1) ((rd_T58 l0 x12_1).f2) ((rd_T58 l0 x12_1).f3) ((rd_T58 l0 x12_1).f4))) = some r := H
    have A27 := Aside0.mk A270
    clear A270
    by_cases c28 : t220 = true
    ·
     subst c28
     have H1 : (impl_PolicyFault.j1 k1 l0 (l0.length : Int) x12_1 true ((rd_T58 l0 x12_1).f0) ((rd_T58 l0 x12_1).f1) ((rd_T58 l0 x12_1).f2) ((rd_T58 l0 x12_1).f3) ((rd_T58 l0 x12_1).f4)) = some r := by rw [if_pos rfl] at H; exact H
     clear H
     have H := H1
     clear H1
     have H' := Aside0.mk H
     clear H
     have hcz29_0 : w7.cell? ⟨gb214, 0, none⟩ = some (.int .i64 0) := (blk_cell BK214.out 0).trans rfl
     have hcz29_1 : w7.cell? ⟨gb214, 1, none⟩ = some (.slice none 0 0) := (blk_cell BK214.out 1).trans rfl
     have hcz29_2 : w7.cell? ⟨gb214, 2, none⟩ = some (.slice none 0 0) := (blk_cell BK214.out 2).trans rfl
     have hcz29_3 : w7.cell? ⟨gb214, 3, none⟩ = some (.slice none 0 0) := (blk_cell BK214.out 3).trans rfl
     have hcz29_4 : w7.cell? ⟨gb214, 4, none⟩ = some (.slice none 0 0) := (blk_cell BK214.out 4).trans rfl
     have hfz29_0 := blk_frozen BK214.out 0
     have hfz29_1 := blk_frozen BK214.out 1
     have hfz29_2 := blk_frozen BK214.out 2
     have hfz29_3 := blk_frozen BK214.out 3
     have hfz29_4 := blk_frozen BK214.out 4
     go_wp2_with (first | (go_at_call 56; (with_reducible refine (impl_listFault.calls k1 _ _ ((rd_T58 l0 x12_1).f1) false _ ?side1 ?side2 A21.out).mono ?_); (case side1 => exact Kd.C_below HR213_1.out (by repeat (first | (with_reducible first | exact HB.out | apply below_alloc | apply pw_below_drewN | apply below_drew1 | refine below_set ?_ GE214.out) | exact HB.out))); (case side2 => exact HC213_1.out); rintro e w' ⟨rfl, ⟨nd, rfl⟩⟩) | (go_at_call 56; (with_reducible refine (impl_listFault.calls k1 _ _ ((rd_T58 l0 x12_1).f2) false _ ?side1 ?side2 A24.out).mono ?_); (case side1 => exact Kd.C_below HR213_2.out (by repeat (first | (with_reducible first | exact HB.out | apply below_alloc | apply pw_below_drewN | apply below_drew1 | refine below_set ?_ GE214.out) | exact HB.out))); (case side2 => exact HC213_2.out); rintro e w' ⟨rfl, ⟨nd, rfl⟩⟩) | (go_at_call 56; (with_reducible refine (impl_listFault.calls k1 _ _ ((rd_T58 l0 x12_1).f3) true _ ?side1 ?side2 A27.out).mono ?_); (case side1 => exact Kd.C_below HR213_3.out (by repeat (first | (with_reducible first | exact HB.out | apply below_alloc | apply pw_below_drewN | apply below_drew1 | refine below_set ?_ GE214.out) | exact HB.out))); (case side2 => exact HC213_3.out); rintro e w' ⟨rfl, ⟨nd, rfl⟩⟩))
     go_meet
     case rel => exact ⟨_, (true), (by first | rfl | (simp; done) | (simp [*]; done)), H', ⟨by have := HK1.out; first | omega | exact Nat.le_refl _⟩, ⟨by (with_reducible repeat (first | refine blk_drewN ?_ _ | refine blk_drew ?_ | refine blk_alloc ?_ _)); refine blk_put (cs := #[.int .i64 ((rd_T58 l0 x12_1).f0), .slice A213_1 ((rd_T58 l0 x12_1).f1).length c213_1, .slice A213_2 ((rd_T58 l0 x12_1).f2).length c213_2, .slice A213_3 ((rd_T58 l0 x12_1).f3).length c213_3, .slice none 0 0]) ?_ 4 _ rfl; (with_reducible repeat (first | refine blk_drewN ?_ _ | refine blk_drew ?_ | refine blk_alloc ?_ _)); refine blk_put (cs := #[.int .i64 ((rd_T58 l0 x12_1).f0), .slice A213_1 ((rd_T58 l0 x12_1).f1).length c213_1, .slice A213_2 ((rd_T58 l0 x12_1).f2).length c213_2, .slice none 0 0, .slice none 0 0]) ?_ 3 _ rfl; (with_reducible repeat (first | refine blk_drewN ?_ _ | refine blk_drew ?_ | refine blk_alloc ?_ _)); refine blk_put (cs := #[.int .i64 ((rd_T58 l0 x12_1).f0), .slice A213_1 ((rd_T58 l0 x12_1).f1).length c213_1, .slice none 0 0, .slice none 0 0, .slice none 0 0]) ?_ 2 _ rfl; (with_reducible repeat (first | refine blk_drewN ?_ _ | refine blk_drew ?_ | refine blk_alloc ?_ _)); refine blk_put (cs := #[.int .i64 ((rd_T58 l0 x12_1).f0), .slice none 0 0, .slice none 0 0, .slice none 0 0, .slice none 0 0]) ?_ 1 _ rfl; (with_reducible repeat (first | refine blk_drewN ?_ _ | refine blk_drew ?_ | refine blk_alloc ?_ _)); refine blk_put (cs := #[.int .i64 0, .slice none 0 0, .slice none 0 0, .slice none 0 0, .slice none 0 0]) ?_ 0 _ rfl; (with_reducible repeat (first | refine blk_drewN ?_ _ | refine blk_drew ?_ | refine blk_alloc ?_ _)); exact BK214.out⟩, ⟨by repeat (first | (with_reducible first | exact HB.out | apply below_alloc | apply pw_below_drewN | apply below_drew1 | refine below_set ?_ GE214.out) | exact HB.out)⟩⟩
    replace c28 := Bool.eq_false_iff.mpr c28
    subst c28
    have H1 : (impl_PolicyFault.j1 k1 l0 (l0.length : Int) x12_1 (decide ((((rd_T58 l0 x12_1).f4).length : Int) > 10)) ((rd_T58 l0 x12_1).f0) ((rd_T58 l0 x12_1).f1) ((rd_T58 l0 x12_1).f2) ((rd_T58 l0 x12_1).f3) ((rd_T58 l0 x12_1).f4)) = some r := by rw [if_neg (show ¬ (false = true) by decide)] at H; exact H
    clear H
    have H := H1
    clear H1
    have H' := Aside0.mk H
    clear H
    have hcz30_0 : w7.cell? ⟨gb214, 0, none⟩ = some (.int .i64 0) := (blk_cell BK214.out 0).trans rfl
    have hcz30_1 : w7.cell? ⟨gb214, 1, none⟩ = some (.slice none 0 0) := (blk_cell BK214.out 1).trans rfl
    have hcz30_2 : w7.cell? ⟨gb214, 2, none⟩ = some (.slice none 0 0) := (blk_cell BK214.out 2).trans rfl
    have hcz30_3 : w7.cell? ⟨gb214, 3, none⟩ = some (.slice none 0 0) := (blk_cell BK214.out 3).trans rfl
    have hcz30_4 : w7.cell? ⟨gb214, 4, none⟩ = some (.slice none 0 0) := (blk_cell BK214.out 4).trans rfl
    have hfz30_0 := blk_frozen BK214.out 0
    have hfz30_1 := blk_frozen BK214.out 1
    have hfz30_2 := blk_frozen BK214.out 2
    have hfz30_3 := blk_frozen BK214.out 3
    have hfz30_4 := blk_frozen BK214.out 4
    go_wp2_with (first | (go_at_call 56; (with_reducible refine (impl_listFault.calls k1 _ _ ((rd_T58 l0 x12_1).f1) false _ ?side1 ?side2 A21.out).mono ?_); (case side1 => exact Kd.C_below HR213_1.out (by repeat (first | (with_reducible first | exact HB.out | apply below_alloc | apply pw_below_drewN | apply below_drew1 | refine below_set ?_ GE214.out) | exact HB.out))); (case side2 => exact HC213_1.out); rintro e w' ⟨rfl, ⟨nd, rfl⟩⟩) | (go_at_call 56; (with_reducible refine (impl_listFault.calls k1 _ _ ((rd_T58 l0 x12_1).f2) false _ ?side1 ?side2 A24.out).mono ?_); (case side1 => exact Kd.C_below HR213_2.out (by repeat (first | (with_reducible first | exact HB.out | apply below_alloc | apply pw_below_drewN | apply below_drew1 | refine below_set ?_ GE214.out) | exact HB.out))); (case side2 => exact HC213_2.out); rintro e w' ⟨rfl, ⟨nd, rfl⟩⟩) | (go_at_call 56; (with_reducible refine (impl_listFault.calls k1 _ _ ((rd_T58 l0 x12_1).f3) false _ ?side1 ?side2 A27.out).mono ?_); (case side1 => exact Kd.C_below HR213_3.out (by repeat (first | (with_reducible first | exact HB.out | apply below_alloc | apply pw_below_drewN | apply below_drew1 | refine below_set ?_ GE214.out) | exact HB.out))); (case side2 => exact HC213_3.out); rintro e w' ⟨rfl, ⟨nd, rfl⟩⟩))
    go_meet
    case rel => exact ⟨_, (decide ((((rd_T58 l0 x12_1).f4).length : Int) > 10)), (by first | rfl | (simp; done) | (simp [*]; done)), H', ⟨by have := HK1.out; first | omega | exact Nat.le_refl _⟩, ⟨by (with_reducible repeat (first | refine blk_drewN ?_ _ | refine blk_drew ?_ | refine blk_alloc ?_ _)); refine blk_put (cs := #[.int .i64 ((rd_T58 l0 x12_1).f0), .slice A213_1 ((rd_T58 l0 x12_1).f1).length c213_1, .slice A213_2 ((rd_T58 l0 x12_1).f2).length c213_2, .slice A213_3 ((rd_T58 l0 x12_1).f3).length c213_3, .slice none 0 0]) ?_ 4 _ rfl; (with_reducible repeat (first | refine blk_drewN ?_ _ | refine blk_drew ?_ | refine blk_alloc ?_ _)); refine blk_put (cs := #[.int .i64 ((rd_T58 l0 x12_1).f0), .slice A213_1 ((rd_T58 l0 x12_1).f1).length c213_1, .slice A213_2 ((rd_T58 l0 x12_1).f2).length c213_2, .slice none 0 0, .slice none 0 0]) ?_ 3 _ rfl; (with_reducible repeat (first | refine blk_drewN ?_ _ | refine blk_drew ?_ | refine blk_alloc ?_ _)); refine blk_put (cs := #[.int .i64 ((rd_T58 l0 x12_1).f0), .slice A213_1 ((rd_T58 l0 x12_1).f1).length c213_1, .slice none 0 0, .slice none 0 0, .slice none 0 0]) ?_ 2 _ rfl; (with_reducible repeat (first | refine blk_drewN ?_ _ | refine blk_drew ?_ | refine blk_alloc ?_ _)); refine blk_put (cs := #[.int .i64 ((rd_T58 l0 x12_1).f0), .slice none 0 0, .slice none 0 0, .slice none 0 0, .slice none 0 0]) ?_ 1 _ rfl; (with_reducible repeat (first | refine blk_drewN ?_ _ | refine blk_drew ?_ | refine blk_alloc ?_ _)); refine blk_put (cs := #[.int .i64 0, .slice none 0 0, .slice none 0 0, .slice none 0 0, .slice none 0 0]) ?_ 0 _ rfl; (with_reducible repeat (first | refine blk_drewN ?_ _ | refine blk_drew ?_ | refine blk_alloc ?_ _)); exact BK214.out⟩, ⟨by repeat (first | (with_reducible first | exact HB.out | apply below_alloc | apply pw_below_drewN | apply below_drew1 | refine below_set ?_ GE214.out) | exact HB.out)⟩⟩
   case rest =>
    clear HC6
    try clear c1
    try clear c2
    try clear c2b0
    try clear c2b1
    try clear p2
    try clear q2
    try clear hx2
    try clear c3
    try clear c3b0
    try clear c4
    try clear c4b0
    try clear c5
    try clear c5b0
    try clear c9
    try clear c9b0
    try clear c9b1
    try clear c11
    try clear c14
    try clear c17
    try clear c20
    try clear c20b0
    try clear c20b1
    try clear c21
    try clear p21
    try clear q21
    try clear hx21
    try clear c22
    try clear c25
    try clear c28
    try clear hcz12_0
    try clear hcz12_1
    try clear hcz12_2
    try clear hcz12_3
    try clear hcz12_4
    try clear hcz15_0
    try clear hcz15_1
    try clear hcz15_2
    try clear hcz15_3
    try clear hcz15_4
    try clear hcz18_0
    try clear hcz18_1
    try clear hcz18_2
    try clear hcz18_3
    try clear hcz18_4
    try clear hcz19_0
    try clear hcz19_1
    try clear hcz19_2
    try clear hcz19_3
    try clear hcz19_4
    try clear hcz23_0
    try clear hcz23_1
    try clear hcz23_2
    try clear hcz23_3
    try clear hcz23_4
    try clear hcz26_0
    try clear hcz26_1
    try clear hcz26_2
    try clear hcz26_3
    try clear hcz26_4
    try clear hcz29_0
    try clear hcz29_1
    try clear hcz29_2
    try clear hcz29_3
    try clear hcz29_4
    try clear hcz30_0
    try clear hcz30_1
    try clear hcz30_2
    try clear hcz30_3
    try clear hcz30_4
    try clear hcz31_0
    try clear hcz31_1
    try clear hcz31_2
    try clear hcz31_3
    try clear hcz31_4
    try clear hcz8_0
    try clear hcz8_1
    try clear hcz8_2
    try clear hcz8_3
    try clear hcz8_4
    try clear hfz12_0
    try clear hfz12_1
    try clear hfz12_2
    try clear hfz12_3
    try clear hfz12_4
    try clear hfz15_0
    try clear hfz15_1
    try clear hfz15_2
    try clear hfz15_3
    try clear hfz15_4
    try clear hfz18_0
    try clear hfz18_1
    try clear hfz18_2
    try clear hfz18_3
    try clear hfz18_4
    try clear hfz19_0
    try clear hfz19_1
    try clear hfz19_2
    try clear hfz19_3
    try clear hfz19_4
    try clear hfz23_0
    try clear hfz23_1
    try clear hfz23_2
    try clear hfz23_3
    try clear hfz23_4
    try clear hfz26_0
    try clear hfz26_1
    try clear hfz26_2
    try clear hfz26_3
    try clear hfz26_4
    try clear hfz29_0
    try clear hfz29_1
    try clear hfz29_2
    try clear hfz29_3
    try clear hfz29_4
    try clear hfz30_0
    try clear hfz30_1
    try clear hfz30_2
    try clear hfz30_3
    try clear hfz30_4
    try clear hfz31_0
    try clear hfz31_1
    try clear hfz31_2
    try clear hfz31_3
    try clear hfz31_4
    try clear hfz8_0
    try clear hfz8_1
    try clear hfz8_2
    try clear hfz8_3
    try clear hfz8_4
    try clear hx213_0
    try clear hx213_1
    try clear hx213_2
    try clear hx213_3
    try clear hx213_4
    try clear p2
    try clear p213
    try clear q213
    obtain ⟨kq, x44_5, rfl, HA, HJ5, BK214, HB⟩ := hcut
    cases kq with
    | zero => exact absurd HA.out (by simp [impl_PolicyFault.j1])
    | succ kj5 =>
     have H := HA.out
     clear HA
     simp only [impl_PolicyFault.j1] at H
     by_cases c32 : x44_5 = true
     ·
      subst c32
      have H1 : (some 1) = some r := by rw [if_pos rfl] at H; exact H
      clear H
      have H := H1
      clear H1
      obtain rfl := Option.some.inj H
      go_wp2
      go_ret
      exact ⟨by first | rfl | (simp [errW_none, errW_some] <;> rfl) | (simp [*, errW_none, errW_some] <;> rfl), by repeat (first | (with_reducible first | exact HB.out | apply below_alloc | apply pw_below_drewN | apply below_drew1 | refine below_set ?_ GE214.out) | exact HB.out)⟩
     replace c32 := Bool.eq_false_iff.mpr c32
     subst c32
     have H1 : (impl_PolicyFault.l1 kj5 l0 (l0.length : Int) x12_1 ((rd_T58 l0 x12_1).f4) (((rd_T58 l0 x12_1).f4).length : Int) 0) = some r := by rw [if_neg (show ¬ (false = true) by decide)] at H; exact H
     clear H
     have H := H1
     clear H1
     have H' := Aside0.mk H
     clear H
     have hcz33_0 : wc.cell? ⟨gb214, 0, none⟩ = some (.int .i64 ((rd_T58 l0 x12_1).f0)) := (blk_cell BK214.out 0).trans rfl
     have hcz33_1 : wc.cell? ⟨gb214, 1, none⟩ = some (.slice A213_1 ((rd_T58 l0 x12_1).f1).length c213_1) := (blk_cell BK214.out 1).trans rfl
     have hcz33_2 : wc.cell? ⟨gb214, 2, none⟩ = some (.slice A213_2 ((rd_T58 l0 x12_1).f2).length c213_2) := (blk_cell BK214.out 2).trans rfl
     have hcz33_3 : wc.cell? ⟨gb214, 3, none⟩ = some (.slice A213_3 ((rd_T58 l0 x12_1).f3).length c213_3) := (blk_cell BK214.out 3).trans rfl
     have hcz33_4 : wc.cell? ⟨gb214, 4, none⟩ = some (.slice A213_4 ((rd_T58 l0 x12_1).f4).length c213_4) := (blk_cell BK214.out 4).trans rfl
     have hfz33_0 := blk_frozen BK214.out 0
     have hfz33_1 := blk_frozen BK214.out 1
     have hfz33_2 := blk_frozen BK214.out 2
     have hfz33_3 := blk_frozen BK214.out 3
     have hfz33_4 := blk_frozen BK214.out 4
     go_wp2
     go_loopg [48] kj5 (fun kq v48 w' => ∃ (x48_3 : Int), v48 = .int .i64 x48_3 ∧ Aside0 (impl_PolicyFault.l1 kq l0 (l0.length : Int) x12_1 ((rd_T58 l0 x12_1).f4) (((rd_T58 l0 x12_1).f4).length : Int) x48_3 = some r) ∧ Aside0 (kq ≤ kj5) ∧ Aside0 (w'.heap[gb214]? = some (.cells #[.int .i64 ((rd_T58 l0 x12_1).f0), (.slice A213_1 ((rd_T58 l0 x12_1).f1).length c213_1), (.slice A213_2 ((rd_T58 l0 x12_1).f2).length c213_2), (.slice A213_3 ((rd_T58 l0 x12_1).f3).length c213_3), (.slice A213_4 ((rd_T58 l0 x12_1).f4).length c213_4)] 58 (0, 0))) ∧ Aside0 (Below w.heap.size w w'))
     case atStart => exact ⟨(0), (by first | rfl | (simp; done) | (simp [*]; done)), H', ⟨Nat.le_refl _⟩, ⟨by first | exact Grow.bk BK214.out | exact BK214.out⟩, ⟨by repeat (first | (with_reducible first | exact HB.out | apply below_alloc | apply pw_below_drewN | apply below_drew1 | refine below_set ?_ GE214.out) | exact HB.out)⟩⟩
     case round =>
      clear H'
      try clear c1
      try clear c2
      try clear c2b0
      try clear c2b1
      try clear p2
      try clear q2
      try clear hx2
      try clear c3
      try clear c3b0
      try clear c4
      try clear c4b0
      try clear c5
      try clear c5b0
      try clear c9
      try clear c9b0
      try clear c9b1
      try clear c11
      try clear c14
      try clear c17
      try clear c20
      try clear c20b0
      try clear c20b1
      try clear c21
      try clear p21
      try clear q21
      try clear hx21
      try clear c22
      try clear c25
      try clear c28
      try clear c32
      try clear hcz12_0
      try clear hcz12_1
      try clear hcz12_2
      try clear hcz12_3
      try clear hcz12_4
      try clear hcz15_0
      try clear hcz15_1
      try clear hcz15_2
      try clear hcz15_3
      try clear hcz15_4
      try clear hcz18_0
      try clear hcz18_1
      try clear hcz18_2
      try clear hcz18_3
      try clear hcz18_4
      try clear hcz19_0
      try clear hcz19_1
      try clear hcz19_2
      try clear hcz19_3
      try clear hcz19_4
      try clear hcz23_0
      try clear hcz23_1
      try clear hcz23_2
      try clear hcz23_3
      try clear hcz23_4
      try clear hcz26_0
      try clear hcz26_1
      try clear hcz26_2
      try clear hcz26_3
      try clear hcz26_4
      try clear hcz29_0
      try clear hcz29_1
      try clear hcz29_2
      try clear hcz29_3
      try clear hcz29_4
      try clear hcz30_0
      try clear hcz30_1
      try clear hcz30_2
      try clear hcz30_3
      try clear hcz30_4
      try clear hcz31_0
      try clear hcz31_1
      try clear hcz31_2
      try clear hcz31_3
      try clear hcz31_4
      try clear hcz33_0
      try clear hcz33_1
      try clear hcz33_2
      try clear hcz33_3
      try clear hcz33_4
      try clear hcz8_0
      try clear hcz8_1
      try clear hcz8_2
      try clear hcz8_3
      try clear hcz8_4
      try clear hfz12_0
      try clear hfz12_1
      try clear hfz12_2
      try clear hfz12_3
      try clear hfz12_4
      try clear hfz15_0
      try clear hfz15_1
      try clear hfz15_2
      try clear hfz15_3
      try clear hfz15_4
      try clear hfz18_0
      try clear hfz18_1
      try clear hfz18_2
      try clear hfz18_3
      try clear hfz18_4
      try clear hfz19_0
      try clear hfz19_1
      try clear hfz19_2
      try clear hfz19_3
      try clear hfz19_4
      try clear hfz23_0
      try clear hfz23_1
      try clear hfz23_2
      try clear hfz23_3
      try clear hfz23_4
      try clear hfz26_0
      try clear hfz26_1
      try clear hfz26_2
      try clear hfz26_3
      try clear hfz26_4
      try clear hfz29_0
      try clear hfz29_1
      try clear hfz29_2
      try clear hfz29_3
      try clear hfz29_4
      try clear hfz30_0
      try clear hfz30_1
      try clear hfz30_2
      try clear hfz30_3
      try clear hfz30_4
      try clear hfz31_0
      try clear hfz31_1
      try clear hfz31_2
      try clear hfz31_3
      try clear hfz31_4
      try clear hfz33_0
      try clear hfz33_1
      try clear hfz33_2
      try clear hfz33_3
      try clear hfz33_4
      try clear hfz8_0
      try clear hfz8_1
      try clear hfz8_2
      try clear hfz8_3
      try clear hfz8_4
      try clear hx213_0
      try clear hx213_1
      try clear hx213_2
      try clear hx213_3
      try clear hx213_4
      try clear p2
      try clear p21
      try clear p213
      try clear q2
      try clear q21
      try clear q213
      obtain ⟨x48_3, rfl, HA, HK3, BK214, HB⟩ := hrel
      cases gk with
      | zero => exact absurd HA.out (by simp [impl_PolicyFault.l1])
      | succ k3 =>
       have H := HA.out
       clear HA
       simp only [impl_PolicyFault.l1] at H
       by_cases c34 : x48_3 < (((rd_T58 l0 x12_1).f4).length : Int)
       rotate_left
       ·
        rw [if_neg c34] at H
        have c34b0 : decide (x48_3 < (((rd_T58 l0 x12_1).f4).length : Int)) = false := decide_eq_false c34
        clear c34
        have H' := Aside0.mk H
        clear H
        go_wp2
        go_roundg k3
        case measure => have := HK1.out; have := HJ5.out; have := HK3.out; omega
        case rel => exact ⟨(wrap64 (x12_1 + 1)), (by first | rfl | (simp; done) | (simp [*]; done)), H', ⟨by have := HK1.out; have := HJ5.out; have := HK3.out; omega⟩, ⟨by repeat (first | (with_reducible first | exact HB.out | apply below_alloc | apply pw_below_drewN | apply below_drew1 | refine below_set ?_ GE214.out) | exact HB.out)⟩⟩
       rw [if_pos c34] at H
       have c34b0 : decide (x48_3 < (((rd_T58 l0 x12_1).f4).length : Int)) = true := decide_eq_true c34
       clear c34
       by_cases c35 : 0 ≤ x48_3
       rotate_left
       ·
        rw [if_neg c35] at H
        exact absurd H (by simp)
       rw [if_pos c35] at H
       have c35b0 : decide (0 ≤ x48_3) = true := decide_eq_true c35
       clear c35
       by_cases c36 : x48_3 < (((rd_T58 l0 x12_1).f4).length : Int)
       rotate_left
       ·
        exact absurd (of_decide_eq_true c34b0) c36
       rw [if_pos c36] at H
       have c36b0 : decide (x48_3 < (((rd_T58 l0 x12_1).f4).length : Int)) = true := decide_eq_true c36
       clear c36
       replace H := Option.bind_eq_some_iff.mp H
       obtain ⟨t223, A370, H⟩ := H
       replace H : (if t223 = true then (some 1) else (impl_PolicyFault.l1 k3 l0 (l0.length : Int) x12_1 ((rd_T58 l0 x12_1).f4) (((rd_T58 l0 x12_1).f4).length : Int) (wrap64 (x48_3 + 1)))) = some r := H
       have A37 := Aside0.mk A370
       clear A370
       by_cases c38 : t223 = true
       ·
        subst c38
        have H1 : (some 1) = some r := by rw [if_pos rfl] at H; exact H
        clear H
        have H := H1
        clear H1
        obtain rfl := Option.some.inj H
        have p221 : 0 ≤ (x48_3 : Int) := of_decide_eq_true (by first | (with_reducible assumption) | assumption)
        have q221 : x48_3 < (((rd_T58 l0 x12_1).f4).length : Int) := of_decide_eq_true (by first | (with_reducible assumption) | assumption)
        obtain ⟨ad221, e221, hx221_0, hx221_1, hx221_2⟩ := at_T61 HR213_4.out x48_3 p221 q221
        cases e221
        replace hx221_0 := Grow.bc HB.out hx221_0
        replace hx221_1 := Grow.bc HB.out hx221_1
        replace hx221_2 := Grow.bc HB.out hx221_2
        replace p221 := eq_true p221
        replace q221 := eq_true q221
        go_wp2_with (first | ((with_reducible refine gate_dst (N := 6) rfl ?_); (try (refine gate_guard (by rfl) ?_; dsimp only)); refine box_event ?hg (N := 6) ?hd (cs := #[.int .i64 0, .string (⟨#[]⟩ : ByteArray), .int .i64 0]) (t := 61) ?hr ?_; (case hd => rfl); (case hg => rfl); (case hr => first | (go_simp; done) | (go_simp; rfl)); intro gb222 hg w39 hbox hb; have n0_ := Aside0.mk (blk_below (g := gb214) (o := .cells #[.int .i64 ((rd_T58 l0 x12_1).f0), .slice A213_1 ((rd_T58 l0 x12_1).f1).length c213_1, .slice A213_2 ((rd_T58 l0 x12_1).f2).length c213_2, .slice A213_3 ((rd_T58 l0 x12_1).f3).length c213_3, .slice (some ad221) ((rd_T58 l0 x12_1).f4).length c213_4] 58 (0, 0)) (by first | exact Grow.bk BK214.out | exact BK214.out) hb); have n1_ := Aside0.mk (below_step (by repeat (first | (with_reducible first | exact HB.out | apply below_alloc | apply pw_below_drewN | apply below_drew1 | refine below_set ?_ GE214.out) | exact HB.out)) hb); have n2_ := Aside0.mk (hbox); have n3_ := Aside0.mk ((by rw [hg]; exact (below_size (by repeat (first | (with_reducible first | exact HB.out | apply below_alloc | apply pw_below_drewN | apply below_drew1 | refine below_set ?_ GE214.out) | exact HB.out))) : w.heap.size ≤ gb222)); have n4_ := Aside0.mk ((by rw [hg]; exact (below_size (by repeat (first | (with_reducible first | exact HB.out | apply below_alloc | apply pw_below_drewN | apply below_drew1 | refine below_set ?_ GE214.out) | exact HB.out))) : w.heap.size ≤ gb222)); have n5_ := Aside0.mk ((by rw [hg]; exact Nat.ne_of_lt (blk_lt (g := gb214) (o := .cells #[.int .i64 ((rd_T58 l0 x12_1).f0), .slice A213_1 ((rd_T58 l0 x12_1).f1).length c213_1, .slice A213_2 ((rd_T58 l0 x12_1).f2).length c213_2, .slice A213_3 ((rd_T58 l0 x12_1).f3).length c213_3, .slice (some ad221) ((rd_T58 l0 x12_1).f4).length c213_4] 58 (0, 0)) (by first | exact Grow.bk BK214.out | exact BK214.out)) : gb214 ≠ gb222)); have n6_ := Aside0.mk ((by rw [hg]; exact Nat.ne_of_gt (blk_lt (g := gb214) (o := .cells #[.int .i64 ((rd_T58 l0 x12_1).f0), .slice A213_1 ((rd_T58 l0 x12_1).f1).length c213_1, .slice A213_2 ((rd_T58 l0 x12_1).f2).length c213_2, .slice A213_3 ((rd_T58 l0 x12_1).f3).length c213_3, .slice (some ad221) ((rd_T58 l0 x12_1).f4).length c213_4] 58 (0, 0)) (by first | exact Grow.bk BK214.out | exact BK214.out)) : gb222 ≠ gb214)); clear BK214; clear HB; have BK214 := n0_; have HB := n1_; have BK222 := n2_; have GW222 := n3_; have GE222 := n4_; have NB214_222 := n5_; have NB222_214 := n6_; clear n0_ n1_ n2_ n3_ n4_ n5_ n6_; clear hb hbox hg; have hnb40 := NB222_214.out; have hnc40 := NB214_222.out; have hcz41_0 : w39.cell? ⟨gb222, 0, none⟩ = some (.int .i64 0) := (blk_cell BK222.out 0).trans rfl; have hcz41_1 : w39.cell? ⟨gb222, 1, none⟩ = some (.string (⟨#[]⟩ : ByteArray)) := (blk_cell BK222.out 1).trans rfl; have hcz41_2 : w39.cell? ⟨gb222, 2, none⟩ = some (.int .i64 0) := (blk_cell BK222.out 2).trans rfl; have hfz41_0 := blk_frozen BK222.out 0; have hfz41_1 := blk_frozen BK222.out 1; have hfz41_2 := blk_frozen BK222.out 2) | ((with_reducible refine gate_callee (f := 57) rfl ?_); refine goesL_ (some 53) rfl rfl Tryd.func57 (by kernel_rfl) rfl #[.agg #[.int .i64 ((rd_T61 ((rd_T58 l0 x12_1).f4) x48_3).f0), .string ((rd_T61 ((rd_T58 l0 x12_1).f4) x48_3).f1), .int .i64 ((rd_T61 ((rd_T58 l0 x12_1).f4) x48_3).f2)]] rfl (by (try simp only [List.map_toArray, List.map_cons, List.map_nil]); first | done | rfl | (simp only [List.length_drop, List.length_take]; rfl)) ?_; (with_reducible refine (impl_conditionFault.calls k3 ((rd_T61 ((rd_T58 l0 x12_1).f4) x48_3).f0) ((rd_T61 ((rd_T58 l0 x12_1).f4) x48_3).f1) ((rd_T61 ((rd_T58 l0 x12_1).f4) x48_3).f2) true _ A37.out).mono ?_); rintro e w42 ⟨rfl, hb⟩; refine ⟨_, rfl, ?_⟩; have n0_ := Aside0.mk (blk_below (g := gb214) (o := .cells #[.int .i64 ((rd_T58 l0 x12_1).f0), .slice A213_1 ((rd_T58 l0 x12_1).f1).length c213_1, .slice A213_2 ((rd_T58 l0 x12_1).f2).length c213_2, .slice A213_3 ((rd_T58 l0 x12_1).f3).length c213_3, .slice (some ad221) ((rd_T58 l0 x12_1).f4).length c213_4] 58 (0, 0)) (by (with_reducible repeat (first | refine blk_drewN ?_ _ | refine blk_drew ?_ | refine blk_alloc ?_ _)); refine blk_far ?_ NB214_222.out _; (with_reducible repeat (first | refine blk_drewN ?_ _ | refine blk_drew ?_ | refine blk_alloc ?_ _)); refine blk_far ?_ NB214_222.out _; (with_reducible repeat (first | refine blk_drewN ?_ _ | refine blk_drew ?_ | refine blk_alloc ?_ _)); refine blk_far ?_ NB214_222.out _; (with_reducible repeat (first | refine blk_drewN ?_ _ | refine blk_drew ?_ | refine blk_alloc ?_ _)); exact BK214.out) hb); have n1_ := Aside0.mk (blk_below (g := gb222) (o := .cells #[.int .i64 ((rd_T61 ((rd_T58 l0 x12_1).f4) x48_3).f0), .string ((rd_T61 ((rd_T58 l0 x12_1).f4) x48_3).f1), .int .i64 ((rd_T61 ((rd_T58 l0 x12_1).f4) x48_3).f2)] 61 (0, 0)) (by (with_reducible repeat (first | refine blk_drewN ?_ _ | refine blk_drew ?_ | refine blk_alloc ?_ _)); refine blk_put (cs := #[.int .i64 ((rd_T61 ((rd_T58 l0 x12_1).f4) x48_3).f0), .string ((rd_T61 ((rd_T58 l0 x12_1).f4) x48_3).f1), .int .i64 0]) ?_ 2 _ rfl; (with_reducible repeat (first | refine blk_drewN ?_ _ | refine blk_drew ?_ | refine blk_alloc ?_ _)); refine blk_put (cs := #[.int .i64 ((rd_T61 ((rd_T58 l0 x12_1).f4) x48_3).f0), .string (⟨#[]⟩ : ByteArray), .int .i64 0]) ?_ 1 _ rfl; (with_reducible repeat (first | refine blk_drewN ?_ _ | refine blk_drew ?_ | refine blk_alloc ?_ _)); refine blk_put (cs := #[.int .i64 0, .string (⟨#[]⟩ : ByteArray), .int .i64 0]) ?_ 0 _ rfl; (with_reducible repeat (first | refine blk_drewN ?_ _ | refine blk_drew ?_ | refine blk_alloc ?_ _)); exact BK222.out) hb); have n2_ := Aside0.mk (below_step (by repeat (first | (with_reducible first | exact HB.out | apply below_alloc | apply pw_below_drewN | apply below_drew1 | refine below_set ?_ GE214.out | refine below_set ?_ GE222.out) | exact HB.out)) hb); clear BK214; clear BK222; clear HB; have BK214 := n0_; have BK222 := n1_; have HB := n2_; clear n0_ n1_ n2_; (try clear hb); (try clear hb2); (try clear hk); (try clear hi)))
        go_ret
        exact ⟨by first | rfl | (simp [errW_none, errW_some] <;> rfl) | (simp [*, errW_none, errW_some] <;> rfl), by repeat (first | (with_reducible first | exact HB.out | apply below_alloc | apply pw_below_drewN | apply below_drew1 | refine below_set ?_ GE214.out | refine below_set ?_ GE222.out) | exact HB.out)⟩
       replace c38 := Bool.eq_false_iff.mpr c38
       subst c38
       have H1 : (impl_PolicyFault.l1 k3 l0 (l0.length : Int) x12_1 ((rd_T58 l0 x12_1).f4) (((rd_T58 l0 x12_1).f4).length : Int) (wrap64 (x48_3 + 1))) = some r := by rw [if_neg (show ¬ (false = true) by decide)] at H; exact H
       clear H
       have H := H1
       clear H1
       have H' := Aside0.mk H
       clear H
       have p221 : 0 ≤ (x48_3 : Int) := of_decide_eq_true (by first | (with_reducible assumption) | assumption)
       have q221 : x48_3 < (((rd_T58 l0 x12_1).f4).length : Int) := of_decide_eq_true (by first | (with_reducible assumption) | assumption)
       obtain ⟨ad221, e221, hx221_0, hx221_1, hx221_2⟩ := at_T61 HR213_4.out x48_3 p221 q221
       cases e221
       replace hx221_0 := Grow.bc HB.out hx221_0
       replace hx221_1 := Grow.bc HB.out hx221_1
       replace hx221_2 := Grow.bc HB.out hx221_2
       replace p221 := eq_true p221
       replace q221 := eq_true q221
       go_wp2_with (first | ((with_reducible refine gate_dst (N := 6) rfl ?_); (try (refine gate_guard (by rfl) ?_; dsimp only)); refine box_event ?hg (N := 6) ?hd (cs := #[.int .i64 0, .string (⟨#[]⟩ : ByteArray), .int .i64 0]) (t := 61) ?hr ?_; (case hd => rfl); (case hg => rfl); (case hr => first | (go_simp; done) | (go_simp; rfl)); intro gb222 hg w43 hbox hb; have n0_ := Aside0.mk (blk_below (g := gb214) (o := .cells #[.int .i64 ((rd_T58 l0 x12_1).f0), .slice A213_1 ((rd_T58 l0 x12_1).f1).length c213_1, .slice A213_2 ((rd_T58 l0 x12_1).f2).length c213_2, .slice A213_3 ((rd_T58 l0 x12_1).f3).length c213_3, .slice (some ad221) ((rd_T58 l0 x12_1).f4).length c213_4] 58 (0, 0)) (by first | exact Grow.bk BK214.out | exact BK214.out) hb); have n1_ := Aside0.mk (below_step (by repeat (first | (with_reducible first | exact HB.out | apply below_alloc | apply pw_below_drewN | apply below_drew1 | refine below_set ?_ GE214.out) | exact HB.out)) hb); have n2_ := Aside0.mk (hbox); have n3_ := Aside0.mk ((by rw [hg]; exact (below_size (by repeat (first | (with_reducible first | exact HB.out | apply below_alloc | apply pw_below_drewN | apply below_drew1 | refine below_set ?_ GE214.out) | exact HB.out))) : w.heap.size ≤ gb222)); have n4_ := Aside0.mk ((by rw [hg]; exact (below_size (by repeat (first | (with_reducible first | exact HB.out | apply below_alloc | apply pw_below_drewN | apply below_drew1 | refine below_set ?_ GE214.out) | exact HB.out))) : w.heap.size ≤ gb222)); have n5_ := Aside0.mk ((by rw [hg]; exact Nat.ne_of_lt (blk_lt (g := gb214) (o := .cells #[.int .i64 ((rd_T58 l0 x12_1).f0), .slice A213_1 ((rd_T58 l0 x12_1).f1).length c213_1, .slice A213_2 ((rd_T58 l0 x12_1).f2).length c213_2, .slice A213_3 ((rd_T58 l0 x12_1).f3).length c213_3, .slice (some ad221) ((rd_T58 l0 x12_1).f4).length c213_4] 58 (0, 0)) (by first | exact Grow.bk BK214.out | exact BK214.out)) : gb214 ≠ gb222)); have n6_ := Aside0.mk ((by rw [hg]; exact Nat.ne_of_gt (blk_lt (g := gb214) (o := .cells #[.int .i64 ((rd_T58 l0 x12_1).f0), .slice A213_1 ((rd_T58 l0 x12_1).f1).length c213_1, .slice A213_2 ((rd_T58 l0 x12_1).f2).length c213_2, .slice A213_3 ((rd_T58 l0 x12_1).f3).length c213_3, .slice (some ad221) ((rd_T58 l0 x12_1).f4).length c213_4] 58 (0, 0)) (by first | exact Grow.bk BK214.out | exact BK214.out)) : gb222 ≠ gb214)); clear BK214; clear HB; have BK214 := n0_; have HB := n1_; have BK222 := n2_; have GW222 := n3_; have GE222 := n4_; have NB214_222 := n5_; have NB222_214 := n6_; clear n0_ n1_ n2_ n3_ n4_ n5_ n6_; clear hb hbox hg; have hnb44 := NB222_214.out; have hnc44 := NB214_222.out; have hcz45_0 : w43.cell? ⟨gb222, 0, none⟩ = some (.int .i64 0) := (blk_cell BK222.out 0).trans rfl; have hcz45_1 : w43.cell? ⟨gb222, 1, none⟩ = some (.string (⟨#[]⟩ : ByteArray)) := (blk_cell BK222.out 1).trans rfl; have hcz45_2 : w43.cell? ⟨gb222, 2, none⟩ = some (.int .i64 0) := (blk_cell BK222.out 2).trans rfl; have hfz45_0 := blk_frozen BK222.out 0; have hfz45_1 := blk_frozen BK222.out 1; have hfz45_2 := blk_frozen BK222.out 2) | ((with_reducible refine gate_callee (f := 57) rfl ?_); refine goesL_ (some 53) rfl rfl Tryd.func57 (by kernel_rfl) rfl #[.agg #[.int .i64 ((rd_T61 ((rd_T58 l0 x12_1).f4) x48_3).f0), .string ((rd_T61 ((rd_T58 l0 x12_1).f4) x48_3).f1), .int .i64 ((rd_T61 ((rd_T58 l0 x12_1).f4) x48_3).f2)]] rfl (by (try simp only [List.map_toArray, List.map_cons, List.map_nil]); first | done | rfl | (simp only [List.length_drop, List.length_take]; rfl)) ?_; (with_reducible refine (impl_conditionFault.calls k3 ((rd_T61 ((rd_T58 l0 x12_1).f4) x48_3).f0) ((rd_T61 ((rd_T58 l0 x12_1).f4) x48_3).f1) ((rd_T61 ((rd_T58 l0 x12_1).f4) x48_3).f2) false _ A37.out).mono ?_); rintro e w46 ⟨rfl, hb⟩; refine ⟨_, rfl, ?_⟩; have n0_ := Aside0.mk (blk_below (g := gb214) (o := .cells #[.int .i64 ((rd_T58 l0 x12_1).f0), .slice A213_1 ((rd_T58 l0 x12_1).f1).length c213_1, .slice A213_2 ((rd_T58 l0 x12_1).f2).length c213_2, .slice A213_3 ((rd_T58 l0 x12_1).f3).length c213_3, .slice (some ad221) ((rd_T58 l0 x12_1).f4).length c213_4] 58 (0, 0)) (by (with_reducible repeat (first | refine blk_drewN ?_ _ | refine blk_drew ?_ | refine blk_alloc ?_ _)); refine blk_far ?_ NB214_222.out _; (with_reducible repeat (first | refine blk_drewN ?_ _ | refine blk_drew ?_ | refine blk_alloc ?_ _)); refine blk_far ?_ NB214_222.out _; (with_reducible repeat (first | refine blk_drewN ?_ _ | refine blk_drew ?_ | refine blk_alloc ?_ _)); refine blk_far ?_ NB214_222.out _; (with_reducible repeat (first | refine blk_drewN ?_ _ | refine blk_drew ?_ | refine blk_alloc ?_ _)); exact BK214.out) hb); have n1_ := Aside0.mk (blk_below (g := gb222) (o := .cells #[.int .i64 ((rd_T61 ((rd_T58 l0 x12_1).f4) x48_3).f0), .string ((rd_T61 ((rd_T58 l0 x12_1).f4) x48_3).f1), .int .i64 ((rd_T61 ((rd_T58 l0 x12_1).f4) x48_3).f2)] 61 (0, 0)) (by (with_reducible repeat (first | refine blk_drewN ?_ _ | refine blk_drew ?_ | refine blk_alloc ?_ _)); refine blk_put (cs := #[.int .i64 ((rd_T61 ((rd_T58 l0 x12_1).f4) x48_3).f0), .string ((rd_T61 ((rd_T58 l0 x12_1).f4) x48_3).f1), .int .i64 0]) ?_ 2 _ rfl; (with_reducible repeat (first | refine blk_drewN ?_ _ | refine blk_drew ?_ | refine blk_alloc ?_ _)); refine blk_put (cs := #[.int .i64 ((rd_T61 ((rd_T58 l0 x12_1).f4) x48_3).f0), .string (⟨#[]⟩ : ByteArray), .int .i64 0]) ?_ 1 _ rfl; (with_reducible repeat (first | refine blk_drewN ?_ _ | refine blk_drew ?_ | refine blk_alloc ?_ _)); refine blk_put (cs := #[.int .i64 0, .string (⟨#[]⟩ : ByteArray), .int .i64 0]) ?_ 0 _ rfl; (with_reducible repeat (first | refine blk_drewN ?_ _ | refine blk_drew ?_ | refine blk_alloc ?_ _)); exact BK222.out) hb); have n2_ := Aside0.mk (below_step (by repeat (first | (with_reducible first | exact HB.out | apply below_alloc | apply pw_below_drewN | apply below_drew1 | refine below_set ?_ GE214.out | refine below_set ?_ GE222.out) | exact HB.out)) hb); clear BK214; clear BK222; clear HB; have BK214 := n0_; have BK222 := n1_; have HB := n2_; clear n0_ n1_ n2_; (try clear hb); (try clear hb2); (try clear hk); (try clear hi)))
       go_roundg k3
       case measure => have := HK1.out; have := HJ5.out; have := HK3.out; omega
       case rel => exact ⟨(wrap64 (x48_3 + 1)), (by first | rfl | (simp; done) | (simp [*]; done)), H', ⟨by have := HK1.out; have := HJ5.out; have := HK3.out; omega⟩, ⟨by first | exact Grow.bk BK214.out | exact BK214.out⟩, ⟨by repeat (first | (with_reducible first | exact HB.out | apply below_alloc | apply pw_below_drewN | apply below_drew1 | refine below_set ?_ GE214.out | refine below_set ?_ GE222.out) | exact HB.out)⟩⟩

end Go.Proofs.YtepnjhmdcaolkaaDoor.QFnExactWritePolicy
