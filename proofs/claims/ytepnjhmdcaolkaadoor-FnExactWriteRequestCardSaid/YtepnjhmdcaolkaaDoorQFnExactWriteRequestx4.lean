-- A text of this session, printed by a program of its own (wip/tools: xpatch.py, xprint.sh, mkq.py). No condition.
import Derived.Test.YtepnjhmdcaolkaaDoorQFnExactWriteRequestx0
import Derived.Test.YtepnjhmdcaolkaaDoorQFnExactWriteRequestx2
import Derived.Test.YtepnjhmdcaolkaaDoorQFnExactWriteRequestx3
namespace Go.Proofs.YtepnjhmdcaolkaaDoor.QFnExactWriteRequest
open Go.RowKit Go.Proofs.YtepnjhmdcaolkaaDoorW.PrintWords Go.Proofs.YtepnjhmdcaolkaaDoorW.PrintLast Go.Proofs.YtepnjhmdcaolkaaDoorW.PrintMore
attribute [local go_sem] max2_int min2_int max_two min_two max_three min_three max_four min_four   -- for this text's walks alone
set_option linter.unusedVariables false
set_option linter.unusedSimpArgs false

/-! ### spec_RequestFault: function 7 -/
mutual
def spec_RequestFault.j0 : Nat → Bool → ByteArray → ByteArray → List (S45) → List (S45) → ByteArray → Option (Int)
  | 0, _, _, _, _, _, _ => none
  | k + 1, x56, x138000, x138001, x138002, x138003, x138004 => if x56 = true then (some 1) else (spec_RequestFault.l0 k 0 x138000 x138001 x138002 x138003 x138004)
def spec_RequestFault.l0 : Nat → Int → ByteArray → ByteArray → List (S45) → List (S45) → ByteArray → Option (Int)
  | 0, _, _, _, _, _, _ => none
  | k + 1, x3, x138000, x138001, x138002, x138003, x138004 => if x3 < (x138002.length : Int) then (if 0 ≤ x3 then (if (((rd_T45 x138002 x3).f0).size : Int) < 1 then (some 1) else (if (((rd_T45 x138002 x3).f0).size : Int) > 100 then (some 1) else (if (((rd_T45 x138002 x3).f1).size : Int) > 1000 then (some 1) else (spec_RequestFault.l0 k (wrap64 (x3 + 1)) x138000 x138001 x138002 x138003 x138004)))) else (none)) else (spec_RequestFault.l1 k 0 x138000 x138001 x138002 x138003 x138004)
def spec_RequestFault.l1 : Nat → Int → ByteArray → ByteArray → List (S45) → List (S45) → ByteArray → Option (Int)
  | 0, _, _, _, _, _, _ => none
  | k + 1, x4, x138000, x138001, x138002, x138003, x138004 => if x4 < (x138003.length : Int) then (if 0 ≤ x4 then ((spec_l10Name.f k ((rd_T45 x138003 x4).f0)).bind fun t145 => (if t145 = true then ((spec_l10Value.f k ((rd_T45 x138003 x4).f1)).bind fun t147 => (if t147 = true then (spec_RequestFault.l1 k (wrap64 (x4 + 1)) x138000 x138001 x138002 x138003 x138004) else (some 1))) else (some 1))) else (none)) else (some 0)
end
def spec_RequestFault.f (k : Nat) (a0_0 : ByteArray) (a0_1 : ByteArray) (l0_2 : List (S45)) (l0_3 : List (S45)) (a0_4 : ByteArray) : Option (Int) := (spec_l10Method.f k a0_0).bind fun t138 => (if t138 = true then (if (a0_1.size : Int) < 1 then (spec_RequestFault.j0 k true a0_0 a0_1 l0_2 l0_3 a0_4) else (if (a0_1.size : Int) > 1000 then (spec_RequestFault.j0 k true a0_0 a0_1 l0_2 l0_3 a0_4) else (if 0 < (a0_1.size : Int) then (if (bt a0_1 0) = 47 then (if (l0_2.length : Int) > 30 then (spec_RequestFault.j0 k true a0_0 a0_1 l0_2 l0_3 a0_4) else (if (l0_3.length : Int) > 30 then (spec_RequestFault.j0 k true a0_0 a0_1 l0_2 l0_3 a0_4) else ((spec_l10Different.f k l0_2).bind fun t139 => (if t139 = true then ((spec_l10Different.f k l0_3).bind fun t140 => (if t140 = true then (spec_RequestFault.j0 k (decide ((a0_4.size : Int) > 100000)) a0_0 a0_1 l0_2 l0_3 a0_4) else (spec_RequestFault.j0 k true a0_0 a0_1 l0_2 l0_3 a0_4))) else (spec_RequestFault.j0 k true a0_0 a0_1 l0_2 l0_3 a0_4))))) else (spec_RequestFault.j0 k true a0_0 a0_1 l0_2 l0_3 a0_4)) else (none)))) else (spec_RequestFault.j0 k true a0_0 a0_1 l0_2 l0_3 a0_4))
theorem spec_RequestFault.mono_l : ∀ k, (∀ y0 y1 y2 y3 y4 y5, LeO (spec_RequestFault.j0 k y0 y1 y2 y3 y4 y5) (spec_RequestFault.j0 (k + 1) y0 y1 y2 y3 y4 y5)) ∧ (∀ y0 y1 y2 y3 y4 y5, LeO (spec_RequestFault.l0 k y0 y1 y2 y3 y4 y5) (spec_RequestFault.l0 (k + 1) y0 y1 y2 y3 y4 y5)) ∧ (∀ y0 y1 y2 y3 y4 y5, LeO (spec_RequestFault.l1 k y0 y1 y2 y3 y4 y5) (spec_RequestFault.l1 (k + 1) y0 y1 y2 y3 y4 y5))
  | 0 => ⟨fun _ _ _ _ _ _ r h => by simp [spec_RequestFault.j0] at h, fun _ _ _ _ _ _ r h => by simp [spec_RequestFault.l0] at h, fun _ _ _ _ _ _ r h => by simp [spec_RequestFault.l1] at h⟩
  | k + 1 => by
    obtain ⟨ih0, ih1, ih2⟩ := spec_RequestFault.mono_l k
    refine ⟨?_, ?_, ?_⟩
    · intro y0 y1 y2 y3 y4 y5
      unfold spec_RequestFault.j0
      repeat' first
      | (with_reducible exact ih0 _ _ _ _ _ _)
      | (with_reducible exact ih1 _ _ _ _ _ _)
      | (with_reducible exact ih2 _ _ _ _ _ _)
      | (with_reducible exact spec_l10Different.mono _ _)
      | (with_reducible exact spec_l10Method.mono _ _)
      | (with_reducible exact spec_l10Name.mono _ _)
      | (with_reducible exact spec_l10Value.mono _ _)
      | (with_reducible exact LeO.refl _)
      | (with_reducible exact LeO.none _)
      | (with_reducible refine LeO.ite ?_ ?_)
      | (with_reducible refine LeO.bind ?_ (fun _ => ?_))
      | exact ih0 _ _ _ _ _ _
      | exact ih1 _ _ _ _ _ _
      | exact ih2 _ _ _ _ _ _
      | exact spec_l10Different.mono _ _
      | exact spec_l10Method.mono _ _
      | exact spec_l10Name.mono _ _
      | exact spec_l10Value.mono _ _
      | exact LeO.none _
      | refine LeO.ite ?_ ?_
      | refine LeO.bind ?_ (fun _ => ?_)
    · intro y0 y1 y2 y3 y4 y5
      unfold spec_RequestFault.l0
      repeat' first
      | (with_reducible exact ih0 _ _ _ _ _ _)
      | (with_reducible exact ih1 _ _ _ _ _ _)
      | (with_reducible exact ih2 _ _ _ _ _ _)
      | (with_reducible exact spec_l10Different.mono _ _)
      | (with_reducible exact spec_l10Method.mono _ _)
      | (with_reducible exact spec_l10Name.mono _ _)
      | (with_reducible exact spec_l10Value.mono _ _)
      | (with_reducible exact LeO.refl _)
      | (with_reducible exact LeO.none _)
      | (with_reducible refine LeO.ite ?_ ?_)
      | (with_reducible refine LeO.bind ?_ (fun _ => ?_))
      | exact ih0 _ _ _ _ _ _
      | exact ih1 _ _ _ _ _ _
      | exact ih2 _ _ _ _ _ _
      | exact spec_l10Different.mono _ _
      | exact spec_l10Method.mono _ _
      | exact spec_l10Name.mono _ _
      | exact spec_l10Value.mono _ _
      | exact LeO.none _
      | refine LeO.ite ?_ ?_
      | refine LeO.bind ?_ (fun _ => ?_)
    · intro y0 y1 y2 y3 y4 y5
      unfold spec_RequestFault.l1
      repeat' first
      | (with_reducible exact ih0 _ _ _ _ _ _)
      | (with_reducible exact ih1 _ _ _ _ _ _)
      | (with_reducible exact ih2 _ _ _ _ _ _)
      | (with_reducible exact spec_l10Different.mono _ _)
      | (with_reducible exact spec_l10Method.mono _ _)
      | (with_reducible exact spec_l10Name.mono _ _)
      | (with_reducible exact spec_l10Value.mono _ _)
      | (with_reducible exact LeO.refl _)
      | (with_reducible exact LeO.none _)
      | (with_reducible refine LeO.ite ?_ ?_)
      | (with_reducible refine LeO.bind ?_ (fun _ => ?_))
      | exact ih0 _ _ _ _ _ _
      | exact ih1 _ _ _ _ _ _
      | exact ih2 _ _ _ _ _ _
      | exact spec_l10Different.mono _ _
      | exact spec_l10Method.mono _ _
      | exact spec_l10Name.mono _ _
      | exact spec_l10Value.mono _ _
      | exact LeO.none _
      | refine LeO.ite ?_ ?_
      | refine LeO.bind ?_ (fun _ => ?_)
theorem spec_RequestFault.mono : ∀ a0 a1 a2 a3 a4 k, LeO (spec_RequestFault.f k a0 a1 a2 a3 a4) (spec_RequestFault.f (k + 1) a0 a1 a2 a3 a4) := by
  intro a0 a1 a2 a3 a4 k
  obtain ⟨ih0, ih1, ih2⟩ := spec_RequestFault.mono_l k
  unfold spec_RequestFault.f
  repeat' first
      | (with_reducible exact ih0 _ _ _ _ _ _)
      | (with_reducible exact ih1 _ _ _ _ _ _)
      | (with_reducible exact ih2 _ _ _ _ _ _)
      | (with_reducible exact spec_l10Different.mono _ _)
      | (with_reducible exact spec_l10Method.mono _ _)
      | (with_reducible exact spec_l10Name.mono _ _)
      | (with_reducible exact spec_l10Value.mono _ _)
      | (with_reducible exact LeO.refl _)
      | (with_reducible exact LeO.none _)
      | (with_reducible refine LeO.ite ?_ ?_)
      | (with_reducible refine LeO.bind ?_ (fun _ => ?_))
      | exact ih0 _ _ _ _ _ _
      | exact ih1 _ _ _ _ _ _
      | exact ih2 _ _ _ _ _ _
      | exact spec_l10Different.mono _ _
      | exact spec_l10Method.mono _ _
      | exact spec_l10Name.mono _ _
      | exact spec_l10Value.mono _ _
      | exact LeO.none _
      | refine LeO.ite ?_ ?_
      | refine LeO.bind ?_ (fun _ => ?_)
set_option maxHeartbeats 8000000 in
set_option maxRecDepth 100000 in
theorem spec_RequestFault.calls (k : Nat) (a0_0 : ByteArray) (a0_1 : ByteArray) (A0_2 : Option Addr) (c0_2 : Nat) (l0_2 : List (S45)) (A0_3 : Option Addr) (c0_3 : Nat) (l0_3 : List (S45)) (a0_4 : ByteArray) (r : Int) (w : World) (hr0_2 : Kd.C k45 w A0_2 l0_2.length l0_2) (hc0_2 : l0_2.length ≤ c0_2) (hr0_3 : Kd.C k45 w A0_3 l0_3.length l0_3) (hc0_3 : l0_3.length ≤ c0_3) (h : spec_RequestFault.f k a0_0 a0_1 l0_2 l0_3 a0_4 = some r) :
  Calls Tryd.prog 7 #[.agg #[.string a0_0, .string a0_1, .slice A0_2 l0_2.length c0_2, .slice A0_3 l0_3.length c0_3, .string a0_4]] w fun e w' => e = .returned (.int .i64 r) ∧ Below w.heap.size w w' := by
 have hu29 := Tryd.underlying29
 have HR0_2 := Aside0.mk hr0_2
 have HC0_2 := Aside0.mk hc0_2
 clear hr0_2 hc0_2
 have HR0_3 := Aside0.mk hr0_3
 have HC0_3 := Aside0.mk hc0_3
 clear hr0_3 hc0_3
 have HB := Aside0.mk (Below.refl w.heap.size w)
 have H : ((spec_l10Method.f k a0_0).bind fun t138 => (if t138 = true then (if (a0_1.size : Int) < 1 then (spec_RequestFault.j0 k true a0_0 a0_1 l0_2 l0_3 a0_4) else (if (a0_1.size : Int) > 1000 then (spec_RequestFault.j0 k true a0_0 a0_1 l0_2 l0_3 a0_4) else (if 0 < (a0_1.size : Int) then (if (bt a0_1 0) = 47 then (if (l0_2.length : Int) > 30 then (spec_RequestFault.j0 k true a0_0 a0_1 l0_2 l0_3 a0_4) else (if (l0_3.length : Int) > 30 then (spec_RequestFault.j0 k true a0_0 a0_1 l0_2 l0_3 a0_4) else ((spec_l10Different.f k l0_2).bind fun t139 => (if t139 = true then ((spec_l10Different.f k l0_3).bind fun t140 => (if t140 = true then (spec_RequestFault.j0 k (decide ((a0_4.size : Int) > 100000)) a0_0 a0_1 l0_2 l0_3 a0_4) else (spec_RequestFault.j0 k true a0_0 a0_1 l0_2 l0_3 a0_4))) else (spec_RequestFault.j0 k true a0_0 a0_1 l0_2 l0_3 a0_4))))) else (spec_RequestFault.j0 k true a0_0 a0_1 l0_2 l0_3 a0_4)) else (none)))) else (spec_RequestFault.j0 k true a0_0 a0_1 l0_2 l0_3 a0_4))) = some r := h
 clear h
 have HC2 := Aside0.mk H
 clear H
 go_enter Tryd.func7, Tryd.ntmps7
 go_upto_region 1 with (first | ((with_reducible refine gate_dst (N := 1) rfl ?_); (try (refine gate_guard (by rfl) ?_; dsimp only)); refine box_event ?hg (N := 1) ?hd (cs := #[.string a0_0, .string a0_1, .slice A0_2 l0_2.length c0_2, .slice A0_3 l0_3.length c0_3, .string a0_4]) (t := 29) ?hr ?_; (case hd => rfl); (case hg => rfl); (case hr => first | (go_simp; done) | (go_simp; rfl)); intro gb137 hg w3 hbox hb; have n0_ := Aside0.mk (below_step (by first | exact Grow.bl HB.out | exact HB.out) hb); have n1_ := Aside0.mk (hbox); have n2_ := Aside0.mk ((by rw [hg]; exact (below_size (by first | exact Grow.bl HB.out | exact HB.out)) : w.heap.size ≤ gb137)); have n3_ := Aside0.mk ((by rw [hg]; exact (below_size (by first | exact Grow.bl HB.out | exact HB.out)) : w.heap.size ≤ gb137)); clear HB; have HB := n0_; have BK137 := n1_; have GW137 := n2_; have GE137 := n3_; clear n0_ n1_ n2_ n3_; clear hb hbox hg))
 (try simp only [Act.put, List.setIfInBounds_toArray, List.set_cons_zero, List.set_cons_succ])
 go_cut [56] (fun v56 wc => ∃ (kq : Nat) (x56_1 : Bool), v56 = .bool x56_1 ∧ Aside0 (spec_RequestFault.j0 kq x56_1 a0_0 a0_1 l0_2 l0_3 a0_4 = some r) ∧ Aside0 (kq ≤ k) ∧ Aside0 (wc.heap[gb137]? = some (.cells #[.string a0_0, .string a0_1, (.slice A0_2 l0_2.length c0_2), (.slice A0_3 l0_3.length c0_3), .string a0_4] 29 (0, 0))) ∧ Aside0 (Below w.heap.size w wc))
 case first =>
  have H := HC2.out
  clear HC2
  replace H := Option.bind_eq_some_iff.mp H
  obtain ⟨t138, A40, H⟩ := H
  replace H : (if t138 = true then (if (a0_1.size : Int) < 1 then (spec_RequestFault.j0 k true a0_0 a0_1 l0_2 l0_3 a0_4) else (if (a0_1.size : Int) > 1000 then (spec_RequestFault.j0 k true a0_0 a0_1 l0_2 l0_3 a0_4) else (if 0 < (a0_1.size : Int) then (if (bt a0_1 0) = 47 then (if (l0_2.length : Int) > 30 then (spec_RequestFault.j0 k true a0_0 a0_1 l0_2 l0_3 a0_4) else (if (l0_3.length : Int) > 30 then (spec_RequestFault.j0 k true a0_0 a0_1 l0_2 l0_3 a0_4) else ((spec_l10Different.f k l0_2).bind fun t139 => (if t139 = true then ((spec_l10Different.f k l0_3).bind fun t140 => (if t140 = true then (spec_RequestFault.j0 k (decide ((a0_4.size : Int) > 100000)) a0_0 a0_1 l0_2 l0_3 a0_4) else (spec_RequestFault.j0 k true a0_0 a0_1 l0_2 l0_3 a0_4))) else (spec_RequestFault.j0 k true a0_0 a0_1 l0_2 l0_3 a0_4))))) else (spec_RequestFault.j0 k true a0_0 a0_1 l0_2 l0_3 a0_4)) else (none)))) else (spec_RequestFault.j0 k true a0_0 a0_1 l0_2 l0_3 a0_4)) = some r := H
  have A4 := Aside0.mk A40
  clear A40
  by_cases c5 : t138 = true
  rotate_left
  ·
   replace c5 := Bool.eq_false_iff.mpr c5
   subst c5
   have H1 : (spec_RequestFault.j0 k true a0_0 a0_1 l0_2 l0_3 a0_4) = some r := by rw [if_neg (show ¬ (false = true) by decide)] at H; exact H
   clear H
   have H := H1
   clear H1
   have H' := Aside0.mk H
   clear H
   have hcz25_0 : w3.cell? ⟨gb137, 0, none⟩ = some (.string a0_0) := (blk_cell BK137.out 0).trans rfl
   have hcz25_1 : w3.cell? ⟨gb137, 1, none⟩ = some (.string a0_1) := (blk_cell BK137.out 1).trans rfl
   have hcz25_2 : w3.cell? ⟨gb137, 2, none⟩ = some (.slice A0_2 l0_2.length c0_2) := (blk_cell BK137.out 2).trans rfl
   have hcz25_3 : w3.cell? ⟨gb137, 3, none⟩ = some (.slice A0_3 l0_3.length c0_3) := (blk_cell BK137.out 3).trans rfl
   have hcz25_4 : w3.cell? ⟨gb137, 4, none⟩ = some (.string a0_4) := (blk_cell BK137.out 4).trans rfl
   have hfz25_0 := blk_frozen BK137.out 0
   have hfz25_1 := blk_frozen BK137.out 1
   have hfz25_2 := blk_frozen BK137.out 2
   have hfz25_3 := blk_frozen BK137.out 3
   have hfz25_4 := blk_frozen BK137.out 4
   go_wp2_with (first | ((with_reducible refine gate_callee (f := 19) rfl ?_); refine goesL_ (some 7) rfl rfl Tryd.func19 (by kernel_rfl) rfl #[.string a0_0] rfl (by (try simp only [List.map_toArray, List.map_cons, List.map_nil]); first | done | rfl | (simp only [List.length_drop, List.length_take]; rfl)) ?_; (with_reducible refine (spec_l10Method.calls k a0_0 false _ A4.out).mono ?_); rintro e w' ⟨rfl, ⟨nd, rfl⟩⟩; refine ⟨_, rfl, ?_⟩))
   go_meet
   case rel => exact ⟨_, (true), (by first | rfl | (simp; done) | (simp [*]; done)), H', ⟨by first | omega | exact Nat.le_refl _⟩, ⟨by first | exact Grow.bk BK137.out | exact BK137.out⟩, ⟨by repeat (first | (with_reducible first | exact HB.out | apply below_alloc | apply pw_below_drewN | apply below_drew1 | refine below_set ?_ GE137.out) | exact HB.out)⟩⟩
  subst c5
  have H1 : (if (a0_1.size : Int) < 1 then (spec_RequestFault.j0 k true a0_0 a0_1 l0_2 l0_3 a0_4) else (if (a0_1.size : Int) > 1000 then (spec_RequestFault.j0 k true a0_0 a0_1 l0_2 l0_3 a0_4) else (if 0 < (a0_1.size : Int) then (if (bt a0_1 0) = 47 then (if (l0_2.length : Int) > 30 then (spec_RequestFault.j0 k true a0_0 a0_1 l0_2 l0_3 a0_4) else (if (l0_3.length : Int) > 30 then (spec_RequestFault.j0 k true a0_0 a0_1 l0_2 l0_3 a0_4) else ((spec_l10Different.f k l0_2).bind fun t139 => (if t139 = true then ((spec_l10Different.f k l0_3).bind fun t140 => (if t140 = true then (spec_RequestFault.j0 k (decide ((a0_4.size : Int) > 100000)) a0_0 a0_1 l0_2 l0_3 a0_4) else (spec_RequestFault.j0 k true a0_0 a0_1 l0_2 l0_3 a0_4))) else (spec_RequestFault.j0 k true a0_0 a0_1 l0_2 l0_3 a0_4))))) else (spec_RequestFault.j0 k true a0_0 a0_1 l0_2 l0_3 a0_4)) else (none)))) = some r := by rw [if_pos rfl] at H; exact H
  clear H
  have H := H1
  clear H1
  by_cases c6 : (a0_1.size : Int) < 1
  ·
   rw [if_pos c6] at H
   have c6b0 : decide ((a0_1.size : Int) < 1) = true := decide_eq_true c6
   have c6b1 : decide (a0_1.size < 1) = true := decide_eq_true (by omega)
   clear c6
   (first | rw [c6b0] | rw [c6b1] | (simp only [i64_w, i32_w]; rw [c6b0]) | skip)
   have H' := Aside0.mk H
   clear H
   have hcz7_0 : w3.cell? ⟨gb137, 0, none⟩ = some (.string a0_0) := (blk_cell BK137.out 0).trans rfl
   have hcz7_1 : w3.cell? ⟨gb137, 1, none⟩ = some (.string a0_1) := (blk_cell BK137.out 1).trans rfl
   have hcz7_2 : w3.cell? ⟨gb137, 2, none⟩ = some (.slice A0_2 l0_2.length c0_2) := (blk_cell BK137.out 2).trans rfl
   have hcz7_3 : w3.cell? ⟨gb137, 3, none⟩ = some (.slice A0_3 l0_3.length c0_3) := (blk_cell BK137.out 3).trans rfl
   have hcz7_4 : w3.cell? ⟨gb137, 4, none⟩ = some (.string a0_4) := (blk_cell BK137.out 4).trans rfl
   have hfz7_0 := blk_frozen BK137.out 0
   have hfz7_1 := blk_frozen BK137.out 1
   have hfz7_2 := blk_frozen BK137.out 2
   have hfz7_3 := blk_frozen BK137.out 3
   have hfz7_4 := blk_frozen BK137.out 4
   go_wp2_with (first | ((with_reducible refine gate_callee (f := 19) rfl ?_); refine goesL_ (some 7) rfl rfl Tryd.func19 (by kernel_rfl) rfl #[.string a0_0] rfl (by (try simp only [List.map_toArray, List.map_cons, List.map_nil]); first | done | rfl | (simp only [List.length_drop, List.length_take]; rfl)) ?_; (with_reducible refine (spec_l10Method.calls k a0_0 true _ A4.out).mono ?_); rintro e w' ⟨rfl, ⟨nd, rfl⟩⟩; refine ⟨_, rfl, ?_⟩))
   go_meet
   case rel => exact ⟨_, (true), (by first | rfl | (simp; done) | (simp [*]; done)), H', ⟨by first | omega | exact Nat.le_refl _⟩, ⟨by first | exact Grow.bk BK137.out | exact BK137.out⟩, ⟨by repeat (first | (with_reducible first | exact HB.out | apply below_alloc | apply pw_below_drewN | apply below_drew1 | refine below_set ?_ GE137.out) | exact HB.out)⟩⟩
  rw [if_neg c6] at H
  have c6b0 : decide ((a0_1.size : Int) < 1) = false := decide_eq_false c6
  have c6b1 : decide (a0_1.size < 1) = false := decide_eq_false (by omega)
  clear c6
  (first | rw [c6b0] | rw [c6b1] | (simp only [i64_w, i32_w]; rw [c6b0]) | skip)
  by_cases c8 : (a0_1.size : Int) > 1000
  ·
   rw [if_pos c8] at H
   have c8b0 : decide (1000 < (a0_1.size : Int)) = true := decide_eq_true c8
   have c8b1 : decide (1000 < a0_1.size) = true := decide_eq_true (by omega)
   clear c8
   have H' := Aside0.mk H
   clear H
   have hcz9_0 : w3.cell? ⟨gb137, 0, none⟩ = some (.string a0_0) := (blk_cell BK137.out 0).trans rfl
   have hcz9_1 : w3.cell? ⟨gb137, 1, none⟩ = some (.string a0_1) := (blk_cell BK137.out 1).trans rfl
   have hcz9_2 : w3.cell? ⟨gb137, 2, none⟩ = some (.slice A0_2 l0_2.length c0_2) := (blk_cell BK137.out 2).trans rfl
   have hcz9_3 : w3.cell? ⟨gb137, 3, none⟩ = some (.slice A0_3 l0_3.length c0_3) := (blk_cell BK137.out 3).trans rfl
   have hcz9_4 : w3.cell? ⟨gb137, 4, none⟩ = some (.string a0_4) := (blk_cell BK137.out 4).trans rfl
   have hfz9_0 := blk_frozen BK137.out 0
   have hfz9_1 := blk_frozen BK137.out 1
   have hfz9_2 := blk_frozen BK137.out 2
   have hfz9_3 := blk_frozen BK137.out 3
   have hfz9_4 := blk_frozen BK137.out 4
   go_wp2_with (first | ((with_reducible refine gate_callee (f := 19) rfl ?_); refine goesL_ (some 7) rfl rfl Tryd.func19 (by kernel_rfl) rfl #[.string a0_0] rfl (by (try simp only [List.map_toArray, List.map_cons, List.map_nil]); first | done | rfl | (simp only [List.length_drop, List.length_take]; rfl)) ?_; (with_reducible refine (spec_l10Method.calls k a0_0 true _ A4.out).mono ?_); rintro e w' ⟨rfl, ⟨nd, rfl⟩⟩; refine ⟨_, rfl, ?_⟩))
   go_meet
   case rel => exact ⟨_, (true), (by first | rfl | (simp; done) | (simp [*]; done)), H', ⟨by first | omega | exact Nat.le_refl _⟩, ⟨by first | exact Grow.bk BK137.out | exact BK137.out⟩, ⟨by repeat (first | (with_reducible first | exact HB.out | apply below_alloc | apply pw_below_drewN | apply below_drew1 | refine below_set ?_ GE137.out) | exact HB.out)⟩⟩
  rw [if_neg c8] at H
  have c8b0 : decide (1000 < (a0_1.size : Int)) = false := decide_eq_false c8
  have c8b1 : decide (1000 < a0_1.size) = false := decide_eq_false (by omega)
  clear c8
  by_cases c10 : 0 < (a0_1.size : Int)
  rotate_left
  ·
   rw [if_neg c10] at H
   exact absurd H (by simp)
  rw [if_pos c10] at H
  have c10b0 : decide (0 < (a0_1.size : Int)) = true := decide_eq_true c10
  have c10b1 : decide (0 < a0_1.size) = true := decide_eq_true (by omega)
  clear c10
  by_cases c12 : (bt a0_1 0) = 47
  rotate_left
  ·
   rw [if_neg c12] at H
   have c12b0 : ((bt a0_1 0) == 47) = false := beq_eq_false_iff_ne.mpr c12
   have c12b1 : ((bt a0_1 0) != 47) = true := bne_iff_ne.mpr c12
   have H' := Aside0.mk H
   clear H
   have hcz24_0 : w3.cell? ⟨gb137, 0, none⟩ = some (.string a0_0) := (blk_cell BK137.out 0).trans rfl
   have hcz24_1 : w3.cell? ⟨gb137, 1, none⟩ = some (.string a0_1) := (blk_cell BK137.out 1).trans rfl
   have hcz24_2 : w3.cell? ⟨gb137, 2, none⟩ = some (.slice A0_2 l0_2.length c0_2) := (blk_cell BK137.out 2).trans rfl
   have hcz24_3 : w3.cell? ⟨gb137, 3, none⟩ = some (.slice A0_3 l0_3.length c0_3) := (blk_cell BK137.out 3).trans rfl
   have hcz24_4 : w3.cell? ⟨gb137, 4, none⟩ = some (.string a0_4) := (blk_cell BK137.out 4).trans rfl
   have hfz24_0 := blk_frozen BK137.out 0
   have hfz24_1 := blk_frozen BK137.out 1
   have hfz24_2 := blk_frozen BK137.out 2
   have hfz24_3 := blk_frozen BK137.out 3
   have hfz24_4 := blk_frozen BK137.out 4
   go_wp2_with (first | ((with_reducible refine gate_callee (f := 19) rfl ?_); refine goesL_ (some 7) rfl rfl Tryd.func19 (by kernel_rfl) rfl #[.string a0_0] rfl (by (try simp only [List.map_toArray, List.map_cons, List.map_nil]); first | done | rfl | (simp only [List.length_drop, List.length_take]; rfl)) ?_; (with_reducible refine (spec_l10Method.calls k a0_0 true _ A4.out).mono ?_); rintro e w' ⟨rfl, ⟨nd, rfl⟩⟩; refine ⟨_, rfl, ?_⟩; have p11 : 0 ≤ (0 : Int) := (by omega); have q11 : 0 < a0_1.size := (by have : (0 : Int) < (a0_1.size : Int) := of_decide_eq_true (by first | (with_reducible assumption) | assumption); omega); have hx11 : ∀ h : 0 < a0_1.size, ((a0_1[0]'h).toNat : Int) = bt a0_1 0 := bt_at a0_1 0; clear p11; have qi11 : (0 < (a0_1.size : Int)) = True := eq_true (of_decide_eq_true (by first | (with_reducible assumption) | assumption)); replace q11 := eq_true q11))
   go_meet
   case rel => exact ⟨_, (true), (by first | rfl | (simp; done) | (simp [*]; done)), H', ⟨by first | omega | exact Nat.le_refl _⟩, ⟨by first | exact Grow.bk BK137.out | exact BK137.out⟩, ⟨by repeat (first | (with_reducible first | exact HB.out | apply below_alloc | apply pw_below_drewN | apply below_drew1 | refine below_set ?_ GE137.out) | exact HB.out)⟩⟩
  rw [if_pos c12] at H
  have c12b0 : ((bt a0_1 0) == 47) = true := beq_iff_eq.mpr c12
  have c12b1 : ((bt a0_1 0) != 47) = false := bne_eq_false_iff_eq.mpr c12
  clear c12
  by_cases c13 : (l0_2.length : Int) > 30
  ·
   rw [if_pos c13] at H
   have c13b0 : decide (30 < (l0_2.length : Int)) = true := decide_eq_true c13
   have c13b1 : decide (30 < l0_2.length) = true := decide_eq_true (by omega)
   clear c13
   have H' := Aside0.mk H
   clear H
   have hcz14_0 : w3.cell? ⟨gb137, 0, none⟩ = some (.string a0_0) := (blk_cell BK137.out 0).trans rfl
   have hcz14_1 : w3.cell? ⟨gb137, 1, none⟩ = some (.string a0_1) := (blk_cell BK137.out 1).trans rfl
   have hcz14_2 : w3.cell? ⟨gb137, 2, none⟩ = some (.slice A0_2 l0_2.length c0_2) := (blk_cell BK137.out 2).trans rfl
   have hcz14_3 : w3.cell? ⟨gb137, 3, none⟩ = some (.slice A0_3 l0_3.length c0_3) := (blk_cell BK137.out 3).trans rfl
   have hcz14_4 : w3.cell? ⟨gb137, 4, none⟩ = some (.string a0_4) := (blk_cell BK137.out 4).trans rfl
   have hfz14_0 := blk_frozen BK137.out 0
   have hfz14_1 := blk_frozen BK137.out 1
   have hfz14_2 := blk_frozen BK137.out 2
   have hfz14_3 := blk_frozen BK137.out 3
   have hfz14_4 := blk_frozen BK137.out 4
   go_wp2_with (first | ((with_reducible refine gate_callee (f := 19) rfl ?_); refine goesL_ (some 7) rfl rfl Tryd.func19 (by kernel_rfl) rfl #[.string a0_0] rfl (by (try simp only [List.map_toArray, List.map_cons, List.map_nil]); first | done | rfl | (simp only [List.length_drop, List.length_take]; rfl)) ?_; (with_reducible refine (spec_l10Method.calls k a0_0 true _ A4.out).mono ?_); rintro e w' ⟨rfl, ⟨nd, rfl⟩⟩; refine ⟨_, rfl, ?_⟩; have p11 : 0 ≤ (0 : Int) := (by omega); have q11 : 0 < a0_1.size := (by have : (0 : Int) < (a0_1.size : Int) := of_decide_eq_true (by first | (with_reducible assumption) | assumption); omega); have hx11 : ∀ h : 0 < a0_1.size, ((a0_1[0]'h).toNat : Int) = bt a0_1 0 := bt_at a0_1 0; clear p11; have qi11 : (0 < (a0_1.size : Int)) = True := eq_true (of_decide_eq_true (by first | (with_reducible assumption) | assumption)); replace q11 := eq_true q11))
   go_meet
   case rel => exact ⟨_, (true), (by first | rfl | (simp; done) | (simp [*]; done)), H', ⟨by first | omega | exact Nat.le_refl _⟩, ⟨by first | exact Grow.bk BK137.out | exact BK137.out⟩, ⟨by repeat (first | (with_reducible first | exact HB.out | apply below_alloc | apply pw_below_drewN | apply below_drew1 | refine below_set ?_ GE137.out) | exact HB.out)⟩⟩
  rw [if_neg c13] at H
  have c13b0 : decide (30 < (l0_2.length : Int)) = false := decide_eq_false c13
  have c13b1 : decide (30 < l0_2.length) = false := decide_eq_false (by omega)
  clear c13
  by_cases c15 : (l0_3.length : Int) > 30
  ·
   rw [if_pos c15] at H
   have c15b0 : decide (30 < (l0_3.length : Int)) = true := decide_eq_true c15
   have c15b1 : decide (30 < l0_3.length) = true := decide_eq_true (by omega)
   clear c15
   have H' := Aside0.mk H
   clear H
   have hcz16_0 : w3.cell? ⟨gb137, 0, none⟩ = some (.string a0_0) := (blk_cell BK137.out 0).trans rfl
   have hcz16_1 : w3.cell? ⟨gb137, 1, none⟩ = some (.string a0_1) := (blk_cell BK137.out 1).trans rfl
   have hcz16_2 : w3.cell? ⟨gb137, 2, none⟩ = some (.slice A0_2 l0_2.length c0_2) := (blk_cell BK137.out 2).trans rfl
   have hcz16_3 : w3.cell? ⟨gb137, 3, none⟩ = some (.slice A0_3 l0_3.length c0_3) := (blk_cell BK137.out 3).trans rfl
   have hcz16_4 : w3.cell? ⟨gb137, 4, none⟩ = some (.string a0_4) := (blk_cell BK137.out 4).trans rfl
   have hfz16_0 := blk_frozen BK137.out 0
   have hfz16_1 := blk_frozen BK137.out 1
   have hfz16_2 := blk_frozen BK137.out 2
   have hfz16_3 := blk_frozen BK137.out 3
   have hfz16_4 := blk_frozen BK137.out 4
   go_wp2_with (first | ((with_reducible refine gate_callee (f := 19) rfl ?_); refine goesL_ (some 7) rfl rfl Tryd.func19 (by kernel_rfl) rfl #[.string a0_0] rfl (by (try simp only [List.map_toArray, List.map_cons, List.map_nil]); first | done | rfl | (simp only [List.length_drop, List.length_take]; rfl)) ?_; (with_reducible refine (spec_l10Method.calls k a0_0 true _ A4.out).mono ?_); rintro e w' ⟨rfl, ⟨nd, rfl⟩⟩; refine ⟨_, rfl, ?_⟩; have p11 : 0 ≤ (0 : Int) := (by omega); have q11 : 0 < a0_1.size := (by have : (0 : Int) < (a0_1.size : Int) := of_decide_eq_true (by first | (with_reducible assumption) | assumption); omega); have hx11 : ∀ h : 0 < a0_1.size, ((a0_1[0]'h).toNat : Int) = bt a0_1 0 := bt_at a0_1 0; clear p11; have qi11 : (0 < (a0_1.size : Int)) = True := eq_true (of_decide_eq_true (by first | (with_reducible assumption) | assumption)); replace q11 := eq_true q11))
   go_meet
   case rel => exact ⟨_, (true), (by first | rfl | (simp; done) | (simp [*]; done)), H', ⟨by first | omega | exact Nat.le_refl _⟩, ⟨by first | exact Grow.bk BK137.out | exact BK137.out⟩, ⟨by repeat (first | (with_reducible first | exact HB.out | apply below_alloc | apply pw_below_drewN | apply below_drew1 | refine below_set ?_ GE137.out) | exact HB.out)⟩⟩
  rw [if_neg c15] at H
  have c15b0 : decide (30 < (l0_3.length : Int)) = false := decide_eq_false c15
  have c15b1 : decide (30 < l0_3.length) = false := decide_eq_false (by omega)
  clear c15
  replace H := Option.bind_eq_some_iff.mp H
  obtain ⟨t139, A170, H⟩ := H
  replace H : (if t139 = true then ((spec_l10Different.f k l0_3).bind fun t140 => (if t140 = true then (spec_RequestFault.j0 k (decide ((a0_4.size : Int) > 100000)) a0_0 a0_1 l0_2 l0_3 a0_4) else (spec_RequestFault.j0 k true a0_0 a0_1 l0_2 l0_3 a0_4))) else (spec_RequestFault.j0 k true a0_0 a0_1 l0_2 l0_3 a0_4)) = some r := H
  have A17 := Aside0.mk A170
  clear A170
  by_cases c18 : t139 = true
  rotate_left
  ·
   replace c18 := Bool.eq_false_iff.mpr c18
   subst c18
   have H1 : (spec_RequestFault.j0 k true a0_0 a0_1 l0_2 l0_3 a0_4) = some r := by rw [if_neg (show ¬ (false = true) by decide)] at H; exact H
   clear H
   have H := H1
   clear H1
   have H' := Aside0.mk H
   clear H
   have hcz23_0 : w3.cell? ⟨gb137, 0, none⟩ = some (.string a0_0) := (blk_cell BK137.out 0).trans rfl
   have hcz23_1 : w3.cell? ⟨gb137, 1, none⟩ = some (.string a0_1) := (blk_cell BK137.out 1).trans rfl
   have hcz23_2 : w3.cell? ⟨gb137, 2, none⟩ = some (.slice A0_2 l0_2.length c0_2) := (blk_cell BK137.out 2).trans rfl
   have hcz23_3 : w3.cell? ⟨gb137, 3, none⟩ = some (.slice A0_3 l0_3.length c0_3) := (blk_cell BK137.out 3).trans rfl
   have hcz23_4 : w3.cell? ⟨gb137, 4, none⟩ = some (.string a0_4) := (blk_cell BK137.out 4).trans rfl
   have hfz23_0 := blk_frozen BK137.out 0
   have hfz23_1 := blk_frozen BK137.out 1
   have hfz23_2 := blk_frozen BK137.out 2
   have hfz23_3 := blk_frozen BK137.out 3
   have hfz23_4 := blk_frozen BK137.out 4
   go_wp2_with (first | ((with_reducible refine gate_callee (f := 19) rfl ?_); refine goesL_ (some 7) rfl rfl Tryd.func19 (by kernel_rfl) rfl #[.string a0_0] rfl (by (try simp only [List.map_toArray, List.map_cons, List.map_nil]); first | done | rfl | (simp only [List.length_drop, List.length_take]; rfl)) ?_; (with_reducible refine (spec_l10Method.calls k a0_0 true _ A4.out).mono ?_); rintro e w' ⟨rfl, ⟨nd, rfl⟩⟩; refine ⟨_, rfl, ?_⟩; have p11 : 0 ≤ (0 : Int) := (by omega); have q11 : 0 < a0_1.size := (by have : (0 : Int) < (a0_1.size : Int) := of_decide_eq_true (by first | (with_reducible assumption) | assumption); omega); have hx11 : ∀ h : 0 < a0_1.size, ((a0_1[0]'h).toNat : Int) = bt a0_1 0 := bt_at a0_1 0; clear p11; have qi11 : (0 < (a0_1.size : Int)) = True := eq_true (of_decide_eq_true (by first | (with_reducible assumption) | assumption)); replace q11 := eq_true q11) | (go_at_call 20; (with_reducible refine (spec_l10Different.calls k _ _ l0_2 false _ ?side1 ?side2 A17.out).mono ?_); (case side1 => repeat (first | exact (Kd.C_below HR0_2.out (by repeat (first | (with_reducible first | exact HB.out | apply below_alloc | apply pw_below_drewN | apply below_drew1 | refine below_set ?_ GE137.out) | exact HB.out))) | (with_reducible refine Kd.C_alloc ?_ _) | (with_reducible refine Kd.C_drewN ?_ _) | (with_reducible refine Kd.C_drew ?_))); (case side2 => exact HC0_2.out); rintro e w' ⟨rfl, ⟨nd, rfl⟩⟩))
   go_meet
   case rel => exact ⟨_, (true), (by first | rfl | (simp; done) | (simp [*]; done)), H', ⟨by first | omega | exact Nat.le_refl _⟩, ⟨by first | exact Grow.bk BK137.out | exact BK137.out⟩, ⟨by repeat (first | (with_reducible first | exact HB.out | apply below_alloc | apply pw_below_drewN | apply below_drew1 | refine below_set ?_ GE137.out) | exact HB.out)⟩⟩
  subst c18
  have H1 : ((spec_l10Different.f k l0_3).bind fun t140 => (if t140 = true then (spec_RequestFault.j0 k (decide ((a0_4.size : Int) > 100000)) a0_0 a0_1 l0_2 l0_3 a0_4) else (spec_RequestFault.j0 k true a0_0 a0_1 l0_2 l0_3 a0_4))) = some r := by rw [if_pos rfl] at H; exact H
  clear H
  have H := H1
  clear H1
  replace H := Option.bind_eq_some_iff.mp H
  obtain ⟨t140, A190, H⟩ := H
  replace H : (if t140 = true then (spec_RequestFault.j0 k (decide ((a0_4.size : Int) > 100000)) a0_0 a0_1 l0_2 l0_3 a0_4) else (spec_RequestFault.j0 k true a0_0 a0_1 l0_2 l0_3 a0_4)) = some r := H
  have A19 := Aside0.mk A190
  clear A190
  by_cases c20 : t140 = true
  ·
   subst c20
   have H1 : (spec_RequestFault.j0 k (decide ((a0_4.size : Int) > 100000)) a0_0 a0_1 l0_2 l0_3 a0_4) = some r := by rw [if_pos rfl] at H; exact H
   clear H
   have H := H1
   clear H1
   have H' := Aside0.mk H
   clear H
   have hcz21_0 : w3.cell? ⟨gb137, 0, none⟩ = some (.string a0_0) := (blk_cell BK137.out 0).trans rfl
   have hcz21_1 : w3.cell? ⟨gb137, 1, none⟩ = some (.string a0_1) := (blk_cell BK137.out 1).trans rfl
   have hcz21_2 : w3.cell? ⟨gb137, 2, none⟩ = some (.slice A0_2 l0_2.length c0_2) := (blk_cell BK137.out 2).trans rfl
   have hcz21_3 : w3.cell? ⟨gb137, 3, none⟩ = some (.slice A0_3 l0_3.length c0_3) := (blk_cell BK137.out 3).trans rfl
   have hcz21_4 : w3.cell? ⟨gb137, 4, none⟩ = some (.string a0_4) := (blk_cell BK137.out 4).trans rfl
   have hfz21_0 := blk_frozen BK137.out 0
   have hfz21_1 := blk_frozen BK137.out 1
   have hfz21_2 := blk_frozen BK137.out 2
   have hfz21_3 := blk_frozen BK137.out 3
   have hfz21_4 := blk_frozen BK137.out 4
   go_wp2_with (first | ((with_reducible refine gate_callee (f := 19) rfl ?_); refine goesL_ (some 7) rfl rfl Tryd.func19 (by kernel_rfl) rfl #[.string a0_0] rfl (by (try simp only [List.map_toArray, List.map_cons, List.map_nil]); first | done | rfl | (simp only [List.length_drop, List.length_take]; rfl)) ?_; (with_reducible refine (spec_l10Method.calls k a0_0 true _ A4.out).mono ?_); rintro e w' ⟨rfl, ⟨nd, rfl⟩⟩; refine ⟨_, rfl, ?_⟩; have p11 : 0 ≤ (0 : Int) := (by omega); have q11 : 0 < a0_1.size := (by have : (0 : Int) < (a0_1.size : Int) := of_decide_eq_true (by first | (with_reducible assumption) | assumption); omega); have hx11 : ∀ h : 0 < a0_1.size, ((a0_1[0]'h).toNat : Int) = bt a0_1 0 := bt_at a0_1 0; clear p11; have qi11 : (0 < (a0_1.size : Int)) = True := eq_true (of_decide_eq_true (by first | (with_reducible assumption) | assumption)); replace q11 := eq_true q11) | (go_at_call 20; (with_reducible refine (spec_l10Different.calls k _ _ l0_2 true _ ?side1 ?side2 A17.out).mono ?_); (case side1 => repeat (first | exact (Kd.C_below HR0_2.out (by repeat (first | (with_reducible first | exact HB.out | apply below_alloc | apply pw_below_drewN | apply below_drew1 | refine below_set ?_ GE137.out) | exact HB.out))) | (with_reducible refine Kd.C_alloc ?_ _) | (with_reducible refine Kd.C_drewN ?_ _) | (with_reducible refine Kd.C_drew ?_))); (case side2 => exact HC0_2.out); rintro e w' ⟨rfl, ⟨nd, rfl⟩⟩) | (go_at_call 20; (with_reducible refine (spec_l10Different.calls k _ _ l0_3 true _ ?side1 ?side2 A19.out).mono ?_); (case side1 => repeat (first | exact (Kd.C_below HR0_3.out (by repeat (first | (with_reducible first | exact HB.out | apply below_alloc | apply pw_below_drewN | apply below_drew1 | refine below_set ?_ GE137.out) | exact HB.out))) | (with_reducible refine Kd.C_alloc ?_ _) | (with_reducible refine Kd.C_drewN ?_ _) | (with_reducible refine Kd.C_drew ?_))); (case side2 => exact HC0_3.out); rintro e w' ⟨rfl, ⟨nd, rfl⟩⟩))
   go_meet
   case rel => exact ⟨_, (decide ((a0_4.size : Int) > 100000)), (by first | rfl | (simp; done) | (simp [*]; done)), H', ⟨by first | omega | exact Nat.le_refl _⟩, ⟨by first | exact Grow.bk BK137.out | exact BK137.out⟩, ⟨by repeat (first | (with_reducible first | exact HB.out | apply below_alloc | apply pw_below_drewN | apply below_drew1 | refine below_set ?_ GE137.out) | exact HB.out)⟩⟩
  replace c20 := Bool.eq_false_iff.mpr c20
  subst c20
  have H1 : (spec_RequestFault.j0 k true a0_0 a0_1 l0_2 l0_3 a0_4) = some r := by rw [if_neg (show ¬ (false = true) by decide)] at H; exact H
  clear H
  have H := H1
  clear H1
  have H' := Aside0.mk H
  clear H
  have hcz22_0 : w3.cell? ⟨gb137, 0, none⟩ = some (.string a0_0) := (blk_cell BK137.out 0).trans rfl
  have hcz22_1 : w3.cell? ⟨gb137, 1, none⟩ = some (.string a0_1) := (blk_cell BK137.out 1).trans rfl
  have hcz22_2 : w3.cell? ⟨gb137, 2, none⟩ = some (.slice A0_2 l0_2.length c0_2) := (blk_cell BK137.out 2).trans rfl
  have hcz22_3 : w3.cell? ⟨gb137, 3, none⟩ = some (.slice A0_3 l0_3.length c0_3) := (blk_cell BK137.out 3).trans rfl
  have hcz22_4 : w3.cell? ⟨gb137, 4, none⟩ = some (.string a0_4) := (blk_cell BK137.out 4).trans rfl
  have hfz22_0 := blk_frozen BK137.out 0
  have hfz22_1 := blk_frozen BK137.out 1
  have hfz22_2 := blk_frozen BK137.out 2
  have hfz22_3 := blk_frozen BK137.out 3
  have hfz22_4 := blk_frozen BK137.out 4
  go_wp2_with (first | ((with_reducible refine gate_callee (f := 19) rfl ?_); refine goesL_ (some 7) rfl rfl Tryd.func19 (by kernel_rfl) rfl #[.string a0_0] rfl (by (try simp only [List.map_toArray, List.map_cons, List.map_nil]); first | done | rfl | (simp only [List.length_drop, List.length_take]; rfl)) ?_; (with_reducible refine (spec_l10Method.calls k a0_0 true _ A4.out).mono ?_); rintro e w' ⟨rfl, ⟨nd, rfl⟩⟩; refine ⟨_, rfl, ?_⟩; have p11 : 0 ≤ (0 : Int) := (by omega); have q11 : 0 < a0_1.size := (by have : (0 : Int) < (a0_1.size : Int) := of_decide_eq_true (by first | (with_reducible assumption) | assumption); omega); have hx11 : ∀ h : 0 < a0_1.size, ((a0_1[0]'h).toNat : Int) = bt a0_1 0 := bt_at a0_1 0; clear p11; have qi11 : (0 < (a0_1.size : Int)) = True := eq_true (of_decide_eq_true (by first | (with_reducible assumption) | assumption)); replace q11 := eq_true q11) | (go_at_call 20; (with_reducible refine (spec_l10Different.calls k _ _ l0_2 true _ ?side1 ?side2 A17.out).mono ?_); (case side1 => repeat (first | exact (Kd.C_below HR0_2.out (by repeat (first | (with_reducible first | exact HB.out | apply below_alloc | apply pw_below_drewN | apply below_drew1 | refine below_set ?_ GE137.out) | exact HB.out))) | (with_reducible refine Kd.C_alloc ?_ _) | (with_reducible refine Kd.C_drewN ?_ _) | (with_reducible refine Kd.C_drew ?_))); (case side2 => exact HC0_2.out); rintro e w' ⟨rfl, ⟨nd, rfl⟩⟩) | (go_at_call 20; (with_reducible refine (spec_l10Different.calls k _ _ l0_3 false _ ?side1 ?side2 A19.out).mono ?_); (case side1 => repeat (first | exact (Kd.C_below HR0_3.out (by repeat (first | (with_reducible first | exact HB.out | apply below_alloc | apply pw_below_drewN | apply below_drew1 | refine below_set ?_ GE137.out) | exact HB.out))) | (with_reducible refine Kd.C_alloc ?_ _) | (with_reducible refine Kd.C_drewN ?_ _) | (with_reducible refine Kd.C_drew ?_))); (case side2 => exact HC0_3.out); rintro e w' ⟨rfl, ⟨nd, rfl⟩⟩))
  go_meet
  case rel => exact ⟨_, (true), (by first | rfl | (simp; done) | (simp [*]; done)), H', ⟨by first | omega | exact Nat.le_refl _⟩, ⟨by first | exact Grow.bk BK137.out | exact BK137.out⟩, ⟨by repeat (first | (with_reducible first | exact HB.out | apply below_alloc | apply pw_below_drewN | apply below_drew1 | refine below_set ?_ GE137.out) | exact HB.out)⟩⟩
 case rest =>
  clear HC2
  try clear c1
  try clear p1
  try clear q1
  try clear hx1
  try clear qi1
  try clear c2
  try clear p2
  try clear c5
  try clear c6
  try clear c6b0
  try clear c6b1
  try clear c7
  try clear c8
  try clear c8b0
  try clear c8b1
  try clear c10
  try clear c10b0
  try clear c10b1
  try clear p11
  try clear q11
  try clear hx11
  try clear qi11
  try clear c12
  try clear c12b0
  try clear c12b1
  try clear c13
  try clear c13b0
  try clear c13b1
  try clear c15
  try clear c15b0
  try clear c15b1
  try clear c18
  try clear c19
  try clear c20
  try clear hcz14_0
  try clear hcz14_1
  try clear hcz14_2
  try clear hcz14_3
  try clear hcz14_4
  try clear hcz16_0
  try clear hcz16_1
  try clear hcz16_2
  try clear hcz16_3
  try clear hcz16_4
  try clear hcz21_0
  try clear hcz21_1
  try clear hcz21_2
  try clear hcz21_3
  try clear hcz21_4
  try clear hcz22_0
  try clear hcz22_1
  try clear hcz22_2
  try clear hcz22_3
  try clear hcz22_4
  try clear hcz23_0
  try clear hcz23_1
  try clear hcz23_2
  try clear hcz23_3
  try clear hcz23_4
  try clear hcz24_0
  try clear hcz24_1
  try clear hcz24_2
  try clear hcz24_3
  try clear hcz24_4
  try clear hcz25_0
  try clear hcz25_1
  try clear hcz25_2
  try clear hcz25_3
  try clear hcz25_4
  try clear hcz7_0
  try clear hcz7_1
  try clear hcz7_2
  try clear hcz7_3
  try clear hcz7_4
  try clear hcz9_0
  try clear hcz9_1
  try clear hcz9_2
  try clear hcz9_3
  try clear hcz9_4
  try clear hfz14_0
  try clear hfz14_1
  try clear hfz14_2
  try clear hfz14_3
  try clear hfz14_4
  try clear hfz16_0
  try clear hfz16_1
  try clear hfz16_2
  try clear hfz16_3
  try clear hfz16_4
  try clear hfz21_0
  try clear hfz21_1
  try clear hfz21_2
  try clear hfz21_3
  try clear hfz21_4
  try clear hfz22_0
  try clear hfz22_1
  try clear hfz22_2
  try clear hfz22_3
  try clear hfz22_4
  try clear hfz23_0
  try clear hfz23_1
  try clear hfz23_2
  try clear hfz23_3
  try clear hfz23_4
  try clear hfz24_0
  try clear hfz24_1
  try clear hfz24_2
  try clear hfz24_3
  try clear hfz24_4
  try clear hfz25_0
  try clear hfz25_1
  try clear hfz25_2
  try clear hfz25_3
  try clear hfz25_4
  try clear hfz7_0
  try clear hfz7_1
  try clear hfz7_2
  try clear hfz7_3
  try clear hfz7_4
  try clear hfz9_0
  try clear hfz9_1
  try clear hfz9_2
  try clear hfz9_3
  try clear hfz9_4
  try clear p11
  try clear q11
  obtain ⟨kq, x56_1, rfl, HA, HJ1, BK137, HB⟩ := hcut
  cases kq with
  | zero => exact absurd HA.out (by simp [spec_RequestFault.j0])
  | succ kj1 =>
   have H := HA.out
   clear HA
   simp only [spec_RequestFault.j0] at H
   by_cases c26 : x56_1 = true
   ·
    subst c26
    have H1 : (some 1) = some r := by rw [if_pos rfl] at H; exact H
    clear H
    have H := H1
    clear H1
    obtain rfl := Option.some.inj H
    go_wp2
    go_ret
    exact ⟨by first | rfl | (simp [errW_none, errW_some] <;> rfl) | (simp [*, errW_none, errW_some] <;> rfl), by repeat (first | (with_reducible first | exact HB.out | apply below_alloc | apply pw_below_drewN | apply below_drew1 | refine below_set ?_ GE137.out) | exact HB.out)⟩
   replace c26 := Bool.eq_false_iff.mpr c26
   subst c26
   have H1 : (spec_RequestFault.l0 kj1 0 a0_0 a0_1 l0_2 l0_3 a0_4) = some r := by rw [if_neg (show ¬ (false = true) by decide)] at H; exact H
   clear H
   have H := H1
   clear H1
   have H' := Aside0.mk H
   clear H
   go_wp2
   go_loopg [3] kj1 (fun kq v3 w' => ∃ (x3_2 : Int), v3 = .int .i64 x3_2 ∧ Aside0 (spec_RequestFault.l0 kq x3_2 a0_0 a0_1 l0_2 l0_3 a0_4 = some r) ∧ Aside0 (kq ≤ kj1) ∧ Aside0 (w'.heap[gb137]? = some (.cells #[.string a0_0, .string a0_1, (.slice A0_2 l0_2.length c0_2), (.slice A0_3 l0_3.length c0_3), .string a0_4] 29 (0, 0))) ∧ Aside0 (Below w.heap.size w w'))
   case atStart => exact ⟨(0), (by first | rfl | (simp; done) | (simp [*]; done)), H', ⟨Nat.le_refl _⟩, ⟨by first | exact Grow.bk BK137.out | exact BK137.out⟩, ⟨by repeat (first | (with_reducible first | exact HB.out | apply below_alloc | apply pw_below_drewN | apply below_drew1 | refine below_set ?_ GE137.out) | exact HB.out)⟩⟩
   case round =>
    clear H'
    try clear c1
    try clear p1
    try clear q1
    try clear hx1
    try clear qi1
    try clear c2
    try clear p2
    try clear c5
    try clear c6
    try clear c6b0
    try clear c6b1
    try clear c7
    try clear c8
    try clear c8b0
    try clear c8b1
    try clear c10
    try clear c10b0
    try clear c10b1
    try clear p11
    try clear q11
    try clear hx11
    try clear qi11
    try clear c12
    try clear c12b0
    try clear c12b1
    try clear c13
    try clear c13b0
    try clear c13b1
    try clear c15
    try clear c15b0
    try clear c15b1
    try clear c18
    try clear c19
    try clear c20
    try clear c26
    try clear hcz14_0
    try clear hcz14_1
    try clear hcz14_2
    try clear hcz14_3
    try clear hcz14_4
    try clear hcz16_0
    try clear hcz16_1
    try clear hcz16_2
    try clear hcz16_3
    try clear hcz16_4
    try clear hcz21_0
    try clear hcz21_1
    try clear hcz21_2
    try clear hcz21_3
    try clear hcz21_4
    try clear hcz22_0
    try clear hcz22_1
    try clear hcz22_2
    try clear hcz22_3
    try clear hcz22_4
    try clear hcz23_0
    try clear hcz23_1
    try clear hcz23_2
    try clear hcz23_3
    try clear hcz23_4
    try clear hcz24_0
    try clear hcz24_1
    try clear hcz24_2
    try clear hcz24_3
    try clear hcz24_4
    try clear hcz25_0
    try clear hcz25_1
    try clear hcz25_2
    try clear hcz25_3
    try clear hcz25_4
    try clear hcz7_0
    try clear hcz7_1
    try clear hcz7_2
    try clear hcz7_3
    try clear hcz7_4
    try clear hcz9_0
    try clear hcz9_1
    try clear hcz9_2
    try clear hcz9_3
    try clear hcz9_4
    try clear hfz14_0
    try clear hfz14_1
    try clear hfz14_2
    try clear hfz14_3
    try clear hfz14_4
    try clear hfz16_0
    try clear hfz16_1
    try clear hfz16_2
    try clear hfz16_3
    try clear hfz16_4
    try clear hfz21_0
    try clear hfz21_1
    try clear hfz21_2
    try clear hfz21_3
    try clear hfz21_4
    try clear hfz22_0
    try clear hfz22_1
    try clear hfz22_2
    try clear hfz22_3
    try clear hfz22_4
    try clear hfz23_0
    try clear hfz23_1
    try clear hfz23_2
    try clear hfz23_3
    try clear hfz23_4
    try clear hfz24_0
    try clear hfz24_1
    try clear hfz24_2
    try clear hfz24_3
    try clear hfz24_4
    try clear hfz25_0
    try clear hfz25_1
    try clear hfz25_2
    try clear hfz25_3
    try clear hfz25_4
    try clear hfz7_0
    try clear hfz7_1
    try clear hfz7_2
    try clear hfz7_3
    try clear hfz7_4
    try clear hfz9_0
    try clear hfz9_1
    try clear hfz9_2
    try clear hfz9_3
    try clear hfz9_4
    try clear p1
    try clear p11
    try clear p2
    try clear q1
    try clear q11
    obtain ⟨x3_2, rfl, HA, HK2, BK137, HB⟩ := hrel
    cases gk with
    | zero => exact absurd HA.out (by simp [spec_RequestFault.l0])
    | succ k2 =>
     have H := HA.out
     clear HA
     simp only [spec_RequestFault.l0] at H
     by_cases c27 : x3_2 < (l0_2.length : Int)
     ·
      rw [if_pos c27] at H
      have c27b0 : decide (x3_2 < (l0_2.length : Int)) = true := decide_eq_true c27
      clear c27
      by_cases c28 : 0 ≤ x3_2
      rotate_left
      ·
       rw [if_neg c28] at H
       exact absurd H (by simp)
      rw [if_pos c28] at H
      have c28b0 : decide (0 ≤ x3_2) = true := decide_eq_true c28
      clear c28
      by_cases c29 : (((rd_T45 l0_2 x3_2).f0).size : Int) < 1
      ·
       rw [if_pos c29] at H
       have c29b0 : decide ((((rd_T45 l0_2 x3_2).f0).size : Int) < 1) = true := decide_eq_true c29
       have c29b1 : decide (((rd_T45 l0_2 x3_2).f0).size < 1) = true := decide_eq_true (by omega)
       clear c29
       obtain rfl := Option.some.inj H
       have hcz30_0 : wr.cell? ⟨gb137, 0, none⟩ = some (.string a0_0) := (blk_cell BK137.out 0).trans rfl
       have hcz30_1 : wr.cell? ⟨gb137, 1, none⟩ = some (.string a0_1) := (blk_cell BK137.out 1).trans rfl
       have hcz30_2 : wr.cell? ⟨gb137, 2, none⟩ = some (.slice A0_2 l0_2.length c0_2) := (blk_cell BK137.out 2).trans rfl
       have hcz30_3 : wr.cell? ⟨gb137, 3, none⟩ = some (.slice A0_3 l0_3.length c0_3) := (blk_cell BK137.out 3).trans rfl
       have hcz30_4 : wr.cell? ⟨gb137, 4, none⟩ = some (.string a0_4) := (blk_cell BK137.out 4).trans rfl
       have hfz30_0 := blk_frozen BK137.out 0
       have hfz30_1 := blk_frozen BK137.out 1
       have hfz30_2 := blk_frozen BK137.out 2
       have hfz30_3 := blk_frozen BK137.out 3
       have hfz30_4 := blk_frozen BK137.out 4
       have p141 : 0 ≤ (x3_2 : Int) := of_decide_eq_true (by first | (with_reducible assumption) | assumption)
       have q141 : x3_2 < (l0_2.length : Int) := of_decide_eq_true (by first | (with_reducible assumption) | assumption)
       obtain ⟨ad141, e141, hx141_0, hx141_1⟩ := at_T45 HR0_2.out x3_2 p141 q141
       cases e141
       replace hx141_0 := Grow.bc HB.out hx141_0
       replace hx141_1 := Grow.bc HB.out hx141_1
       replace p141 := eq_true p141
       replace q141 := eq_true q141
       go_wp2
       go_ret
       exact ⟨by first | rfl | (simp [errW_none, errW_some] <;> rfl) | (simp [*, errW_none, errW_some] <;> rfl), by repeat (first | (with_reducible first | exact HB.out | apply below_alloc | apply pw_below_drewN | apply below_drew1 | refine below_set ?_ GE137.out) | exact HB.out)⟩
      rw [if_neg c29] at H
      have c29b0 : decide ((((rd_T45 l0_2 x3_2).f0).size : Int) < 1) = false := decide_eq_false c29
      have c29b1 : decide (((rd_T45 l0_2 x3_2).f0).size < 1) = false := decide_eq_false (by omega)
      clear c29
      by_cases c31 : (((rd_T45 l0_2 x3_2).f0).size : Int) > 100
      ·
       rw [if_pos c31] at H
       have c31b0 : decide (100 < (((rd_T45 l0_2 x3_2).f0).size : Int)) = true := decide_eq_true c31
       have c31b1 : decide (100 < ((rd_T45 l0_2 x3_2).f0).size) = true := decide_eq_true (by omega)
       clear c31
       obtain rfl := Option.some.inj H
       have hcz32_0 : wr.cell? ⟨gb137, 0, none⟩ = some (.string a0_0) := (blk_cell BK137.out 0).trans rfl
       have hcz32_1 : wr.cell? ⟨gb137, 1, none⟩ = some (.string a0_1) := (blk_cell BK137.out 1).trans rfl
       have hcz32_2 : wr.cell? ⟨gb137, 2, none⟩ = some (.slice A0_2 l0_2.length c0_2) := (blk_cell BK137.out 2).trans rfl
       have hcz32_3 : wr.cell? ⟨gb137, 3, none⟩ = some (.slice A0_3 l0_3.length c0_3) := (blk_cell BK137.out 3).trans rfl
       have hcz32_4 : wr.cell? ⟨gb137, 4, none⟩ = some (.string a0_4) := (blk_cell BK137.out 4).trans rfl
       have hfz32_0 := blk_frozen BK137.out 0
       have hfz32_1 := blk_frozen BK137.out 1
       have hfz32_2 := blk_frozen BK137.out 2
       have hfz32_3 := blk_frozen BK137.out 3
       have hfz32_4 := blk_frozen BK137.out 4
       have p141 : 0 ≤ (x3_2 : Int) := of_decide_eq_true (by first | (with_reducible assumption) | assumption)
       have q141 : x3_2 < (l0_2.length : Int) := of_decide_eq_true (by first | (with_reducible assumption) | assumption)
       obtain ⟨ad141, e141, hx141_0, hx141_1⟩ := at_T45 HR0_2.out x3_2 p141 q141
       cases e141
       replace hx141_0 := Grow.bc HB.out hx141_0
       replace hx141_1 := Grow.bc HB.out hx141_1
       replace p141 := eq_true p141
       replace q141 := eq_true q141
       have p142 : 0 ≤ (x3_2 : Int) := of_decide_eq_true (by first | (with_reducible assumption) | assumption)
       have q142 : x3_2 < (l0_2.length : Int) := of_decide_eq_true (by first | (with_reducible assumption) | assumption)
       obtain ⟨ad142, e142, hx142_0, hx142_1⟩ := at_T45 HR0_2.out x3_2 p142 q142
       obtain rfl : ad141 = ad142 := (by injection e142)
       replace hx142_0 := Grow.bc HB.out hx142_0
       replace hx142_1 := Grow.bc HB.out hx142_1
       replace p142 := eq_true p142
       replace q142 := eq_true q142
       go_wp2
       go_ret
       exact ⟨by first | rfl | (simp [errW_none, errW_some] <;> rfl) | (simp [*, errW_none, errW_some] <;> rfl), by repeat (first | (with_reducible first | exact HB.out | apply below_alloc | apply pw_below_drewN | apply below_drew1 | refine below_set ?_ GE137.out) | exact HB.out)⟩
      rw [if_neg c31] at H
      have c31b0 : decide (100 < (((rd_T45 l0_2 x3_2).f0).size : Int)) = false := decide_eq_false c31
      have c31b1 : decide (100 < ((rd_T45 l0_2 x3_2).f0).size) = false := decide_eq_false (by omega)
      clear c31
      by_cases c33 : (((rd_T45 l0_2 x3_2).f1).size : Int) > 1000
      ·
       rw [if_pos c33] at H
       have c33b0 : decide (1000 < (((rd_T45 l0_2 x3_2).f1).size : Int)) = true := decide_eq_true c33
       have c33b1 : decide (1000 < ((rd_T45 l0_2 x3_2).f1).size) = true := decide_eq_true (by omega)
       clear c33
       obtain rfl := Option.some.inj H
       have hcz34_0 : wr.cell? ⟨gb137, 0, none⟩ = some (.string a0_0) := (blk_cell BK137.out 0).trans rfl
       have hcz34_1 : wr.cell? ⟨gb137, 1, none⟩ = some (.string a0_1) := (blk_cell BK137.out 1).trans rfl
       have hcz34_2 : wr.cell? ⟨gb137, 2, none⟩ = some (.slice A0_2 l0_2.length c0_2) := (blk_cell BK137.out 2).trans rfl
       have hcz34_3 : wr.cell? ⟨gb137, 3, none⟩ = some (.slice A0_3 l0_3.length c0_3) := (blk_cell BK137.out 3).trans rfl
       have hcz34_4 : wr.cell? ⟨gb137, 4, none⟩ = some (.string a0_4) := (blk_cell BK137.out 4).trans rfl
       have hfz34_0 := blk_frozen BK137.out 0
       have hfz34_1 := blk_frozen BK137.out 1
       have hfz34_2 := blk_frozen BK137.out 2
       have hfz34_3 := blk_frozen BK137.out 3
       have hfz34_4 := blk_frozen BK137.out 4
       have p141 : 0 ≤ (x3_2 : Int) := of_decide_eq_true (by first | (with_reducible assumption) | assumption)
       have q141 : x3_2 < (l0_2.length : Int) := of_decide_eq_true (by first | (with_reducible assumption) | assumption)
       obtain ⟨ad141, e141, hx141_0, hx141_1⟩ := at_T45 HR0_2.out x3_2 p141 q141
       cases e141
       replace hx141_0 := Grow.bc HB.out hx141_0
       replace hx141_1 := Grow.bc HB.out hx141_1
       replace p141 := eq_true p141
       replace q141 := eq_true q141
       have p142 : 0 ≤ (x3_2 : Int) := of_decide_eq_true (by first | (with_reducible assumption) | assumption)
       have q142 : x3_2 < (l0_2.length : Int) := of_decide_eq_true (by first | (with_reducible assumption) | assumption)
       obtain ⟨ad142, e142, hx142_0, hx142_1⟩ := at_T45 HR0_2.out x3_2 p142 q142
       obtain rfl : ad141 = ad142 := (by injection e142)
       replace hx142_0 := Grow.bc HB.out hx142_0
       replace hx142_1 := Grow.bc HB.out hx142_1
       replace p142 := eq_true p142
       replace q142 := eq_true q142
       have p143 : 0 ≤ (x3_2 : Int) := of_decide_eq_true (by first | (with_reducible assumption) | assumption)
       have q143 : x3_2 < (l0_2.length : Int) := of_decide_eq_true (by first | (with_reducible assumption) | assumption)
       obtain ⟨ad143, e143, hx143_0, hx143_1⟩ := at_T45 HR0_2.out x3_2 p143 q143
       obtain rfl : ad141 = ad143 := (by injection e143)
       replace hx143_0 := Grow.bc HB.out hx143_0
       replace hx143_1 := Grow.bc HB.out hx143_1
       replace p143 := eq_true p143
       replace q143 := eq_true q143
       go_wp2
       go_ret
       exact ⟨by first | rfl | (simp [errW_none, errW_some] <;> rfl) | (simp [*, errW_none, errW_some] <;> rfl), by repeat (first | (with_reducible first | exact HB.out | apply below_alloc | apply pw_below_drewN | apply below_drew1 | refine below_set ?_ GE137.out) | exact HB.out)⟩
      rw [if_neg c33] at H
      have c33b0 : decide (1000 < (((rd_T45 l0_2 x3_2).f1).size : Int)) = false := decide_eq_false c33
      have c33b1 : decide (1000 < ((rd_T45 l0_2 x3_2).f1).size) = false := decide_eq_false (by omega)
      clear c33
      have H' := Aside0.mk H
      clear H
      have hcz35_0 : wr.cell? ⟨gb137, 0, none⟩ = some (.string a0_0) := (blk_cell BK137.out 0).trans rfl
      have hcz35_1 : wr.cell? ⟨gb137, 1, none⟩ = some (.string a0_1) := (blk_cell BK137.out 1).trans rfl
      have hcz35_2 : wr.cell? ⟨gb137, 2, none⟩ = some (.slice A0_2 l0_2.length c0_2) := (blk_cell BK137.out 2).trans rfl
      have hcz35_3 : wr.cell? ⟨gb137, 3, none⟩ = some (.slice A0_3 l0_3.length c0_3) := (blk_cell BK137.out 3).trans rfl
      have hcz35_4 : wr.cell? ⟨gb137, 4, none⟩ = some (.string a0_4) := (blk_cell BK137.out 4).trans rfl
      have hfz35_0 := blk_frozen BK137.out 0
      have hfz35_1 := blk_frozen BK137.out 1
      have hfz35_2 := blk_frozen BK137.out 2
      have hfz35_3 := blk_frozen BK137.out 3
      have hfz35_4 := blk_frozen BK137.out 4
      have p141 : 0 ≤ (x3_2 : Int) := of_decide_eq_true (by first | (with_reducible assumption) | assumption)
      have q141 : x3_2 < (l0_2.length : Int) := of_decide_eq_true (by first | (with_reducible assumption) | assumption)
      obtain ⟨ad141, e141, hx141_0, hx141_1⟩ := at_T45 HR0_2.out x3_2 p141 q141
      cases e141
      replace hx141_0 := Grow.bc HB.out hx141_0
      replace hx141_1 := Grow.bc HB.out hx141_1
      replace p141 := eq_true p141
      replace q141 := eq_true q141
      have p142 : 0 ≤ (x3_2 : Int) := of_decide_eq_true (by first | (with_reducible assumption) | assumption)
      have q142 : x3_2 < (l0_2.length : Int) := of_decide_eq_true (by first | (with_reducible assumption) | assumption)
      obtain ⟨ad142, e142, hx142_0, hx142_1⟩ := at_T45 HR0_2.out x3_2 p142 q142
      obtain rfl : ad141 = ad142 := (by injection e142)
      replace hx142_0 := Grow.bc HB.out hx142_0
      replace hx142_1 := Grow.bc HB.out hx142_1
      replace p142 := eq_true p142
      replace q142 := eq_true q142
      have p143 : 0 ≤ (x3_2 : Int) := of_decide_eq_true (by first | (with_reducible assumption) | assumption)
      have q143 : x3_2 < (l0_2.length : Int) := of_decide_eq_true (by first | (with_reducible assumption) | assumption)
      obtain ⟨ad143, e143, hx143_0, hx143_1⟩ := at_T45 HR0_2.out x3_2 p143 q143
      obtain rfl : ad141 = ad143 := (by injection e143)
      replace hx143_0 := Grow.bc HB.out hx143_0
      replace hx143_1 := Grow.bc HB.out hx143_1
      replace p143 := eq_true p143
      replace q143 := eq_true q143
      go_wp2
      go_roundg k2
      case measure => have := HJ1.out; have := HK2.out; omega
      case rel => exact ⟨(wrap64 (x3_2 + 1)), (by first | rfl | (simp; done) | (simp [*]; done)), H', ⟨by have := HJ1.out; have := HK2.out; omega⟩, ⟨by first | exact Grow.bk BK137.out | exact BK137.out⟩, ⟨by repeat (first | (with_reducible first | exact HB.out | apply below_alloc | apply pw_below_drewN | apply below_drew1 | refine below_set ?_ GE137.out) | exact HB.out)⟩⟩
     rw [if_neg c27] at H
     have c27b0 : decide (x3_2 < (l0_2.length : Int)) = false := decide_eq_false c27
     clear c27
     have H' := Aside0.mk H
     clear H
     have hcz36_0 : wr.cell? ⟨gb137, 0, none⟩ = some (.string a0_0) := (blk_cell BK137.out 0).trans rfl
     have hcz36_1 : wr.cell? ⟨gb137, 1, none⟩ = some (.string a0_1) := (blk_cell BK137.out 1).trans rfl
     have hcz36_2 : wr.cell? ⟨gb137, 2, none⟩ = some (.slice A0_2 l0_2.length c0_2) := (blk_cell BK137.out 2).trans rfl
     have hcz36_3 : wr.cell? ⟨gb137, 3, none⟩ = some (.slice A0_3 l0_3.length c0_3) := (blk_cell BK137.out 3).trans rfl
     have hcz36_4 : wr.cell? ⟨gb137, 4, none⟩ = some (.string a0_4) := (blk_cell BK137.out 4).trans rfl
     have hfz36_0 := blk_frozen BK137.out 0
     have hfz36_1 := blk_frozen BK137.out 1
     have hfz36_2 := blk_frozen BK137.out 2
     have hfz36_3 := blk_frozen BK137.out 3
     have hfz36_4 := blk_frozen BK137.out 4
     go_wp2
     go_loopg [4] k2 (fun kq v4 w' => ∃ (x4_3 : Int), v4 = .int .i64 x4_3 ∧ Aside0 (spec_RequestFault.l1 kq x4_3 a0_0 a0_1 l0_2 l0_3 a0_4 = some r) ∧ Aside0 (kq ≤ k2) ∧ Aside0 (w'.heap[gb137]? = some (.cells #[.string a0_0, .string a0_1, (.slice A0_2 l0_2.length c0_2), (.slice A0_3 l0_3.length c0_3), .string a0_4] 29 (0, 0))) ∧ Aside0 (Below w.heap.size w w'))
     case atStart => exact ⟨(0), (by first | rfl | (simp; done) | (simp [*]; done)), H', ⟨Nat.le_refl _⟩, ⟨by first | exact Grow.bk BK137.out | exact BK137.out⟩, ⟨by repeat (first | (with_reducible first | exact HB.out | apply below_alloc | apply pw_below_drewN | apply below_drew1 | refine below_set ?_ GE137.out) | exact HB.out)⟩⟩
     case round =>
      clear H'
      try clear c1
      try clear p1
      try clear q1
      try clear hx1
      try clear qi1
      try clear c2
      try clear p2
      try clear c3
      try clear c5
      try clear c6
      try clear c6b0
      try clear c6b1
      try clear p6
      try clear c7
      try clear c8
      try clear c8b0
      try clear c8b1
      try clear c10
      try clear c10b0
      try clear c10b1
      try clear p11
      try clear q11
      try clear hx11
      try clear qi11
      try clear c12
      try clear c12b0
      try clear c12b1
      try clear c13
      try clear c13b0
      try clear c13b1
      try clear p14
      try clear q14
      try clear hx14
      try clear c15
      try clear c15b0
      try clear c15b1
      try clear c18
      try clear c19
      try clear c20
      try clear c26
      try clear c27
      try clear c27b0
      try clear c28
      try clear c28b0
      try clear c29
      try clear c29b0
      try clear c29b1
      try clear c31
      try clear c31b0
      try clear c31b1
      try clear c33
      try clear c33b0
      try clear c33b1
      try clear hcz14_0
      try clear hcz14_1
      try clear hcz14_2
      try clear hcz14_3
      try clear hcz14_4
      try clear hcz16_0
      try clear hcz16_1
      try clear hcz16_2
      try clear hcz16_3
      try clear hcz16_4
      try clear hcz21_0
      try clear hcz21_1
      try clear hcz21_2
      try clear hcz21_3
      try clear hcz21_4
      try clear hcz22_0
      try clear hcz22_1
      try clear hcz22_2
      try clear hcz22_3
      try clear hcz22_4
      try clear hcz23_0
      try clear hcz23_1
      try clear hcz23_2
      try clear hcz23_3
      try clear hcz23_4
      try clear hcz24_0
      try clear hcz24_1
      try clear hcz24_2
      try clear hcz24_3
      try clear hcz24_4
      try clear hcz25_0
      try clear hcz25_1
      try clear hcz25_2
      try clear hcz25_3
      try clear hcz25_4
      try clear hcz30_0
      try clear hcz30_1
      try clear hcz30_2
      try clear hcz30_3
      try clear hcz30_4
      try clear hcz32_0
      try clear hcz32_1
      try clear hcz32_2
      try clear hcz32_3
      try clear hcz32_4
      try clear hcz34_0
      try clear hcz34_1
      try clear hcz34_2
      try clear hcz34_3
      try clear hcz34_4
      try clear hcz35_0
      try clear hcz35_1
      try clear hcz35_2
      try clear hcz35_3
      try clear hcz35_4
      try clear hcz36_0
      try clear hcz36_1
      try clear hcz36_2
      try clear hcz36_3
      try clear hcz36_4
      try clear hcz7_0
      try clear hcz7_1
      try clear hcz7_2
      try clear hcz7_3
      try clear hcz7_4
      try clear hcz9_0
      try clear hcz9_1
      try clear hcz9_2
      try clear hcz9_3
      try clear hcz9_4
      try clear hfz14_0
      try clear hfz14_1
      try clear hfz14_2
      try clear hfz14_3
      try clear hfz14_4
      try clear hfz16_0
      try clear hfz16_1
      try clear hfz16_2
      try clear hfz16_3
      try clear hfz16_4
      try clear hfz21_0
      try clear hfz21_1
      try clear hfz21_2
      try clear hfz21_3
      try clear hfz21_4
      try clear hfz22_0
      try clear hfz22_1
      try clear hfz22_2
      try clear hfz22_3
      try clear hfz22_4
      try clear hfz23_0
      try clear hfz23_1
      try clear hfz23_2
      try clear hfz23_3
      try clear hfz23_4
      try clear hfz24_0
      try clear hfz24_1
      try clear hfz24_2
      try clear hfz24_3
      try clear hfz24_4
      try clear hfz25_0
      try clear hfz25_1
      try clear hfz25_2
      try clear hfz25_3
      try clear hfz25_4
      try clear hfz30_0
      try clear hfz30_1
      try clear hfz30_2
      try clear hfz30_3
      try clear hfz30_4
      try clear hfz32_0
      try clear hfz32_1
      try clear hfz32_2
      try clear hfz32_3
      try clear hfz32_4
      try clear hfz34_0
      try clear hfz34_1
      try clear hfz34_2
      try clear hfz34_3
      try clear hfz34_4
      try clear hfz35_0
      try clear hfz35_1
      try clear hfz35_2
      try clear hfz35_3
      try clear hfz35_4
      try clear hfz36_0
      try clear hfz36_1
      try clear hfz36_2
      try clear hfz36_3
      try clear hfz36_4
      try clear hfz7_0
      try clear hfz7_1
      try clear hfz7_2
      try clear hfz7_3
      try clear hfz7_4
      try clear hfz9_0
      try clear hfz9_1
      try clear hfz9_2
      try clear hfz9_3
      try clear hfz9_4
      try clear hx141_0
      try clear hx141_1
      try clear hx142_0
      try clear hx142_1
      try clear hx143_0
      try clear hx143_1
      try clear p1
      try clear p11
      try clear p141
      try clear p142
      try clear p143
      try clear p2
      try clear q1
      try clear q11
      try clear q141
      try clear q142
      try clear q143
      obtain ⟨x4_3, rfl, HA, HK3, BK137, HB⟩ := hrel
      cases gk with
      | zero => exact absurd HA.out (by simp [spec_RequestFault.l1])
      | succ k3 =>
       have H := HA.out
       clear HA
       simp only [spec_RequestFault.l1] at H
       by_cases c37 : x4_3 < (l0_3.length : Int)
       rotate_left
       ·
        rw [if_neg c37] at H
        have c37b0 : decide (x4_3 < (l0_3.length : Int)) = false := decide_eq_false c37
        clear c37
        obtain rfl := Option.some.inj H
        have hcz46_0 : wr.cell? ⟨gb137, 0, none⟩ = some (.string a0_0) := (blk_cell BK137.out 0).trans rfl
        have hcz46_1 : wr.cell? ⟨gb137, 1, none⟩ = some (.string a0_1) := (blk_cell BK137.out 1).trans rfl
        have hcz46_2 : wr.cell? ⟨gb137, 2, none⟩ = some (.slice A0_2 l0_2.length c0_2) := (blk_cell BK137.out 2).trans rfl
        have hcz46_3 : wr.cell? ⟨gb137, 3, none⟩ = some (.slice A0_3 l0_3.length c0_3) := (blk_cell BK137.out 3).trans rfl
        have hcz46_4 : wr.cell? ⟨gb137, 4, none⟩ = some (.string a0_4) := (blk_cell BK137.out 4).trans rfl
        have hfz46_0 := blk_frozen BK137.out 0
        have hfz46_1 := blk_frozen BK137.out 1
        have hfz46_2 := blk_frozen BK137.out 2
        have hfz46_3 := blk_frozen BK137.out 3
        have hfz46_4 := blk_frozen BK137.out 4
        go_wp2
        go_ret
        exact ⟨by first | rfl | (simp [errW_none, errW_some] <;> rfl) | (simp [*, errW_none, errW_some] <;> rfl), by repeat (first | (with_reducible first | exact HB.out | apply below_alloc | apply pw_below_drewN | apply below_drew1 | refine below_set ?_ GE137.out) | exact HB.out)⟩
       rw [if_pos c37] at H
       have c37b0 : decide (x4_3 < (l0_3.length : Int)) = true := decide_eq_true c37
       clear c37
       by_cases c38 : 0 ≤ x4_3
       rotate_left
       ·
        rw [if_neg c38] at H
        exact absurd H (by simp)
       rw [if_pos c38] at H
       have c38b0 : decide (0 ≤ x4_3) = true := decide_eq_true c38
       clear c38
       replace H := Option.bind_eq_some_iff.mp H
       obtain ⟨t145, A390, H⟩ := H
       replace H : (if t145 = true then ((spec_l10Value.f k3 ((rd_T45 l0_3 x4_3).f1)).bind fun t147 => (if t147 = true then (spec_RequestFault.l1 k3 (wrap64 (x4_3 + 1)) a0_0 a0_1 l0_2 l0_3 a0_4) else (some 1))) else (some 1)) = some r := H
       have A39 := Aside0.mk A390
       clear A390
       by_cases c40 : t145 = true
       rotate_left
       ·
        replace c40 := Bool.eq_false_iff.mpr c40
        subst c40
        have H1 : (some 1) = some r := by rw [if_neg (show ¬ (false = true) by decide)] at H; exact H
        clear H
        have H := H1
        clear H1
        obtain rfl := Option.some.inj H
        have hcz45_0 : wr.cell? ⟨gb137, 0, none⟩ = some (.string a0_0) := (blk_cell BK137.out 0).trans rfl
        have hcz45_1 : wr.cell? ⟨gb137, 1, none⟩ = some (.string a0_1) := (blk_cell BK137.out 1).trans rfl
        have hcz45_2 : wr.cell? ⟨gb137, 2, none⟩ = some (.slice A0_2 l0_2.length c0_2) := (blk_cell BK137.out 2).trans rfl
        have hcz45_3 : wr.cell? ⟨gb137, 3, none⟩ = some (.slice A0_3 l0_3.length c0_3) := (blk_cell BK137.out 3).trans rfl
        have hcz45_4 : wr.cell? ⟨gb137, 4, none⟩ = some (.string a0_4) := (blk_cell BK137.out 4).trans rfl
        have hfz45_0 := blk_frozen BK137.out 0
        have hfz45_1 := blk_frozen BK137.out 1
        have hfz45_2 := blk_frozen BK137.out 2
        have hfz45_3 := blk_frozen BK137.out 3
        have hfz45_4 := blk_frozen BK137.out 4
        have p144 : 0 ≤ (x4_3 : Int) := of_decide_eq_true (by first | (with_reducible assumption) | assumption)
        have q144 : x4_3 < (l0_3.length : Int) := of_decide_eq_true (by first | (with_reducible assumption) | assumption)
        obtain ⟨ad144, e144, hx144_0, hx144_1⟩ := at_T45 HR0_3.out x4_3 p144 q144
        cases e144
        replace hx144_0 := Grow.bc HB.out hx144_0
        replace hx144_1 := Grow.bc HB.out hx144_1
        replace p144 := eq_true p144
        replace q144 := eq_true q144
        go_wp2_with (first | ((with_reducible refine gate_callee (f := 21) rfl ?_); refine goesL_ (some 105) rfl rfl Tryd.func21 (by kernel_rfl) rfl #[.string ((rd_T45 l0_3 x4_3).f0)] rfl (by (try simp only [List.map_toArray, List.map_cons, List.map_nil]); first | done | rfl | (simp only [List.length_drop, List.length_take]; rfl)) ?_; (with_reducible refine (spec_l10Name.calls k3 ((rd_T45 l0_3 x4_3).f0) false _ A39.out).mono ?_); rintro e w' ⟨rfl, ⟨nd, rfl⟩⟩; refine ⟨_, rfl, ?_⟩))
        go_ret
        exact ⟨by first | rfl | (simp [errW_none, errW_some] <;> rfl) | (simp [*, errW_none, errW_some] <;> rfl), by repeat (first | (with_reducible first | exact HB.out | apply below_alloc | apply pw_below_drewN | apply below_drew1 | refine below_set ?_ GE137.out) | exact HB.out)⟩
       subst c40
       have H1 : ((spec_l10Value.f k3 ((rd_T45 l0_3 x4_3).f1)).bind fun t147 => (if t147 = true then (spec_RequestFault.l1 k3 (wrap64 (x4_3 + 1)) a0_0 a0_1 l0_2 l0_3 a0_4) else (some 1))) = some r := by rw [if_pos rfl] at H; exact H
       clear H
       have H := H1
       clear H1
       replace H := Option.bind_eq_some_iff.mp H
       obtain ⟨t147, A410, H⟩ := H
       replace H : (if t147 = true then (spec_RequestFault.l1 k3 (wrap64 (x4_3 + 1)) a0_0 a0_1 l0_2 l0_3 a0_4) else (some 1)) = some r := H
       have A41 := Aside0.mk A410
       clear A410
       by_cases c42 : t147 = true
       rotate_left
       ·
        replace c42 := Bool.eq_false_iff.mpr c42
        subst c42
        have H1 : (some 1) = some r := by rw [if_neg (show ¬ (false = true) by decide)] at H; exact H
        clear H
        have H := H1
        clear H1
        obtain rfl := Option.some.inj H
        have hcz44_0 : wr.cell? ⟨gb137, 0, none⟩ = some (.string a0_0) := (blk_cell BK137.out 0).trans rfl
        have hcz44_1 : wr.cell? ⟨gb137, 1, none⟩ = some (.string a0_1) := (blk_cell BK137.out 1).trans rfl
        have hcz44_2 : wr.cell? ⟨gb137, 2, none⟩ = some (.slice A0_2 l0_2.length c0_2) := (blk_cell BK137.out 2).trans rfl
        have hcz44_3 : wr.cell? ⟨gb137, 3, none⟩ = some (.slice A0_3 l0_3.length c0_3) := (blk_cell BK137.out 3).trans rfl
        have hcz44_4 : wr.cell? ⟨gb137, 4, none⟩ = some (.string a0_4) := (blk_cell BK137.out 4).trans rfl
        have hfz44_0 := blk_frozen BK137.out 0
        have hfz44_1 := blk_frozen BK137.out 1
        have hfz44_2 := blk_frozen BK137.out 2
        have hfz44_3 := blk_frozen BK137.out 3
        have hfz44_4 := blk_frozen BK137.out 4
        have p144 : 0 ≤ (x4_3 : Int) := of_decide_eq_true (by first | (with_reducible assumption) | assumption)
        have q144 : x4_3 < (l0_3.length : Int) := of_decide_eq_true (by first | (with_reducible assumption) | assumption)
        obtain ⟨ad144, e144, hx144_0, hx144_1⟩ := at_T45 HR0_3.out x4_3 p144 q144
        cases e144
        replace hx144_0 := Grow.bc HB.out hx144_0
        replace hx144_1 := Grow.bc HB.out hx144_1
        replace p144 := eq_true p144
        replace q144 := eq_true q144
        go_wp2_with (first | ((with_reducible refine gate_callee (f := 21) rfl ?_); refine goesL_ (some 105) rfl rfl Tryd.func21 (by kernel_rfl) rfl #[.string ((rd_T45 l0_3 x4_3).f0)] rfl (by (try simp only [List.map_toArray, List.map_cons, List.map_nil]); first | done | rfl | (simp only [List.length_drop, List.length_take]; rfl)) ?_; (with_reducible refine (spec_l10Name.calls k3 ((rd_T45 l0_3 x4_3).f0) true _ A39.out).mono ?_); rintro e w' ⟨rfl, ⟨nd, rfl⟩⟩; refine ⟨_, rfl, ?_⟩; have p146 : 0 ≤ (x4_3 : Int) := of_decide_eq_true (by first | (with_reducible assumption) | assumption); have q146 : x4_3 < (l0_3.length : Int) := of_decide_eq_true (by first | (with_reducible assumption) | assumption); obtain ⟨ad146, e146, hx146_0, hx146_1⟩ := at_T45 HR0_3.out x4_3 p146 q146; obtain rfl : ad144 = ad146 := (by injection e146); replace hx146_0 := Grow.bc HB.out hx146_0; replace hx146_1 := Grow.bc HB.out hx146_1; replace p146 := eq_true p146; replace q146 := eq_true q146) | (go_at_call 22; (with_reducible refine (spec_l10Value.calls k3 ((rd_T45 l0_3 x4_3).f1) false _ A41.out).mono ?_); rintro e w' ⟨rfl, ⟨nd, rfl⟩⟩))
        go_ret
        exact ⟨by first | rfl | (simp [errW_none, errW_some] <;> rfl) | (simp [*, errW_none, errW_some] <;> rfl), by repeat (first | (with_reducible first | exact HB.out | apply below_alloc | apply pw_below_drewN | apply below_drew1 | refine below_set ?_ GE137.out) | exact HB.out)⟩
       subst c42
       have H1 : (spec_RequestFault.l1 k3 (wrap64 (x4_3 + 1)) a0_0 a0_1 l0_2 l0_3 a0_4) = some r := by rw [if_pos rfl] at H; exact H
       clear H
       have H := H1
       clear H1
       have H' := Aside0.mk H
       clear H
       have hcz43_0 : wr.cell? ⟨gb137, 0, none⟩ = some (.string a0_0) := (blk_cell BK137.out 0).trans rfl
       have hcz43_1 : wr.cell? ⟨gb137, 1, none⟩ = some (.string a0_1) := (blk_cell BK137.out 1).trans rfl
       have hcz43_2 : wr.cell? ⟨gb137, 2, none⟩ = some (.slice A0_2 l0_2.length c0_2) := (blk_cell BK137.out 2).trans rfl
       have hcz43_3 : wr.cell? ⟨gb137, 3, none⟩ = some (.slice A0_3 l0_3.length c0_3) := (blk_cell BK137.out 3).trans rfl
       have hcz43_4 : wr.cell? ⟨gb137, 4, none⟩ = some (.string a0_4) := (blk_cell BK137.out 4).trans rfl
       have hfz43_0 := blk_frozen BK137.out 0
       have hfz43_1 := blk_frozen BK137.out 1
       have hfz43_2 := blk_frozen BK137.out 2
       have hfz43_3 := blk_frozen BK137.out 3
       have hfz43_4 := blk_frozen BK137.out 4
       have p144 : 0 ≤ (x4_3 : Int) := of_decide_eq_true (by first | (with_reducible assumption) | assumption)
       have q144 : x4_3 < (l0_3.length : Int) := of_decide_eq_true (by first | (with_reducible assumption) | assumption)
       obtain ⟨ad144, e144, hx144_0, hx144_1⟩ := at_T45 HR0_3.out x4_3 p144 q144
       cases e144
       replace hx144_0 := Grow.bc HB.out hx144_0
       replace hx144_1 := Grow.bc HB.out hx144_1
       replace p144 := eq_true p144
       replace q144 := eq_true q144
       go_wp2_with (first | ((with_reducible refine gate_callee (f := 21) rfl ?_); refine goesL_ (some 105) rfl rfl Tryd.func21 (by kernel_rfl) rfl #[.string ((rd_T45 l0_3 x4_3).f0)] rfl (by (try simp only [List.map_toArray, List.map_cons, List.map_nil]); first | done | rfl | (simp only [List.length_drop, List.length_take]; rfl)) ?_; (with_reducible refine (spec_l10Name.calls k3 ((rd_T45 l0_3 x4_3).f0) true _ A39.out).mono ?_); rintro e w' ⟨rfl, ⟨nd, rfl⟩⟩; refine ⟨_, rfl, ?_⟩; have p146 : 0 ≤ (x4_3 : Int) := of_decide_eq_true (by first | (with_reducible assumption) | assumption); have q146 : x4_3 < (l0_3.length : Int) := of_decide_eq_true (by first | (with_reducible assumption) | assumption); obtain ⟨ad146, e146, hx146_0, hx146_1⟩ := at_T45 HR0_3.out x4_3 p146 q146; obtain rfl : ad144 = ad146 := (by injection e146); replace hx146_0 := Grow.bc HB.out hx146_0; replace hx146_1 := Grow.bc HB.out hx146_1; replace p146 := eq_true p146; replace q146 := eq_true q146) | (go_at_call 22; (with_reducible refine (spec_l10Value.calls k3 ((rd_T45 l0_3 x4_3).f1) true _ A41.out).mono ?_); rintro e w' ⟨rfl, ⟨nd, rfl⟩⟩))
       go_roundg k3
       case measure => have := HJ1.out; have := HK2.out; have := HK3.out; omega
       case rel => exact ⟨(wrap64 (x4_3 + 1)), (by first | rfl | (simp; done) | (simp [*]; done)), H', ⟨by have := HJ1.out; have := HK2.out; have := HK3.out; omega⟩, ⟨by first | exact Grow.bk BK137.out | exact BK137.out⟩, ⟨by repeat (first | (with_reducible first | exact HB.out | apply below_alloc | apply pw_below_drewN | apply below_drew1 | refine below_set ?_ GE137.out) | exact HB.out)⟩⟩

end Go.Proofs.YtepnjhmdcaolkaaDoor.QFnExactWriteRequest
