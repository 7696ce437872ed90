-- A text of this session, printed by a program of its own (wip/tools: xpatch.py, xprint.sh, mkq.py). No condition.
import Derived.Test.YtepnjhmdcaolkaaDoorWRepsOne
import Derived.Test.YtepnjhmdcaolkaaDoorQFnExactWritePolicyx0
import Derived.Test.YtepnjhmdcaolkaaDoorQFnExactWritePolicyx3
import Derived.Test.YtepnjhmdcaolkaaDoorQFnExactWritePolicyx4
namespace Go.Proofs.YtepnjhmdcaolkaaDoor.QFnExactWritePolicy
open Go.RowKit Go.Proofs.YtepnjhmdcaolkaaDoorW.PrintWords Go.Proofs.YtepnjhmdcaolkaaDoorW.PrintLast Go.Proofs.YtepnjhmdcaolkaaDoorW.PrintMore
attribute [local go_sem] max2_int min2_int max_two min_two max_three min_three max_four min_four   -- for this text's walks alone
set_option linter.unusedVariables false
set_option linter.unusedSimpArgs false

/-! ### spec_WritePolicy: function 12 -/
mutual
def spec_WritePolicy.l0 : Nat → List (S58) → ByteArray → Int → Option (ByteArray)
  | 0, _, _, _ => none
  | k + 1, x0, x3, x4 => if x4 < (x0.length : Int) then (if 0 ≤ x4 then ((some (([(⟨#[]⟩ : ByteArray), (⟨#[97, 108, 108, 111, 119]⟩ : ByteArray), (⟨#[100, 101, 110, 121]⟩ : ByteArray)] : List ByteArray) : List ByteArray)).bind fun y148 => (if 0 ≤ ((rd_T58 x0 x4).f0) then (if ((rd_T58 x0 x4).f0) < (y148.length : Int) then (if x3.size + (rdOf ByteArray.empty y148 ((rd_T58 x0 x4).f0)).size ≤ 9223372036854775807 then (if (x3 ++ (rdOf ByteArray.empty y148 ((rd_T58 x0 x4).f0))).size + 5 ≤ 9223372036854775807 then ((spec_l09Join.f k ((rd_T58 x0 x4).f1)).bind fun t152 => (if ((x3 ++ (rdOf ByteArray.empty y148 ((rd_T58 x0 x4).f0))) ++ (⟨#[32, 119, 104, 111, 32]⟩ : ByteArray)).size + t152.size ≤ 9223372036854775807 then (if (((x3 ++ (rdOf ByteArray.empty y148 ((rd_T58 x0 x4).f0))) ++ (⟨#[32, 119, 104, 111, 32]⟩ : ByteArray)) ++ t152).size + 4 ≤ 9223372036854775807 then ((spec_l09Join.f k ((rd_T58 x0 x4).f2)).bind fun t153 => (if ((((x3 ++ (rdOf ByteArray.empty y148 ((rd_T58 x0 x4).f0))) ++ (⟨#[32, 119, 104, 111, 32]⟩ : ByteArray)) ++ t152) ++ (⟨#[32, 100, 111, 32]⟩ : ByteArray)).size + t153.size ≤ 9223372036854775807 then (if (((((x3 ++ (rdOf ByteArray.empty y148 ((rd_T58 x0 x4).f0))) ++ (⟨#[32, 119, 104, 111, 32]⟩ : ByteArray)) ++ t152) ++ (⟨#[32, 100, 111, 32]⟩ : ByteArray)) ++ t153).size + 4 ≤ 9223372036854775807 then ((spec_l09Join.f k ((rd_T58 x0 x4).f3)).bind fun t154 => (if ((((((x3 ++ (rdOf ByteArray.empty y148 ((rd_T58 x0 x4).f0))) ++ (⟨#[32, 119, 104, 111, 32]⟩ : ByteArray)) ++ t152) ++ (⟨#[32, 100, 111, 32]⟩ : ByteArray)) ++ t153) ++ (⟨#[32, 111, 110, 32]⟩ : ByteArray)).size + t154.size ≤ 9223372036854775807 then (spec_WritePolicy.l1 k x0 (((((((x3 ++ (rdOf ByteArray.empty y148 ((rd_T58 x0 x4).f0))) ++ (⟨#[32, 119, 104, 111, 32]⟩ : ByteArray)) ++ t152) ++ (⟨#[32, 100, 111, 32]⟩ : ByteArray)) ++ t153) ++ (⟨#[32, 111, 110, 32]⟩ : ByteArray)) ++ t154) x4 0 ((rd_T58 x0 x4).f0) ((rd_T58 x0 x4).f1) ((rd_T58 x0 x4).f2) ((rd_T58 x0 x4).f3) ((rd_T58 x0 x4).f4)) else (none))) else (none)) else (none))) else (none)) else (none))) else (none)) else (none)) else (none)) else (none))) else (none)) else (some x3)
def spec_WritePolicy.l1 : Nat → List (S58) → ByteArray → Int → Int → Int → List ByteArray → List ByteArray → List ByteArray → List (S61) → Option (ByteArray)
  | 0, _, _, _, _, _, _, _, _, _ => none
  | k + 1, x0, x3, x4, x6, x148000, x148001, x148002, x148003, x148004 => if x6 < (x148004.length : Int) then (if 0 ≤ x6 then (if x3.size + 1 ≤ 9223372036854775807 then ((some (([(⟨#[]⟩ : ByteArray), (⟨#[112, 114, 101, 102, 105, 120]⟩ : ByteArray), (⟨#[98, 101, 102, 111, 114, 101]⟩ : ByteArray), (⟨#[97, 102, 116, 101, 114]⟩ : ByteArray), (⟨#[102, 114, 111, 109]⟩ : ByteArray)] : List ByteArray) : List ByteArray)).bind fun y157 => (if 0 ≤ ((rd_T61 x148004 x6).f0) then (if ((rd_T61 x148004 x6).f0) < (y157.length : Int) then (if (x3 ++ (⟨#[32]⟩ : ByteArray)).size + (rdOf ByteArray.empty y157 ((rd_T61 x148004 x6).f0)).size ≤ 9223372036854775807 then (if ((x3 ++ (⟨#[32]⟩ : ByteArray)) ++ (rdOf ByteArray.empty y157 ((rd_T61 x148004 x6).f0))).size + 1 ≤ 9223372036854775807 then (if ((rd_T61 x148004 x6).f0) = 1 then (if (((x3 ++ (⟨#[32]⟩ : ByteArray)) ++ (rdOf ByteArray.empty y157 ((rd_T61 x148004 x6).f0))) ++ (⟨#[32]⟩ : ByteArray)).size + ((rd_T61 x148004 x6).f1).size ≤ 9223372036854775807 then (spec_WritePolicy.l1 k x0 ((((x3 ++ (⟨#[32]⟩ : ByteArray)) ++ (rdOf ByteArray.empty y157 ((rd_T61 x148004 x6).f0))) ++ (⟨#[32]⟩ : ByteArray)) ++ ((rd_T61 x148004 x6).f1)) x4 (wrap64 (x6 + 1)) x148000 x148001 x148002 x148003 x148004) else (none)) else (if ((rd_T61 x148004 x6).f0) = 4 then (if (((x3 ++ (⟨#[32]⟩ : ByteArray)) ++ (rdOf ByteArray.empty y157 ((rd_T61 x148004 x6).f0))) ++ (⟨#[32]⟩ : ByteArray)).size + ((rd_T61 x148004 x6).f1).size ≤ 9223372036854775807 then (spec_WritePolicy.l1 k x0 ((((x3 ++ (⟨#[32]⟩ : ByteArray)) ++ (rdOf ByteArray.empty y157 ((rd_T61 x148004 x6).f0))) ++ (⟨#[32]⟩ : ByteArray)) ++ ((rd_T61 x148004 x6).f1)) x4 (wrap64 (x6 + 1)) x148000 x148001 x148002 x148003 x148004) else (none)) else ((spec_l01Dec.f k ((rd_T61 x148004 x6).f2)).bind fun t161 => (if (((x3 ++ (⟨#[32]⟩ : ByteArray)) ++ (rdOf ByteArray.empty y157 ((rd_T61 x148004 x6).f0))) ++ (⟨#[32]⟩ : ByteArray)).size + t161.size ≤ 9223372036854775807 then (spec_WritePolicy.l1 k x0 ((((x3 ++ (⟨#[32]⟩ : ByteArray)) ++ (rdOf ByteArray.empty y157 ((rd_T61 x148004 x6).f0))) ++ (⟨#[32]⟩ : ByteArray)) ++ t161) x4 (wrap64 (x6 + 1)) x148000 x148001 x148002 x148003 x148004) else (none))))) else (none)) else (none)) else (none)) else (none))) else (none)) else (none)) else (if x3.size + 1 ≤ 9223372036854775807 then (if ((x3 ++ (⟨#[10]⟩ : ByteArray)).size : Int) > 10000 then (some (⟨#[]⟩ : ByteArray)) else (spec_WritePolicy.l0 k x0 (x3 ++ (⟨#[10]⟩ : ByteArray)) (wrap64 (x4 + 1)))) else (none))
end
def spec_WritePolicy.f (k : Nat) (l0 : List (S58)) : Option (ByteArray) := (spec_PolicyFault.f k l0).bind fun t145 => (if t145 = 0 then (spec_WritePolicy.l0 k l0 (⟨#[]⟩ : ByteArray) 0) else (some (⟨#[]⟩ : ByteArray)))
theorem spec_WritePolicy.mono_l : ∀ k, (∀ y0 y1 y2, LeO (spec_WritePolicy.l0 k y0 y1 y2) (spec_WritePolicy.l0 (k + 1) y0 y1 y2)) ∧ (∀ y0 y1 y2 y3 y4 y5 y6 y7 y8, LeO (spec_WritePolicy.l1 k y0 y1 y2 y3 y4 y5 y6 y7 y8) (spec_WritePolicy.l1 (k + 1) y0 y1 y2 y3 y4 y5 y6 y7 y8))
  | 0 => ⟨fun _ _ _ r h => by simp [spec_WritePolicy.l0] at h, fun _ _ _ _ _ _ _ _ _ r h => by simp [spec_WritePolicy.l1] at h⟩
  | k + 1 => by
    obtain ⟨ih0, ih1⟩ := spec_WritePolicy.mono_l k
    refine ⟨?_, ?_⟩
    · intro y0 y1 y2
      unfold spec_WritePolicy.l0
      repeat' first
      | (with_reducible exact ih0 _ _ _)
      | (with_reducible exact ih1 _ _ _ _ _ _ _ _ _)
      | (with_reducible exact spec_PolicyFault.mono _ _)
      | (with_reducible exact spec_l01Dec.mono _ _)
      | (with_reducible exact spec_l09Join.mono _ _)
      | (with_reducible exact LeO.refl _)
      | (with_reducible exact LeO.none _)
      | (with_reducible refine LeO.ite ?_ ?_)
      | (with_reducible refine LeO.bind ?_ (fun _ => ?_))
      | exact ih0 _ _ _
      | exact ih1 _ _ _ _ _ _ _ _ _
      | exact spec_PolicyFault.mono _ _
      | exact spec_l01Dec.mono _ _
      | exact spec_l09Join.mono _ _
      | exact LeO.none _
      | refine LeO.ite ?_ ?_
      | refine LeO.bind ?_ (fun _ => ?_)
    · intro y0 y1 y2 y3 y4 y5 y6 y7 y8
      unfold spec_WritePolicy.l1
      repeat' first
      | (with_reducible exact ih0 _ _ _)
      | (with_reducible exact ih1 _ _ _ _ _ _ _ _ _)
      | (with_reducible exact spec_PolicyFault.mono _ _)
      | (with_reducible exact spec_l01Dec.mono _ _)
      | (with_reducible exact spec_l09Join.mono _ _)
      | (with_reducible exact LeO.refl _)
      | (with_reducible exact LeO.none _)
      | (with_reducible refine LeO.ite ?_ ?_)
      | (with_reducible refine LeO.bind ?_ (fun _ => ?_))
      | exact ih0 _ _ _
      | exact ih1 _ _ _ _ _ _ _ _ _
      | exact spec_PolicyFault.mono _ _
      | exact spec_l01Dec.mono _ _
      | exact spec_l09Join.mono _ _
      | exact LeO.none _
      | refine LeO.ite ?_ ?_
      | refine LeO.bind ?_ (fun _ => ?_)
theorem spec_WritePolicy.mono : ∀ a0 k, LeO (spec_WritePolicy.f k a0) (spec_WritePolicy.f (k + 1) a0) := by
  intro a0 k
  obtain ⟨ih0, ih1⟩ := spec_WritePolicy.mono_l k
  unfold spec_WritePolicy.f
  repeat' first
      | (with_reducible exact ih0 _ _ _)
      | (with_reducible exact ih1 _ _ _ _ _ _ _ _ _)
      | (with_reducible exact spec_PolicyFault.mono _ _)
      | (with_reducible exact spec_l01Dec.mono _ _)
      | (with_reducible exact spec_l09Join.mono _ _)
      | (with_reducible exact LeO.refl _)
      | (with_reducible exact LeO.none _)
      | (with_reducible refine LeO.ite ?_ ?_)
      | (with_reducible refine LeO.bind ?_ (fun _ => ?_))
      | exact ih0 _ _ _
      | exact ih1 _ _ _ _ _ _ _ _ _
      | exact spec_PolicyFault.mono _ _
      | exact spec_l01Dec.mono _ _
      | exact spec_l09Join.mono _ _
      | exact LeO.none _
      | refine LeO.ite ?_ ?_
      | refine LeO.bind ?_ (fun _ => ?_)
def spec_WritePolicy.T8 : Bool × List (List Nat × List Nat) := (true, [([], []), ([], []), ([], []), ([2], [2]), ([1, 3], [1, 3]), ([4], [4]), ([0, 5], [0, 5]), ([6], [6]), ([], []), ([8], [8]), ([9], [9]), ([7, 10], [7, 10]), ([11], [11]), ([], []), ([13], [13]), ([14, 10], [14]), ([12, 15], [12, 15]), ([16], [16]), ([], []), ([18], [18]), ([19, 15], [19]), ([17, 20], [17, 20]), ([21, 20, 0, 1, 2, 3, 4, 5, 6, 7, 8, 9, 10, 11, 12, 13, 14, 15, 16, 17, 18, 19, 20, 21], [0, 21])])
def spec_WritePolicy.B8 : List Nat := [0, 0, 0, 4, 14, 30, 63, 127, 0, 256, 768, 2047, 4095, 0, 8192, 26368, 65535, 131071, 0, 262144, 845568, 2097151, 4194303]
theorem spec_WritePolicy.tab8 : rtab .any (opsOf Tryd.f12 8) = spec_WritePolicy.T8 := by kernel_rfl
theorem spec_WritePolicy.bits8 : waitsOk spec_WritePolicy.T8.2 spec_WritePolicy.B8 = true := by kernel_rfl
set_option maxHeartbeats 8000000 in
set_option maxRecDepth 100000 in
theorem spec_WritePolicy.calls (k : Nat) (A0 : Option Addr) (c0 : Nat) (l0 : List (S58)) (r : ByteArray) (w : World) (hr0 : Kd.C k58 w A0 l0.length l0) (hc0 : l0.length ≤ c0) (h : spec_WritePolicy.f k l0 = some r) :
  Calls Tryd.prog 12 #[.slice A0 l0.length c0] w fun e w' => e = .returned (.string r) ∧ Below w.heap.size w w' := by
 have hu58 := Tryd.underlying58
 have hu61 := Tryd.underlying61
 have HR0 := Aside0.mk hr0
 have HC0 := Aside0.mk hc0
 clear hr0 hc0
 have HB := Aside0.mk (Below.refl w.heap.size w)
 have H : ((spec_PolicyFault.f k l0).bind fun t145 => (if t145 = 0 then (spec_WritePolicy.l0 k l0 (⟨#[]⟩ : ByteArray) 0) else (some (⟨#[]⟩ : ByteArray)))) = some r := h
 clear h
 replace H := Option.bind_eq_some_iff.mp H
 obtain ⟨t145, A20, H⟩ := H
 replace H : (if t145 = 0 then (spec_WritePolicy.l0 k l0 (⟨#[]⟩ : ByteArray) 0) else (some (⟨#[]⟩ : ByteArray))) = some r := H
 have A2 := Aside0.mk A20
 clear A20
 by_cases c3 : t145 = 0
 rotate_left
 ·
  rw [if_neg c3] at H
  have c3b0 : (t145 == 0) = false := beq_eq_false_iff_ne.mpr c3
  have c3b1 : (t145 != 0) = true := bne_iff_ne.mpr c3
  obtain rfl := Option.some.inj H
  go_enter Tryd.func12, Tryd.ntmps12
  go_wp2_with (first | ((with_reducible refine gate_callee (f := 31) rfl ?_); refine goesL_ (some 9) rfl rfl Tryd.func31 (by kernel_rfl) rfl #[.slice A0 l0.length c0] rfl (by (try simp only [List.map_toArray, List.map_cons, List.map_nil]); first | done | rfl | (simp only [List.length_drop, List.length_take]; rfl)) ?_; (with_reducible refine (spec_PolicyFault.calls k _ _ l0 t145 _ ?side1 ?side2 A2.out).mono ?_); (case side1 => repeat (first | exact HR0.out | (with_reducible refine Kd.C_alloc ?_ _) | (with_reducible refine Kd.C_drewN ?_ _) | (with_reducible refine Kd.C_drew ?_))); (case side2 => exact HC0.out); rintro e w70 ⟨rfl, hb⟩; refine ⟨_, rfl, ?_⟩; have n0_ := Aside0.mk (below_step (by first | exact Grow.bl HB.out | exact HB.out) hb); clear HB; have HB := n0_; clear n0_; (try clear hb); (try clear hb2); (try clear hk); (try clear hi)))
  go_ret
  exact ⟨by first | rfl | (simp [errW_none, errW_some] <;> rfl) | (simp [*, errW_none, errW_some] <;> rfl), by first | exact Grow.bl HB.out | exact HB.out⟩
 rw [if_pos c3] at H
 have c3b0 : (t145 == 0) = true := beq_iff_eq.mpr c3
 have c3b1 : (t145 != 0) = false := bne_eq_false_iff_eq.mpr c3
 clear c3
 have H' := Aside0.mk H
 clear H
 go_enter Tryd.func12, Tryd.ntmps12
 go_wp2_with (first | ((with_reducible refine gate_callee (f := 31) rfl ?_); refine goesL_ (some 9) rfl rfl Tryd.func31 (by kernel_rfl) rfl #[.slice A0 l0.length c0] rfl (by (try simp only [List.map_toArray, List.map_cons, List.map_nil]); first | done | rfl | (simp only [List.length_drop, List.length_take]; rfl)) ?_; (with_reducible refine (spec_PolicyFault.calls k _ _ l0 t145 _ ?side1 ?side2 A2.out).mono ?_); (case side1 => repeat (first | exact HR0.out | (with_reducible refine Kd.C_alloc ?_ _) | (with_reducible refine Kd.C_drewN ?_ _) | (with_reducible refine Kd.C_drew ?_))); (case side2 => exact HC0.out); rintro e w4 ⟨rfl, hb⟩; refine ⟨_, rfl, ?_⟩; have n0_ := Aside0.mk (below_step (by first | exact Grow.bl HB.out | exact HB.out) hb); clear HB; have HB := n0_; clear n0_; (try clear hb); (try clear hb2); (try clear hk); (try clear hi)))
 go_loopg [3, 4] k (fun kq v3 v4 w' => ∃ (x3_1 : ByteArray) (x4_1 : Int), v3 = .string x3_1 ∧ v4 = .int .i64 x4_1 ∧ Aside0 (spec_WritePolicy.l0 kq l0 x3_1 x4_1 = some r) ∧ Aside0 (kq ≤ k) ∧ Aside0 (Below w.heap.size w w'))
 case atStart => exact ⟨((⟨#[]⟩ : ByteArray)), (0), (by first | rfl | (simp; done) | (simp [*]; done)), (by first | rfl | (simp; done) | (simp [*]; done)), H', ⟨Nat.le_refl _⟩, ⟨by first | exact Grow.bl HB.out | exact HB.out⟩⟩
 case round =>
  clear H'
  try clear c1
  try clear p2
  try clear c3
  try clear c3b0
  try clear c3b1
  obtain ⟨x3_1, x4_1, rfl, rfl, HA, HK1, HB⟩ := hrel
  cases gk with
  | zero => exact absurd HA.out (by simp [spec_WritePolicy.l0])
  | succ k1 =>
   have H := HA.out
   clear HA
   simp only [spec_WritePolicy.l0] at H
   by_cases c5 : x4_1 < (l0.length : Int)
   rotate_left
   ·
    rw [if_neg c5] at H
    have c5b0 : decide (x4_1 < (l0.length : Int)) = false := decide_eq_false c5
    clear c5
    obtain rfl := Option.some.inj H
    go_wp2
    go_ret
    exact ⟨by first | rfl | (simp [errW_none, errW_some] <;> rfl) | (simp [*, errW_none, errW_some] <;> rfl), by first | exact Grow.bl HB.out | exact HB.out⟩
   rw [if_pos c5] at H
   have c5b0 : decide (x4_1 < (l0.length : Int)) = true := decide_eq_true c5
   clear c5
   by_cases c6 : 0 ≤ x4_1
   rotate_left
   ·
    rw [if_neg c6] at H
    exact absurd H (by simp)
   rw [if_pos c6] at H
   have c6b0 : decide (0 ≤ x4_1) = true := decide_eq_true c6
   clear c6
   obtain ⟨y148, hy148⟩ : ∃ y_ : List ByteArray, y_ = (([(⟨#[]⟩ : ByteArray), (⟨#[97, 108, 108, 111, 119]⟩ : ByteArray), (⟨#[100, 101, 110, 121]⟩ : ByteArray)] : List ByteArray)) := ⟨_, rfl⟩
   replace H : (if 0 ≤ ((rd_T58 l0 x4_1).f0) then (if ((rd_T58 l0 x4_1).f0) < (y148.length : Int) then (if x3_1.size + (rdOf ByteArray.empty y148 ((rd_T58 l0 x4_1).f0)).size ≤ 9223372036854775807 then (if (x3_1 ++ (rdOf ByteArray.empty y148 ((rd_T58 l0 x4_1).f0))).size + 5 ≤ 9223372036854775807 then ((spec_l09Join.f k1 ((rd_T58 l0 x4_1).f1)).bind fun t152 => (if ((x3_1 ++ (rdOf ByteArray.empty y148 ((rd_T58 l0 x4_1).f0))) ++ (⟨#[32, 119, 104, 111, 32]⟩ : ByteArray)).size + t152.size ≤ 9223372036854775807 then (if (((x3_1 ++ (rdOf ByteArray.empty y148 ((rd_T58 l0 x4_1).f0))) ++ (⟨#[32, 119, 104, 111, 32]⟩ : ByteArray)) ++ t152).size + 4 ≤ 9223372036854775807 then ((spec_l09Join.f k1 ((rd_T58 l0 x4_1).f2)).bind fun t153 => (if ((((x3_1 ++ (rdOf ByteArray.empty y148 ((rd_T58 l0 x4_1).f0))) ++ (⟨#[32, 119, 104, 111, 32]⟩ : ByteArray)) ++ t152) ++ (⟨#[32, 100, 111, 32]⟩ : ByteArray)).size + t153.size ≤ 9223372036854775807 then (if (((((x3_1 ++ (rdOf ByteArray.empty y148 ((rd_T58 l0 x4_1).f0))) ++ (⟨#[32, 119, 104, 111, 32]⟩ : ByteArray)) ++ t152) ++ (⟨#[32, 100, 111, 32]⟩ : ByteArray)) ++ t153).size + 4 ≤ 9223372036854775807 then ((spec_l09Join.f k1 ((rd_T58 l0 x4_1).f3)).bind fun t154 => (if ((((((x3_1 ++ (rdOf ByteArray.empty y148 ((rd_T58 l0 x4_1).f0))) ++ (⟨#[32, 119, 104, 111, 32]⟩ : ByteArray)) ++ t152) ++ (⟨#[32, 100, 111, 32]⟩ : ByteArray)) ++ t153) ++ (⟨#[32, 111, 110, 32]⟩ : ByteArray)).size + t154.size ≤ 9223372036854775807 then (spec_WritePolicy.l1 k1 l0 (((((((x3_1 ++ (rdOf ByteArray.empty y148 ((rd_T58 l0 x4_1).f0))) ++ (⟨#[32, 119, 104, 111, 32]⟩ : ByteArray)) ++ t152) ++ (⟨#[32, 100, 111, 32]⟩ : ByteArray)) ++ t153) ++ (⟨#[32, 111, 110, 32]⟩ : ByteArray)) ++ t154) x4_1 0 ((rd_T58 l0 x4_1).f0) ((rd_T58 l0 x4_1).f1) ((rd_T58 l0 x4_1).f2) ((rd_T58 l0 x4_1).f3) ((rd_T58 l0 x4_1).f4)) else (none))) else (none)) else (none))) else (none)) else (none))) else (none)) else (none)) else (none)) else (none)) = some r := by first | (rw [hy148]; with_reducible exact H) | (have H2_ := (Option.bind_some _ _).symm.trans H; rw [hy148]; with_reducible exact H2_) | (have H2_ := (Option.bind_some _ _).symm.trans H; with_reducible exact H2_) | with_reducible exact H | (rw [hy148]; exact H) | exact H
   have Ny148 := Aside0.mk hy148
   clear hy148
   by_cases c7 : 0 ≤ ((rd_T58 l0 x4_1).f0)
   rotate_left
   ·
    rw [if_neg c7] at H
    exact absurd H (by simp)
   rw [if_pos c7] at H
   have c7b0 : decide (0 ≤ ((rd_T58 l0 x4_1).f0)) = true := decide_eq_true c7
   clear c7
   by_cases c8 : ((rd_T58 l0 x4_1).f0) < (y148.length : Int)
   rotate_left
   ·
    rw [if_neg c8] at H
    exact absurd H (by simp)
   rw [if_pos c8] at H
   have c8b0 : decide (((rd_T58 l0 x4_1).f0) < (y148.length : Int)) = true := decide_eq_true c8
   clear c8
   by_cases c9 : x3_1.size + (rdOf ByteArray.empty y148 ((rd_T58 l0 x4_1).f0)).size ≤ 9223372036854775807
   rotate_left
   ·
    rw [if_neg c9] at H
    exact absurd H (by simp)
   rw [if_pos c9] at H
   have c9b0 := eq_true c9
   have c9b1 : decide (x3_1.size + (rdOf ByteArray.empty y148 ((rd_T58 l0 x4_1).f0)).size ≤ 9223372036854775807) = true := decide_eq_true c9
   try have c9b2 : (9223372036854775807 < x3_1.size + (rdOf ByteArray.empty y148 ((rd_T58 l0 x4_1).f0)).size) = False := eq_false (Nat.not_lt.2 c9)
   by_cases c10 : (x3_1 ++ (rdOf ByteArray.empty y148 ((rd_T58 l0 x4_1).f0))).size + 5 ≤ 9223372036854775807
   rotate_left
   ·
    rw [if_neg c10] at H
    exact absurd H (by simp)
   rw [if_pos c10] at H
   have c10b0 := eq_true c10
   have c10z := c10
   simp only [ByteArray.size_append] at c10z
   have c10z0 := eq_true c10z
   have c10z1 := decide_eq_true c10z
   try have c10z2 := eq_false (Nat.not_lt.2 c10z)
   have c10b1 : decide ((x3_1 ++ (rdOf ByteArray.empty y148 ((rd_T58 l0 x4_1).f0))).size + 5 ≤ 9223372036854775807) = true := decide_eq_true c10
   try have c10b2 : (9223372036854775807 < (x3_1 ++ (rdOf ByteArray.empty y148 ((rd_T58 l0 x4_1).f0))).size + 5) = False := eq_false (Nat.not_lt.2 c10)
   replace H := Option.bind_eq_some_iff.mp H
   obtain ⟨t152, A110, H⟩ := H
   replace H : (if ((x3_1 ++ (rdOf ByteArray.empty y148 ((rd_T58 l0 x4_1).f0))) ++ (⟨#[32, 119, 104, 111, 32]⟩ : ByteArray)).size + t152.size ≤ 9223372036854775807 then (if (((x3_1 ++ (rdOf ByteArray.empty y148 ((rd_T58 l0 x4_1).f0))) ++ (⟨#[32, 119, 104, 111, 32]⟩ : ByteArray)) ++ t152).size + 4 ≤ 9223372036854775807 then ((spec_l09Join.f k1 ((rd_T58 l0 x4_1).f2)).bind fun t153 => (if ((((x3_1 ++ (rdOf ByteArray.empty y148 ((rd_T58 l0 x4_1).f0))) ++ (⟨#[32, 119, 104, 111, 32]⟩ : ByteArray)) ++ t152) ++ (⟨#[32, 100, 111, 32]⟩ : ByteArray)).size + t153.size ≤ 9223372036854775807 then (if (((((x3_1 ++ (rdOf ByteArray.empty y148 ((rd_T58 l0 x4_1).f0))) ++ (⟨#[32, 119, 104, 111, 32]⟩ : ByteArray)) ++ t152) ++ (⟨#[32, 100, 111, 32]⟩ : ByteArray)) ++ t153).size + 4 ≤ 9223372036854775807 then ((spec_l09Join.f k1 ((rd_T58 l0 x4_1).f3)).bind fun t154 => (if ((((((x3_1 ++ (rdOf ByteArray.empty y148 ((rd_T58 l0 x4_1).f0))) ++ (⟨#[32, 119, 104, 111, 32]⟩ : ByteArray)) ++ t152) ++ (⟨#[32, 100, 111, 32]⟩ : ByteArray)) ++ t153) ++ (⟨#[32, 111, 110, 32]⟩ : ByteArray)).size + t154.size ≤ 9223372036854775807 then (spec_WritePolicy.l1 k1 l0 (((((((x3_1 ++ (rdOf ByteArray.empty y148 ((rd_T58 l0 x4_1).f0))) ++ (⟨#[32, 119, 104, 111, 32]⟩ : ByteArray)) ++ t152) ++ (⟨#[32, 100, 111, 32]⟩ : ByteArray)) ++ t153) ++ (⟨#[32, 111, 110, 32]⟩ : ByteArray)) ++ t154) x4_1 0 ((rd_T58 l0 x4_1).f0) ((rd_T58 l0 x4_1).f1) ((rd_T58 l0 x4_1).f2) ((rd_T58 l0 x4_1).f3) ((rd_T58 l0 x4_1).f4)) else (none))) else (none)) else (none))) else (none)) else (none)) = some r := H
   have A11 := Aside0.mk A110
   clear A110
   by_cases c12 : ((x3_1 ++ (rdOf ByteArray.empty y148 ((rd_T58 l0 x4_1).f0))) ++ (⟨#[32, 119, 104, 111, 32]⟩ : ByteArray)).size + t152.size ≤ 9223372036854775807
   rotate_left
   ·
    rw [if_neg c12] at H
    exact absurd H (by simp)
   rw [if_pos c12] at H
   have c12b0 := eq_true c12
   have c12z := c12
   simp only [ByteArray.size_append, show (⟨#[32, 119, 104, 111, 32]⟩ : ByteArray).size = 5 from rfl] at c12z
   have c12z0 := eq_true c12z
   have c12z1 := decide_eq_true c12z
   try have c12z2 := eq_false (Nat.not_lt.2 c12z)
   have c12b1 : decide (((x3_1 ++ (rdOf ByteArray.empty y148 ((rd_T58 l0 x4_1).f0))) ++ (⟨#[32, 119, 104, 111, 32]⟩ : ByteArray)).size + t152.size ≤ 9223372036854775807) = true := decide_eq_true c12
   try have c12b2 : (9223372036854775807 < ((x3_1 ++ (rdOf ByteArray.empty y148 ((rd_T58 l0 x4_1).f0))) ++ (⟨#[32, 119, 104, 111, 32]⟩ : ByteArray)).size + t152.size) = False := eq_false (Nat.not_lt.2 c12)
   by_cases c13 : (((x3_1 ++ (rdOf ByteArray.empty y148 ((rd_T58 l0 x4_1).f0))) ++ (⟨#[32, 119, 104, 111, 32]⟩ : ByteArray)) ++ t152).size + 4 ≤ 9223372036854775807
   rotate_left
   ·
    rw [if_neg c13] at H
    exact absurd H (by simp)
   rw [if_pos c13] at H
   have c13b0 := eq_true c13
   have c13z := c13
   simp only [ByteArray.size_append, show (⟨#[32, 119, 104, 111, 32]⟩ : ByteArray).size = 5 from rfl] at c13z
   have c13z0 := eq_true c13z
   have c13z1 := decide_eq_true c13z
   try have c13z2 := eq_false (Nat.not_lt.2 c13z)
   have c13b1 : decide ((((x3_1 ++ (rdOf ByteArray.empty y148 ((rd_T58 l0 x4_1).f0))) ++ (⟨#[32, 119, 104, 111, 32]⟩ : ByteArray)) ++ t152).size + 4 ≤ 9223372036854775807) = true := decide_eq_true c13
   try have c13b2 : (9223372036854775807 < (((x3_1 ++ (rdOf ByteArray.empty y148 ((rd_T58 l0 x4_1).f0))) ++ (⟨#[32, 119, 104, 111, 32]⟩ : ByteArray)) ++ t152).size + 4) = False := eq_false (Nat.not_lt.2 c13)
   replace H := Option.bind_eq_some_iff.mp H
   obtain ⟨t153, A140, H⟩ := H
   replace H : (if ((((x3_1 ++ (rdOf ByteArray.empty y148 ((rd_T58 l0 x4_1).f0))) ++ (⟨#[32, 119, 104, 111, 32]⟩ : ByteArray)) ++ t152) ++ (⟨#[32, 100, 111, 32]⟩ : ByteArray)).size + t153.size ≤ 9223372036854775807 then (if (((((x3_1 ++ (rdOf ByteArray.empty y148 ((rd_T58 l0 x4_1).f0))) ++ (⟨#[32, 119, 104, 111, 32]⟩ : ByteArray)) ++ t152) ++ (⟨#[32, 100, 111, 32]⟩ : ByteArray)) ++ t153).size + 4 ≤ 9223372036854775807 then ((spec_l09Join.f k1 ((rd_T58 l0 x4_1).f3)).bind fun t154 => (if ((((((x3_1 ++ (rdOf ByteArray.empty y148 ((rd_T58 l0 x4_1).f0))) ++ (⟨#[32, 119, 104, 111, 32]⟩ : ByteArray)) ++ t152) ++ (⟨#[32, 100, 111, 32]⟩ : ByteArray)) ++ t153) ++ (⟨#[32, 111, 110, 32]⟩ : ByteArray)).size + t154.size ≤ 9223372036854775807 then (spec_WritePolicy.l1 k1 l0 (((((((x3_1 ++ (rdOf ByteArray.empty y148 ((rd_T58 l0 x4_1).f0))) ++ (⟨#[32, 119, 104, 111, 32]⟩ : ByteArray)) ++ t152) ++ (⟨#[32, 100, 111, 32]⟩ : ByteArray)) ++ t153) ++ (⟨#[32, 111, 110, 32]⟩ : ByteArray)) ++ t154) x4_1 0 ((rd_T58 l0 x4_1).f0) ((rd_T58 l0 x4_1).f1) ((rd_T58 l0 x4_1).f2) ((rd_T58 l0 x4_1).f3) ((rd_T58 l0 x4_1).f4)) else (none))) else (none)) else (none)) = some r := H
   have A14 := Aside0.mk A140
   clear A140
   by_cases c15 : ((((x3_1 ++ (rdOf ByteArray.empty y148 ((rd_T58 l0 x4_1).f0))) ++ (⟨#[32, 119, 104, 111, 32]⟩ : ByteArray)) ++ t152) ++ (⟨#[32, 100, 111, 32]⟩ : ByteArray)).size + t153.size ≤ 9223372036854775807
   rotate_left
   ·
    rw [if_neg c15] at H
    exact absurd H (by simp)
   rw [if_pos c15] at H
   have c15b0 := eq_true c15
   have c15z := c15
   simp only [ByteArray.size_append, show (⟨#[32, 100, 111, 32]⟩ : ByteArray).size = 4 from rfl, show (⟨#[32, 119, 104, 111, 32]⟩ : ByteArray).size = 5 from rfl] at c15z
   have c15z0 := eq_true c15z
   have c15z1 := decide_eq_true c15z
   try have c15z2 := eq_false (Nat.not_lt.2 c15z)
   have c15b1 : decide (((((x3_1 ++ (rdOf ByteArray.empty y148 ((rd_T58 l0 x4_1).f0))) ++ (⟨#[32, 119, 104, 111, 32]⟩ : ByteArray)) ++ t152) ++ (⟨#[32, 100, 111, 32]⟩ : ByteArray)).size + t153.size ≤ 9223372036854775807) = true := decide_eq_true c15
   try have c15b2 : (9223372036854775807 < ((((x3_1 ++ (rdOf ByteArray.empty y148 ((rd_T58 l0 x4_1).f0))) ++ (⟨#[32, 119, 104, 111, 32]⟩ : ByteArray)) ++ t152) ++ (⟨#[32, 100, 111, 32]⟩ : ByteArray)).size + t153.size) = False := eq_false (Nat.not_lt.2 c15)
   by_cases c16 : (((((x3_1 ++ (rdOf ByteArray.empty y148 ((rd_T58 l0 x4_1).f0))) ++ (⟨#[32, 119, 104, 111, 32]⟩ : ByteArray)) ++ t152) ++ (⟨#[32, 100, 111, 32]⟩ : ByteArray)) ++ t153).size + 4 ≤ 9223372036854775807
   rotate_left
   ·
    rw [if_neg c16] at H
    exact absurd H (by simp)
   rw [if_pos c16] at H
   have c16b0 := eq_true c16
   have c16z := c16
   simp only [ByteArray.size_append, show (⟨#[32, 100, 111, 32]⟩ : ByteArray).size = 4 from rfl, show (⟨#[32, 119, 104, 111, 32]⟩ : ByteArray).size = 5 from rfl] at c16z
   have c16z0 := eq_true c16z
   have c16z1 := decide_eq_true c16z
   try have c16z2 := eq_false (Nat.not_lt.2 c16z)
   have c16b1 : decide ((((((x3_1 ++ (rdOf ByteArray.empty y148 ((rd_T58 l0 x4_1).f0))) ++ (⟨#[32, 119, 104, 111, 32]⟩ : ByteArray)) ++ t152) ++ (⟨#[32, 100, 111, 32]⟩ : ByteArray)) ++ t153).size + 4 ≤ 9223372036854775807) = true := decide_eq_true c16
   try have c16b2 : (9223372036854775807 < (((((x3_1 ++ (rdOf ByteArray.empty y148 ((rd_T58 l0 x4_1).f0))) ++ (⟨#[32, 119, 104, 111, 32]⟩ : ByteArray)) ++ t152) ++ (⟨#[32, 100, 111, 32]⟩ : ByteArray)) ++ t153).size + 4) = False := eq_false (Nat.not_lt.2 c16)
   replace H := Option.bind_eq_some_iff.mp H
   obtain ⟨t154, A170, H⟩ := H
   replace H : (if ((((((x3_1 ++ (rdOf ByteArray.empty y148 ((rd_T58 l0 x4_1).f0))) ++ (⟨#[32, 119, 104, 111, 32]⟩ : ByteArray)) ++ t152) ++ (⟨#[32, 100, 111, 32]⟩ : ByteArray)) ++ t153) ++ (⟨#[32, 111, 110, 32]⟩ : ByteArray)).size + t154.size ≤ 9223372036854775807 then (spec_WritePolicy.l1 k1 l0 (((((((x3_1 ++ (rdOf ByteArray.empty y148 ((rd_T58 l0 x4_1).f0))) ++ (⟨#[32, 119, 104, 111, 32]⟩ : ByteArray)) ++ t152) ++ (⟨#[32, 100, 111, 32]⟩ : ByteArray)) ++ t153) ++ (⟨#[32, 111, 110, 32]⟩ : ByteArray)) ++ t154) x4_1 0 ((rd_T58 l0 x4_1).f0) ((rd_T58 l0 x4_1).f1) ((rd_T58 l0 x4_1).f2) ((rd_T58 l0 x4_1).f3) ((rd_T58 l0 x4_1).f4)) else (none)) = some r := H
   have A17 := Aside0.mk A170
   clear A170
   by_cases c18 : ((((((x3_1 ++ (rdOf ByteArray.empty y148 ((rd_T58 l0 x4_1).f0))) ++ (⟨#[32, 119, 104, 111, 32]⟩ : ByteArray)) ++ t152) ++ (⟨#[32, 100, 111, 32]⟩ : ByteArray)) ++ t153) ++ (⟨#[32, 111, 110, 32]⟩ : ByteArray)).size + t154.size ≤ 9223372036854775807
   rotate_left
   ·
    rw [if_neg c18] at H
    exact absurd H (by simp)
   rw [if_pos c18] at H
   have c18b0 := eq_true c18
   have c18z := c18
   simp only [ByteArray.size_append, show (⟨#[32, 100, 111, 32]⟩ : ByteArray).size = 4 from rfl, show (⟨#[32, 111, 110, 32]⟩ : ByteArray).size = 4 from rfl, show (⟨#[32, 119, 104, 111, 32]⟩ : ByteArray).size = 5 from rfl] at c18z
   have c18z0 := eq_true c18z
   have c18z1 := decide_eq_true c18z
   try have c18z2 := eq_false (Nat.not_lt.2 c18z)
   have c18b1 : decide (((((((x3_1 ++ (rdOf ByteArray.empty y148 ((rd_T58 l0 x4_1).f0))) ++ (⟨#[32, 119, 104, 111, 32]⟩ : ByteArray)) ++ t152) ++ (⟨#[32, 100, 111, 32]⟩ : ByteArray)) ++ t153) ++ (⟨#[32, 111, 110, 32]⟩ : ByteArray)).size + t154.size ≤ 9223372036854775807) = true := decide_eq_true c18
   try have c18b2 : (9223372036854775807 < ((((((x3_1 ++ (rdOf ByteArray.empty y148 ((rd_T58 l0 x4_1).f0))) ++ (⟨#[32, 119, 104, 111, 32]⟩ : ByteArray)) ++ t152) ++ (⟨#[32, 100, 111, 32]⟩ : ByteArray)) ++ t153) ++ (⟨#[32, 111, 110, 32]⟩ : ByteArray)).size + t154.size) = False := eq_false (Nat.not_lt.2 c18)
   have H' := Aside0.mk H
   clear H
   have p146 : 0 ≤ (x4_1 : Int) := of_decide_eq_true (by first | (with_reducible assumption) | assumption)
   have q146 : x4_1 < (l0.length : Int) := of_decide_eq_true (by first | (with_reducible assumption) | assumption)
   obtain ⟨ad146, A146_1, c146_1, A146_2, c146_2, A146_3, c146_3, A146_4, c146_4, e146, hx146_0, hx146_1, hx146_2, hx146_3, hx146_4, hl146_1, hi146_1, hl146_2, hi146_2, hl146_3, hi146_3, hl146_4, hi146_4⟩ := at_T58 HR0.out x4_1 p146 q146
   cases e146
   replace hx146_0 := Grow.bc HB.out hx146_0
   replace hx146_1 := Grow.bc HB.out hx146_1
   replace hx146_2 := Grow.bc HB.out hx146_2
   replace hx146_3 := Grow.bc HB.out hx146_3
   replace hx146_4 := Grow.bc HB.out hx146_4
   have HR146_1 := Aside0.mk hi146_1
   have HC146_1 := Aside0.mk hl146_1
   clear hi146_1 hl146_1
   have HR146_2 := Aside0.mk hi146_2
   have HC146_2 := Aside0.mk hl146_2
   clear hi146_2 hl146_2
   have HR146_3 := Aside0.mk hi146_3
   have HC146_3 := Aside0.mk hl146_3
   clear hi146_3 hl146_3
   have HR146_4 := Aside0.mk hi146_4
   have HC146_4 := Aside0.mk hl146_4
   clear hi146_4 hl146_4
   replace p146 := eq_true p146
   replace q146 := eq_true q146
   try go_wp2_with (first | ((with_reducible refine gate_dst (N := 5) rfl ?_); refine box_event ?hg (N := 5) ?hd (cs := #[.int .i64 0, .slice none 0 0, .slice none 0 0, .slice none 0 0, .slice none 0 0]) (t := 58) ?hr ?_; (case hd => rfl); (case hg => rfl); (case hr => first | (go_simp; done) | (go_simp; rfl)); intro gb147 hg w19 hbox hb; have n0_ := Aside0.mk (below_step (by first | exact Grow.bl HB.out | exact HB.out) hb); have n1_ := Aside0.mk (hbox); have n2_ := Aside0.mk ((by rw [hg]; exact (below_size (by first | exact Grow.bl HB.out | exact HB.out)) : w.heap.size ≤ gb147)); have n3_ := Aside0.mk ((by rw [hg]; exact (below_size (by first | exact Grow.bl HB.out | exact HB.out)) : w.heap.size ≤ gb147)); clear HB; have HB := n0_; have BK147 := n1_; have GW147 := n2_; have GE147 := n3_; clear n0_ n1_ n2_ n3_; clear hb hbox hg; have hcz20_0 : w19.cell? ⟨gb147, 0, none⟩ = some (.int .i64 0) := (blk_cell BK147.out 0).trans rfl; have hcz20_1 : w19.cell? ⟨gb147, 1, none⟩ = some (.slice none 0 0) := (blk_cell BK147.out 1).trans rfl; have hcz20_2 : w19.cell? ⟨gb147, 2, none⟩ = some (.slice none 0 0) := (blk_cell BK147.out 2).trans rfl; have hcz20_3 : w19.cell? ⟨gb147, 3, none⟩ = some (.slice none 0 0) := (blk_cell BK147.out 3).trans rfl; have hcz20_4 : w19.cell? ⟨gb147, 4, none⟩ = some (.slice none 0 0) := (blk_cell BK147.out 4).trans rfl; have hfz20_0 := blk_frozen BK147.out 0; have hfz20_1 := blk_frozen BK147.out 1; have hfz20_2 := blk_frozen BK147.out 2; have hfz20_3 := blk_frozen BK147.out 3; have hfz20_4 := blk_frozen BK147.out 4))
   have pi151 : (0 ≤ (((rd_T58 l0 x4_1).f0) : Int)) = True := eq_true (of_decide_eq_true (by first | (with_reducible assumption) | assumption))
   have qi151 : (((rd_T58 l0 x4_1).f0) < (y148.length : Int)) = True := eq_true (of_decide_eq_true (by first | (with_reducible assumption) | assumption))
   have n0_ : Aside0 ((((((w19.setCell ⟨gb147, 0, none⟩ (.int .i64 ((rd_T58 l0 x4_1).f0))).setCell ⟨gb147, 1, none⟩ (.slice A146_1 ((rd_T58 l0 x4_1).f1).length c146_1)).setCell ⟨gb147, 2, none⟩ (.slice A146_2 ((rd_T58 l0 x4_1).f2).length c146_2)).setCell ⟨gb147, 3, none⟩ (.slice A146_3 ((rd_T58 l0 x4_1).f3).length c146_3)).setCell ⟨gb147, 4, none⟩ (.slice A146_4 ((rd_T58 l0 x4_1).f4).length c146_4)).heap[gb147]? = some (.cells #[.int .i64 ((rd_T58 l0 x4_1).f0), .slice A146_1 ((rd_T58 l0 x4_1).f1).length c146_1, .slice A146_2 ((rd_T58 l0 x4_1).f2).length c146_2, .slice A146_3 ((rd_T58 l0 x4_1).f3).length c146_3, .slice A146_4 ((rd_T58 l0 x4_1).f4).length c146_4] 58 (0, 0))) := ⟨by (with_reducible repeat (first | refine blk_drewN ?_ _ | refine blk_drew ?_ | refine blk_alloc ?_ _)); refine blk_put (cs := #[.int .i64 ((rd_T58 l0 x4_1).f0), .slice A146_1 ((rd_T58 l0 x4_1).f1).length c146_1, .slice A146_2 ((rd_T58 l0 x4_1).f2).length c146_2, .slice A146_3 ((rd_T58 l0 x4_1).f3).length c146_3, .slice none 0 0]) ?_ 4 _ rfl; (with_reducible repeat (first | refine blk_drewN ?_ _ | refine blk_drew ?_ | refine blk_alloc ?_ _)); refine blk_put (cs := #[.int .i64 ((rd_T58 l0 x4_1).f0), .slice A146_1 ((rd_T58 l0 x4_1).f1).length c146_1, .slice A146_2 ((rd_T58 l0 x4_1).f2).length c146_2, .slice none 0 0, .slice none 0 0]) ?_ 3 _ rfl; (with_reducible repeat (first | refine blk_drewN ?_ _ | refine blk_drew ?_ | refine blk_alloc ?_ _)); refine blk_put (cs := #[.int .i64 ((rd_T58 l0 x4_1).f0), .slice A146_1 ((rd_T58 l0 x4_1).f1).length c146_1, .slice none 0 0, .slice none 0 0, .slice none 0 0]) ?_ 2 _ rfl; (with_reducible repeat (first | refine blk_drewN ?_ _ | refine blk_drew ?_ | refine blk_alloc ?_ _)); refine blk_put (cs := #[.int .i64 ((rd_T58 l0 x4_1).f0), .slice none 0 0, .slice none 0 0, .slice none 0 0, .slice none 0 0]) ?_ 1 _ rfl; (with_reducible repeat (first | refine blk_drewN ?_ _ | refine blk_drew ?_ | refine blk_alloc ?_ _)); refine blk_put (cs := #[.int .i64 0, .slice none 0 0, .slice none 0 0, .slice none 0 0, .slice none 0 0]) ?_ 0 _ rfl; (with_reducible repeat (first | refine blk_drewN ?_ _ | refine blk_drew ?_ | refine blk_alloc ?_ _)); exact BK147.out⟩
   have n1_ : Aside0 (Below w.heap.size w (((((w19.setCell ⟨gb147, 0, none⟩ (.int .i64 ((rd_T58 l0 x4_1).f0))).setCell ⟨gb147, 1, none⟩ (.slice A146_1 ((rd_T58 l0 x4_1).f1).length c146_1)).setCell ⟨gb147, 2, none⟩ (.slice A146_2 ((rd_T58 l0 x4_1).f2).length c146_2)).setCell ⟨gb147, 3, none⟩ (.slice A146_3 ((rd_T58 l0 x4_1).f3).length c146_3)).setCell ⟨gb147, 4, none⟩ (.slice A146_4 ((rd_T58 l0 x4_1).f4).length c146_4))) := ⟨by repeat (first | (with_reducible first | exact HB.out | apply below_alloc | apply pw_below_drewN | apply below_drew1 | refine below_set ?_ GE147.out) | exact HB.out)⟩
   (try clear BK147)
   (try clear HB)
   generalize (((((w19.setCell ⟨gb147, 0, none⟩ (.int .i64 ((rd_T58 l0 x4_1).f0))).setCell ⟨gb147, 1, none⟩ (.slice A146_1 ((rd_T58 l0 x4_1).f1).length c146_1)).setCell ⟨gb147, 2, none⟩ (.slice A146_2 ((rd_T58 l0 x4_1).f2).length c146_2)).setCell ⟨gb147, 3, none⟩ (.slice A146_3 ((rd_T58 l0 x4_1).f3).length c146_3)).setCell ⟨gb147, 4, none⟩ (.slice A146_4 ((rd_T58 l0 x4_1).f4).length c146_4)) = w21 at n0_ n1_ ⊢
   have BK147 := n0_
   have HB := n1_
   clear n0_ n1_
   have n0_ := Aside0.mk (blk_drew BK147.out)
   have n1_ := Aside0.mk (below_drew1 HB.out)
   clear BK147
   clear HB
   have BK147 := n0_
   have HB := n1_
   clear n0_ n1_
   refine start_ (n := 23) (S := fun w' => w'.cell? ⟨gb147, 0, none⟩ = some (.int .i64 ((rd_T58 l0 x4_1).f0)) ∧ w'.cell? ⟨gb147, 1, none⟩ = some (.slice A146_1 ((rd_T58 l0 x4_1).f1).length c146_1) ∧ w'.cell? ⟨gb147, 2, none⟩ = some (.slice A146_2 ((rd_T58 l0 x4_1).f2).length c146_2) ∧ w'.cell? ⟨gb147, 3, none⟩ = some (.slice A146_3 ((rd_T58 l0 x4_1).f3).length c146_3) ∧ w'.cell? ⟨gb147, 4, none⟩ = some (.slice A146_4 ((rd_T58 l0 x4_1).f4).length c146_4)) (ds := []) zf25 (by kernel_rfl) rfl rfl ⟨(blk_cell BK147.out 0).trans rfl, (blk_cell BK147.out 1).trans rfl, (blk_cell BK147.out 2).trans rfl, (blk_cell BK147.out 3).trans rfl, (blk_cell BK147.out 4).trans rfl⟩ (fun hHeld => ?_); refine with_tabW spec_WritePolicy.tab8 spec_WritePolicy.bits8 (fun HT_ HW_ => ?_)
   generalize w21.drew = w22 at BK147 HB hHeld ⊢
   refine Cap.pu (v := ?_) (a' := ?_) 0 (some 21) zf26 HT_ rfl rfl (by kernel_rfl) (fun _ _ _ h => h) (Or.inl ⟨by rfl, ?_⟩) ?_ ?_; rotate_left; intro w'; go_simp; with_reducible rfl; rotate_left; simp only [Cap.pz]; rfl
   refine Cap.pu (v := ?_) (a' := ?_) 2 (some 23) zf27 HT_ rfl rfl (by kernel_rfl) (fun _ _ _ h => h) (Or.inl ⟨by rfl, ?_⟩) ?_ ?_; rotate_left; intro w'; go_simp; with_reducible rfl; rotate_left; simp only [Cap.pz]; rfl
   refine Cap.pu (v := ?_) (a' := ?_) 8 (some 29) zf28 HT_ rfl rfl (by kernel_rfl) (fun _ _ _ h => h) (Or.inl ⟨by rfl, ?_⟩) ?_ ?_; rotate_left; intro w'; go_simp; with_reducible rfl; rotate_left; simp only [Cap.pz]; rfl
   refine Cap.pu (v := ?_) (a' := ?_) 13 (some 34) zf29 HT_ rfl rfl (by kernel_rfl) (fun _ _ _ h => h) (Or.inl ⟨by rfl, ?_⟩) ?_ ?_; rotate_left; intro w'; go_simp; with_reducible rfl; rotate_left; simp only [Cap.pz]; rfl
   refine Cap.pu (v := ?_) (a' := ?_) 18 (some 39) zf30 HT_ rfl rfl (by kernel_rfl) (fun _ _ _ h => h) (Or.inl ⟨by rfl, ?_⟩) ?_ ?_; rotate_left; intro w'; go_simp; with_reducible rfl; rotate_left; simp only [Cap.pz]; rfl
   refine take_ (i := 3) (N := some 24) (v := ?_) (a' := ?_) zf31 rfl rfl (take_ofW HT_.out HW_.out (by kernel_rfl)) (fun _ _ _ h => h) (Or.inl ⟨by rfl, ?_⟩) hHeld ?_ ?_; rotate_left; rintro w' ⟨s0, s1, s2, s3, s4⟩; go_simp; with_reducible rfl; rotate_left; simp only [Cap.pz]; rfl
   refine take_ (i := 9) (N := some 30) (v := ?_) (a' := ?_) zf32 rfl rfl (take_ofW HT_.out HW_.out (by kernel_rfl)) (fun _ _ _ h => h) (Or.inl ⟨by rfl, ?_⟩) hHeld ?_ ?_; rotate_left; rintro w' ⟨s0, s1, s2, s3, s4⟩; go_simp; with_reducible rfl; rotate_left; simp only [Cap.pz]; rfl
   refine take_ (i := 14) (N := some 35) (v := ?_) (a' := ?_) zf33 rfl rfl (take_ofW HT_.out HW_.out (by kernel_rfl)) (fun _ _ _ h => h) (Or.inl ⟨by rfl, ?_⟩) hHeld ?_ ?_; rotate_left; rintro w' ⟨s0, s1, s2, s3, s4⟩; go_simp; with_reducible rfl; rotate_left; simp only [Cap.pz]; rfl
   refine take_ (i := 19) (N := some 40) (v := ?_) (a' := ?_) zf34 rfl rfl (take_ofW HT_.out HW_.out (by kernel_rfl)) (fun _ _ _ h => h) (Or.inl ⟨by rfl, ?_⟩) hHeld ?_ ?_; rotate_left; rintro w' ⟨s0, s1, s2, s3, s4⟩; go_simp; with_reducible rfl; rotate_left; simp only [Cap.pz]; rfl
   refine join_ (σ := Value × Addr) 2 zf35 (fun s_ => [(22, s_.1), (26, .string (rdOf ByteArray.empty y148 ((rd_T58 l0 x4_1).f0))), (31, .string t152), (36, .string t153), (41, .string t154), (25, .pointer (some (s_.2.add (((rd_T58 l0 x4_1).f0)).toNat))), (27, .string (x3_1 ++ (rdOf ByteArray.empty y148 ((rd_T58 l0 x4_1).f0)))), (28, .string ((x3_1 ++ (rdOf ByteArray.empty y148 ((rd_T58 l0 x4_1).f0))) ++ (⟨#[32, 119, 104, 111, 32]⟩ : ByteArray))), (32, .string (((x3_1 ++ (rdOf ByteArray.empty y148 ((rd_T58 l0 x4_1).f0))) ++ (⟨#[32, 119, 104, 111, 32]⟩ : ByteArray)) ++ t152)), (33, .string ((((x3_1 ++ (rdOf ByteArray.empty y148 ((rd_T58 l0 x4_1).f0))) ++ (⟨#[32, 119, 104, 111, 32]⟩ : ByteArray)) ++ t152) ++ (⟨#[32, 100, 111, 32]⟩ : ByteArray))), (37, .string (((((x3_1 ++ (rdOf ByteArray.empty y148 ((rd_T58 l0 x4_1).f0))) ++ (⟨#[32, 119, 104, 111, 32]⟩ : ByteArray)) ++ t152) ++ (⟨#[32, 100, 111, 32]⟩ : ByteArray)) ++ t153)), (38, .string ((((((x3_1 ++ (rdOf ByteArray.empty y148 ((rd_T58 l0 x4_1).f0))) ++ (⟨#[32, 119, 104, 111, 32]⟩ : ByteArray)) ++ t152) ++ (⟨#[32, 100, 111, 32]⟩ : ByteArray)) ++ t153) ++ (⟨#[32, 111, 110, 32]⟩ : ByteArray)))]) (fun s_ w' => (w'.cell? ⟨gb147, 0, none⟩ = some (.int .i64 ((rd_T58 l0 x4_1).f0)) ∧ w'.cell? ⟨gb147, 1, none⟩ = some (.slice A146_1 ((rd_T58 l0 x4_1).f1).length c146_1) ∧ w'.cell? ⟨gb147, 2, none⟩ = some (.slice A146_2 ((rd_T58 l0 x4_1).f2).length c146_2) ∧ w'.cell? ⟨gb147, 3, none⟩ = some (.slice A146_3 ((rd_T58 l0 x4_1).f3).length c146_3) ∧ w'.cell? ⟨gb147, 4, none⟩ = some (.slice A146_4 ((rd_T58 l0 x4_1).f4).length c146_4)) ∧ (Kd.R Kd.string 9 w' w.heap.size (fun _ => True) s_.1 y148) ∧ (∃ c_, (s_.1 : Value) = .slice (some s_.2) y148.length c_) ∧ (w'.heap[gb147]? = some (.cells #[.int .i64 ((rd_T58 l0 x4_1).f0), .slice A146_1 ((rd_T58 l0 x4_1).f1).length c146_1, .slice A146_2 ((rd_T58 l0 x4_1).f2).length c146_2, .slice A146_3 ((rd_T58 l0 x4_1).f3).length c146_3, .slice A146_4 ((rd_T58 l0 x4_1).f4).length c146_4] 58 (0, 0))) ∧ (Below w.heap.size w w')) ?_ ?_
   rotate_left
   ·
    intro hJ1_5_10_15_20
    refine join_ (σ := Value × Addr) 3 zf36 (fun s_ => [(22, s_.1), (26, .string (rdOf ByteArray.empty y148 ((rd_T58 l0 x4_1).f0))), (31, .string t152), (36, .string t153), (25, .pointer (some (s_.2.add (((rd_T58 l0 x4_1).f0)).toNat))), (27, .string (x3_1 ++ (rdOf ByteArray.empty y148 ((rd_T58 l0 x4_1).f0)))), (28, .string ((x3_1 ++ (rdOf ByteArray.empty y148 ((rd_T58 l0 x4_1).f0))) ++ (⟨#[32, 119, 104, 111, 32]⟩ : ByteArray))), (32, .string (((x3_1 ++ (rdOf ByteArray.empty y148 ((rd_T58 l0 x4_1).f0))) ++ (⟨#[32, 119, 104, 111, 32]⟩ : ByteArray)) ++ t152)), (33, .string ((((x3_1 ++ (rdOf ByteArray.empty y148 ((rd_T58 l0 x4_1).f0))) ++ (⟨#[32, 119, 104, 111, 32]⟩ : ByteArray)) ++ t152) ++ (⟨#[32, 100, 111, 32]⟩ : ByteArray))), (37, .string (((((x3_1 ++ (rdOf ByteArray.empty y148 ((rd_T58 l0 x4_1).f0))) ++ (⟨#[32, 119, 104, 111, 32]⟩ : ByteArray)) ++ t152) ++ (⟨#[32, 100, 111, 32]⟩ : ByteArray)) ++ t153)), (38, .string ((((((x3_1 ++ (rdOf ByteArray.empty y148 ((rd_T58 l0 x4_1).f0))) ++ (⟨#[32, 119, 104, 111, 32]⟩ : ByteArray)) ++ t152) ++ (⟨#[32, 100, 111, 32]⟩ : ByteArray)) ++ t153) ++ (⟨#[32, 111, 110, 32]⟩ : ByteArray)))]) (fun s_ w' => (w'.cell? ⟨gb147, 0, none⟩ = some (.int .i64 ((rd_T58 l0 x4_1).f0)) ∧ w'.cell? ⟨gb147, 1, none⟩ = some (.slice A146_1 ((rd_T58 l0 x4_1).f1).length c146_1) ∧ w'.cell? ⟨gb147, 2, none⟩ = some (.slice A146_2 ((rd_T58 l0 x4_1).f2).length c146_2) ∧ w'.cell? ⟨gb147, 3, none⟩ = some (.slice A146_3 ((rd_T58 l0 x4_1).f3).length c146_3) ∧ w'.cell? ⟨gb147, 4, none⟩ = some (.slice A146_4 ((rd_T58 l0 x4_1).f4).length c146_4)) ∧ (Kd.R Kd.string 9 w' w.heap.size (fun _ => True) s_.1 y148) ∧ (∃ c_, (s_.1 : Value) = .slice (some s_.2) y148.length c_) ∧ (w'.heap[gb147]? = some (.cells #[.int .i64 ((rd_T58 l0 x4_1).f0), .slice A146_1 ((rd_T58 l0 x4_1).f1).length c146_1, .slice A146_2 ((rd_T58 l0 x4_1).f2).length c146_2, .slice A146_3 ((rd_T58 l0 x4_1).f3).length c146_3, .slice A146_4 ((rd_T58 l0 x4_1).f4).length c146_4] 58 (0, 0))) ∧ (Below w.heap.size w w')) ?_ ?_
    rotate_left
    ·
     intro hJ1_5_10_15
     refine join_ (σ := Value × Addr) 9 zf37 (fun s_ => [(22, s_.1), (31, .string t152), (36, .string t153), (41, .string t154), (25, .pointer (some (s_.2.add (((rd_T58 l0 x4_1).f0)).toNat)))]) (fun s_ w' => (w'.cell? ⟨gb147, 0, none⟩ = some (.int .i64 ((rd_T58 l0 x4_1).f0)) ∧ w'.cell? ⟨gb147, 1, none⟩ = some (.slice A146_1 ((rd_T58 l0 x4_1).f1).length c146_1) ∧ w'.cell? ⟨gb147, 2, none⟩ = some (.slice A146_2 ((rd_T58 l0 x4_1).f2).length c146_2) ∧ w'.cell? ⟨gb147, 3, none⟩ = some (.slice A146_3 ((rd_T58 l0 x4_1).f3).length c146_3) ∧ w'.cell? ⟨gb147, 4, none⟩ = some (.slice A146_4 ((rd_T58 l0 x4_1).f4).length c146_4)) ∧ (Kd.R Kd.string 9 w' w.heap.size (fun _ => True) s_.1 y148) ∧ (∃ c_, (s_.1 : Value) = .slice (some s_.2) y148.length c_) ∧ (w'.heap[gb147]? = some (.cells #[.int .i64 ((rd_T58 l0 x4_1).f0), .slice A146_1 ((rd_T58 l0 x4_1).f1).length c146_1, .slice A146_2 ((rd_T58 l0 x4_1).f2).length c146_2, .slice A146_3 ((rd_T58 l0 x4_1).f3).length c146_3, .slice A146_4 ((rd_T58 l0 x4_1).f4).length c146_4] 58 (0, 0))) ∧ (Below w.heap.size w w')) ?_ ?_
     rotate_left
     ·
      intro hJ1_10_15_20
      refine join_ (σ := Value × Addr) 6 zf38 (fun s_ => [(22, s_.1), (26, .string (rdOf ByteArray.empty y148 ((rd_T58 l0 x4_1).f0))), (31, .string t152), (25, .pointer (some (s_.2.add (((rd_T58 l0 x4_1).f0)).toNat))), (27, .string (x3_1 ++ (rdOf ByteArray.empty y148 ((rd_T58 l0 x4_1).f0)))), (28, .string ((x3_1 ++ (rdOf ByteArray.empty y148 ((rd_T58 l0 x4_1).f0))) ++ (⟨#[32, 119, 104, 111, 32]⟩ : ByteArray))), (32, .string (((x3_1 ++ (rdOf ByteArray.empty y148 ((rd_T58 l0 x4_1).f0))) ++ (⟨#[32, 119, 104, 111, 32]⟩ : ByteArray)) ++ t152)), (33, .string ((((x3_1 ++ (rdOf ByteArray.empty y148 ((rd_T58 l0 x4_1).f0))) ++ (⟨#[32, 119, 104, 111, 32]⟩ : ByteArray)) ++ t152) ++ (⟨#[32, 100, 111, 32]⟩ : ByteArray)))]) (fun s_ w' => (w'.cell? ⟨gb147, 0, none⟩ = some (.int .i64 ((rd_T58 l0 x4_1).f0)) ∧ w'.cell? ⟨gb147, 1, none⟩ = some (.slice A146_1 ((rd_T58 l0 x4_1).f1).length c146_1) ∧ w'.cell? ⟨gb147, 2, none⟩ = some (.slice A146_2 ((rd_T58 l0 x4_1).f2).length c146_2) ∧ w'.cell? ⟨gb147, 3, none⟩ = some (.slice A146_3 ((rd_T58 l0 x4_1).f3).length c146_3) ∧ w'.cell? ⟨gb147, 4, none⟩ = some (.slice A146_4 ((rd_T58 l0 x4_1).f4).length c146_4)) ∧ (Kd.R Kd.string 9 w' w.heap.size (fun _ => True) s_.1 y148) ∧ (∃ c_, (s_.1 : Value) = .slice (some s_.2) y148.length c_) ∧ (w'.heap[gb147]? = some (.cells #[.int .i64 ((rd_T58 l0 x4_1).f0), .slice A146_1 ((rd_T58 l0 x4_1).f1).length c146_1, .slice A146_2 ((rd_T58 l0 x4_1).f2).length c146_2, .slice A146_3 ((rd_T58 l0 x4_1).f3).length c146_3, .slice A146_4 ((rd_T58 l0 x4_1).f4).length c146_4] 58 (0, 0))) ∧ (Below w.heap.size w w')) ?_ ?_
      rotate_left
      ·
       intro hJ1_5_10
       refine join_ (σ := Value × Addr) 10 zf39 (fun s_ => [(22, s_.1), (31, .string t152), (36, .string t153), (25, .pointer (some (s_.2.add (((rd_T58 l0 x4_1).f0)).toNat)))]) (fun s_ w' => (w'.cell? ⟨gb147, 0, none⟩ = some (.int .i64 ((rd_T58 l0 x4_1).f0)) ∧ w'.cell? ⟨gb147, 1, none⟩ = some (.slice A146_1 ((rd_T58 l0 x4_1).f1).length c146_1) ∧ w'.cell? ⟨gb147, 2, none⟩ = some (.slice A146_2 ((rd_T58 l0 x4_1).f2).length c146_2) ∧ w'.cell? ⟨gb147, 3, none⟩ = some (.slice A146_3 ((rd_T58 l0 x4_1).f3).length c146_3) ∧ w'.cell? ⟨gb147, 4, none⟩ = some (.slice A146_4 ((rd_T58 l0 x4_1).f4).length c146_4)) ∧ (Kd.R Kd.string 9 w' w.heap.size (fun _ => True) s_.1 y148) ∧ (∃ c_, (s_.1 : Value) = .slice (some s_.2) y148.length c_) ∧ (w'.heap[gb147]? = some (.cells #[.int .i64 ((rd_T58 l0 x4_1).f0), .slice A146_1 ((rd_T58 l0 x4_1).f1).length c146_1, .slice A146_2 ((rd_T58 l0 x4_1).f2).length c146_2, .slice A146_3 ((rd_T58 l0 x4_1).f3).length c146_3, .slice A146_4 ((rd_T58 l0 x4_1).f4).length c146_4] 58 (0, 0))) ∧ (Below w.heap.size w w')) ?_ ?_
       rotate_left
       ·
        intro hJ1_10_15
        refine join_ (σ := Unit) 11 zf40 (fun s_ => [(31, .string t152), (36, .string t153), (41, .string t154)]) (fun s_ w' => (w'.cell? ⟨gb147, 0, none⟩ = some (.int .i64 ((rd_T58 l0 x4_1).f0)) ∧ w'.cell? ⟨gb147, 1, none⟩ = some (.slice A146_1 ((rd_T58 l0 x4_1).f1).length c146_1) ∧ w'.cell? ⟨gb147, 2, none⟩ = some (.slice A146_2 ((rd_T58 l0 x4_1).f2).length c146_2) ∧ w'.cell? ⟨gb147, 3, none⟩ = some (.slice A146_3 ((rd_T58 l0 x4_1).f3).length c146_3) ∧ w'.cell? ⟨gb147, 4, none⟩ = some (.slice A146_4 ((rd_T58 l0 x4_1).f4).length c146_4)) ∧ (w'.heap[gb147]? = some (.cells #[.int .i64 ((rd_T58 l0 x4_1).f0), .slice A146_1 ((rd_T58 l0 x4_1).f1).length c146_1, .slice A146_2 ((rd_T58 l0 x4_1).f2).length c146_2, .slice A146_3 ((rd_T58 l0 x4_1).f3).length c146_3, .slice A146_4 ((rd_T58 l0 x4_1).f4).length c146_4] 58 (0, 0))) ∧ (Below w.heap.size w w')) ?_ ?_
        rotate_left
        ·
         intro hJ10_15_20
         refine join_ (σ := Value × Addr) 9 zf41 (fun s_ => [(22, s_.1), (26, .string (rdOf ByteArray.empty y148 ((rd_T58 l0 x4_1).f0))), (25, .pointer (some (s_.2.add (((rd_T58 l0 x4_1).f0)).toNat))), (27, .string (x3_1 ++ (rdOf ByteArray.empty y148 ((rd_T58 l0 x4_1).f0)))), (28, .string ((x3_1 ++ (rdOf ByteArray.empty y148 ((rd_T58 l0 x4_1).f0))) ++ (⟨#[32, 119, 104, 111, 32]⟩ : ByteArray)))]) (fun s_ w' => (w'.cell? ⟨gb147, 0, none⟩ = some (.int .i64 ((rd_T58 l0 x4_1).f0)) ∧ w'.cell? ⟨gb147, 1, none⟩ = some (.slice A146_1 ((rd_T58 l0 x4_1).f1).length c146_1) ∧ w'.cell? ⟨gb147, 2, none⟩ = some (.slice A146_2 ((rd_T58 l0 x4_1).f2).length c146_2) ∧ w'.cell? ⟨gb147, 3, none⟩ = some (.slice A146_3 ((rd_T58 l0 x4_1).f3).length c146_3) ∧ w'.cell? ⟨gb147, 4, none⟩ = some (.slice A146_4 ((rd_T58 l0 x4_1).f4).length c146_4)) ∧ (Kd.R Kd.string 9 w' w.heap.size (fun _ => True) s_.1 y148) ∧ (∃ c_, (s_.1 : Value) = .slice (some s_.2) y148.length c_) ∧ (w'.heap[gb147]? = some (.cells #[.int .i64 ((rd_T58 l0 x4_1).f0), .slice A146_1 ((rd_T58 l0 x4_1).f1).length c146_1, .slice A146_2 ((rd_T58 l0 x4_1).f2).length c146_2, .slice A146_3 ((rd_T58 l0 x4_1).f3).length c146_3, .slice A146_4 ((rd_T58 l0 x4_1).f4).length c146_4] 58 (0, 0))) ∧ (Below w.heap.size w w')) ?_ ?_
         rotate_left
         ·
          intro hJ1_5
          refine join_ (σ := Value × Addr) 11 zf42 (fun s_ => [(22, s_.1), (31, .string t152), (25, .pointer (some (s_.2.add (((rd_T58 l0 x4_1).f0)).toNat)))]) (fun s_ w' => (w'.cell? ⟨gb147, 0, none⟩ = some (.int .i64 ((rd_T58 l0 x4_1).f0)) ∧ w'.cell? ⟨gb147, 1, none⟩ = some (.slice A146_1 ((rd_T58 l0 x4_1).f1).length c146_1) ∧ w'.cell? ⟨gb147, 2, none⟩ = some (.slice A146_2 ((rd_T58 l0 x4_1).f2).length c146_2) ∧ w'.cell? ⟨gb147, 3, none⟩ = some (.slice A146_3 ((rd_T58 l0 x4_1).f3).length c146_3) ∧ w'.cell? ⟨gb147, 4, none⟩ = some (.slice A146_4 ((rd_T58 l0 x4_1).f4).length c146_4)) ∧ (Kd.R Kd.string 9 w' w.heap.size (fun _ => True) s_.1 y148) ∧ (∃ c_, (s_.1 : Value) = .slice (some s_.2) y148.length c_) ∧ (w'.heap[gb147]? = some (.cells #[.int .i64 ((rd_T58 l0 x4_1).f0), .slice A146_1 ((rd_T58 l0 x4_1).f1).length c146_1, .slice A146_2 ((rd_T58 l0 x4_1).f2).length c146_2, .slice A146_3 ((rd_T58 l0 x4_1).f3).length c146_3, .slice A146_4 ((rd_T58 l0 x4_1).f4).length c146_4] 58 (0, 0))) ∧ (Below w.heap.size w w')) ?_ ?_
          rotate_left
          ·
           intro hJ1_10
           refine join_ (σ := Unit) 12 zf43 (fun s_ => [(31, .string t152), (36, .string t153)]) (fun s_ w' => (w'.cell? ⟨gb147, 0, none⟩ = some (.int .i64 ((rd_T58 l0 x4_1).f0)) ∧ w'.cell? ⟨gb147, 1, none⟩ = some (.slice A146_1 ((rd_T58 l0 x4_1).f1).length c146_1) ∧ w'.cell? ⟨gb147, 2, none⟩ = some (.slice A146_2 ((rd_T58 l0 x4_1).f2).length c146_2) ∧ w'.cell? ⟨gb147, 3, none⟩ = some (.slice A146_3 ((rd_T58 l0 x4_1).f3).length c146_3) ∧ w'.cell? ⟨gb147, 4, none⟩ = some (.slice A146_4 ((rd_T58 l0 x4_1).f4).length c146_4)) ∧ (w'.heap[gb147]? = some (.cells #[.int .i64 ((rd_T58 l0 x4_1).f0), .slice A146_1 ((rd_T58 l0 x4_1).f1).length c146_1, .slice A146_2 ((rd_T58 l0 x4_1).f2).length c146_2, .slice A146_3 ((rd_T58 l0 x4_1).f3).length c146_3, .slice A146_4 ((rd_T58 l0 x4_1).f4).length c146_4] 58 (0, 0))) ∧ (Below w.heap.size w w')) ?_ ?_
           rotate_left
           ·
            intro hJ10_15
            refine join_ (σ := Value × Addr) 12 zf44 (fun s_ => [(22, s_.1), (25, .pointer (some (s_.2.add (((rd_T58 l0 x4_1).f0)).toNat)))]) (fun s_ w' => (w'.cell? ⟨gb147, 0, none⟩ = some (.int .i64 ((rd_T58 l0 x4_1).f0)) ∧ w'.cell? ⟨gb147, 1, none⟩ = some (.slice A146_1 ((rd_T58 l0 x4_1).f1).length c146_1) ∧ w'.cell? ⟨gb147, 2, none⟩ = some (.slice A146_2 ((rd_T58 l0 x4_1).f2).length c146_2) ∧ w'.cell? ⟨gb147, 3, none⟩ = some (.slice A146_3 ((rd_T58 l0 x4_1).f3).length c146_3) ∧ w'.cell? ⟨gb147, 4, none⟩ = some (.slice A146_4 ((rd_T58 l0 x4_1).f4).length c146_4)) ∧ (Kd.R Kd.string 9 w' w.heap.size (fun _ => True) s_.1 y148) ∧ (∃ c_, (s_.1 : Value) = .slice (some s_.2) y148.length c_) ∧ (w'.heap[gb147]? = some (.cells #[.int .i64 ((rd_T58 l0 x4_1).f0), .slice A146_1 ((rd_T58 l0 x4_1).f1).length c146_1, .slice A146_2 ((rd_T58 l0 x4_1).f2).length c146_2, .slice A146_3 ((rd_T58 l0 x4_1).f3).length c146_3, .slice A146_4 ((rd_T58 l0 x4_1).f4).length c146_4] 58 (0, 0))) ∧ (Below w.heap.size w w')) ?_ ?_
            rotate_left
            ·
             intro hJ1
             refine join_ (σ := Unit) 13 zf45 (fun s_ => [(31, .string t152)]) (fun s_ w' => (w'.cell? ⟨gb147, 0, none⟩ = some (.int .i64 ((rd_T58 l0 x4_1).f0)) ∧ w'.cell? ⟨gb147, 1, none⟩ = some (.slice A146_1 ((rd_T58 l0 x4_1).f1).length c146_1) ∧ w'.cell? ⟨gb147, 2, none⟩ = some (.slice A146_2 ((rd_T58 l0 x4_1).f2).length c146_2) ∧ w'.cell? ⟨gb147, 3, none⟩ = some (.slice A146_3 ((rd_T58 l0 x4_1).f3).length c146_3) ∧ w'.cell? ⟨gb147, 4, none⟩ = some (.slice A146_4 ((rd_T58 l0 x4_1).f4).length c146_4)) ∧ (w'.heap[gb147]? = some (.cells #[.int .i64 ((rd_T58 l0 x4_1).f0), .slice A146_1 ((rd_T58 l0 x4_1).f1).length c146_1, .slice A146_2 ((rd_T58 l0 x4_1).f2).length c146_2, .slice A146_3 ((rd_T58 l0 x4_1).f3).length c146_3, .slice A146_4 ((rd_T58 l0 x4_1).f4).length c146_4] 58 (0, 0))) ∧ (Below w.heap.size w w')) ?_ ?_
             rotate_left
             ·
              intro hJ10
              refine two_ (i := 1) (j := 10) (Ni := some 22) (Nj := some 31) zf46 zf45 rfl rfl rfl rfl (two_of HT_.out (by kernel_rfl)) (by decide) (by decide) (fun K hK => ?_) (fun K hK => ?_)
              ·
               skip
               refine Kd.R_lit_step Kd.string _ 9 ?hg (N := 22) ?hd (xs := ([(⟨#[]⟩ : ByteArray), (⟨#[97, 108, 108, 111, 119]⟩ : ByteArray), (⟨#[100, 101, 110, 121]⟩ : ByteArray)] : List ByteArray)) (inner := [.string (⟨#[]⟩ : ByteArray), .string (⟨#[97, 108, 108, 111, 119]⟩ : ByteArray), .string (⟨#[100, 101, 110, 121]⟩ : ByteArray)]) (ok := fun _ => True) (okp := fun _ => True) ?hr ?hp (fun _ hk => hk) trivial (Below.refl _ _) (Nat.le_refl _) (by simp) ?_; (case hd => rfl); (case hg => rfl); (case hr => first | (go_simp; done) | (go_simp; rfl)); (case hp => exact (Reps.one (show Kd.M Kd.string _ _ _ (⟨#[]⟩ : ByteArray) [.string (⟨#[]⟩ : ByteArray)] from rfl) (Reps.one (show Kd.M Kd.string _ _ _ (⟨#[97, 108, 108, 111, 119]⟩ : ByteArray) [.string (⟨#[97, 108, 108, 111, 119]⟩ : ByteArray)] from rfl) (Reps.one (show Kd.M Kd.string _ _ _ (⟨#[100, 101, 110, 121]⟩ : ByteArray) [.string (⟨#[100, 101, 110, 121]⟩ : ByteArray)] from rfl) (Reps.none _ _)))))
               intro v149 w23 ho24 hb hg_ hnew_
               clear hg_ hnew_
               (first | rw [← Ny148.out] at ho24 | (simp only [Int.reduceToNat] at ho24; rw [← Ny148.out] at ho24))
               have n0_ := Aside0.mk (Kd.R_lower ho24 (below_size (by repeat (first | (with_reducible first | exact HB.out | apply below_alloc | apply pw_below_drewN | apply below_drew1 | refine below_set ?_ GE147.out) | exact HB.out))))
               have n1_ := Aside0.mk (blk_below (g := gb147) (o := .cells #[.int .i64 ((rd_T58 l0 x4_1).f0), .slice A146_1 ((rd_T58 l0 x4_1).f1).length c146_1, .slice A146_2 ((rd_T58 l0 x4_1).f2).length c146_2, .slice A146_3 ((rd_T58 l0 x4_1).f3).length c146_3, .slice A146_4 ((rd_T58 l0 x4_1).f4).length c146_4] 58 (0, 0)) (by first | exact Grow.bk BK147.out | exact BK147.out) hb)
               have n2_ := Aside0.mk (below_step (by repeat (first | (with_reducible first | exact HB.out | apply below_alloc | apply pw_below_drewN | apply below_drew1 | refine below_set ?_ GE147.out) | exact HB.out)) hb)
               clear BK147
               clear HB
               have HO150 := n0_
               have BK147 := n1_
               have HB := n2_
               clear n0_ n1_ n2_
               clear hb ho24
               obtain ⟨Ao25, co25, eo25⟩ := Kd.R_slice HO150.out
               subst eo25
               obtain ⟨ado25, fo25, _⟩ := Kd.at_string (Kd.R_reads' HO150.out).2.2 0 (by decide) (by rw [Ny148.out]; simp)
               cases fo25
               refine hK.out _ _ ⟨(blk_cell BK147.out 0).trans rfl, (blk_cell BK147.out 1).trans rfl, (blk_cell BK147.out 2).trans rfl, (blk_cell BK147.out 3).trans rfl, (blk_cell BK147.out 4).trans rfl⟩ (fun hHeld => ?_)
               clear hK K
               refine norm_ (a' := ?_) ?_ ?_; rotate_left; show Act.put _ (some 22) _ = _; simp only [Cap.pz]; rfl
               refine Cap.pu (v := ?_) (a' := ?_) 4 (some 25) zf44 HT_ rfl rfl (by kernel_rfl) (fun _ _ _ h => h) (Or.inl ⟨by rfl, ?_⟩) ?_ ?_; rotate_left; intro w'; go_simp; with_reducible rfl; rotate_left; simp only [Cap.pz]; rfl
               exact norm_ (by first | (simp only [putAll, Act.put, List.setIfInBounds_toArray, List.set_cons_zero, List.set_cons_succ]; done) | (simp only [putAll, Act.put, List.setIfInBounds_toArray, List.set_cons_zero, List.set_cons_succ]; rfl)) (hJ1 (.slice (some ado25) y148.length co25, ado25) _ ⟨hHeld, (by first | exact Grow.rg HO150.out | exact HO150.out), ⟨_, rfl⟩, (by first | exact Grow.bk BK147.out | exact BK147.out), (by repeat (first | (with_reducible first | exact HB.out | apply below_alloc | apply pw_below_drewN | apply below_drew1 | refine below_set ?_ GE147.out) | exact HB.out))⟩)
              ·
               skip
               refine goes_ Tryd.func32 (by kernel_rfl) rfl #[.slice A146_1 ((rd_T58 l0 x4_1).f1).length c146_1] (by rfl) rfl rfl (by (try simp only [List.map_toArray, List.map_cons, List.map_nil]); first | done | rfl | (simp only [List.length_drop, List.length_take]; rfl)) ?_
               with_reducible refine (spec_l09Join.calls k1 _ _ ((rd_T58 l0 x4_1).f1) t152 _ ?side1 ?side2 A11.out).mono ?_
               (case side1 => first | exact Grow.cb HR146_1.out HB.out | exact Kd.C_below HR146_1.out HB.out)
               (case side2 => exact HC146_1.out)
               rintro e w' ⟨rfl, ⟨nd, rfl⟩⟩
               refine ⟨_, rfl, ?_⟩
               refine hK.out _ _ ⟨(blk_cell BK147.out 0).trans rfl, (blk_cell BK147.out 1).trans rfl, (blk_cell BK147.out 2).trans rfl, (blk_cell BK147.out 3).trans rfl, (blk_cell BK147.out 4).trans rfl⟩ (fun hHeld => ?_)
               clear hK K
               refine norm_ (a' := ?_) ?_ ?_; rotate_left; show Act.put _ (some 31) _ = _; simp only [Cap.pz]; rfl
               exact norm_ (by first | (simp only [putAll, Act.put, List.setIfInBounds_toArray, List.set_cons_zero, List.set_cons_succ]; done) | (simp only [putAll, Act.put, List.setIfInBounds_toArray, List.set_cons_zero, List.set_cons_succ]; rfl)) (hJ10 () _ ⟨hHeld, (by first | exact Grow.bk BK147.out | exact BK147.out), (by repeat (first | (with_reducible first | exact HB.out | apply below_alloc | apply pw_below_drewN | apply below_drew1 | refine below_set ?_ GE147.out) | exact HB.out))⟩)
             ·
              skip
              rintro _ w23 ⟨hS_, h0_, h1_⟩
              have n0_ : Aside0 (w23.heap[gb147]? = some (.cells #[.int .i64 ((rd_T58 l0 x4_1).f0), .slice A146_1 ((rd_T58 l0 x4_1).f1).length c146_1, .slice A146_2 ((rd_T58 l0 x4_1).f2).length c146_2, .slice A146_3 ((rd_T58 l0 x4_1).f3).length c146_3, .slice A146_4 ((rd_T58 l0 x4_1).f4).length c146_4] 58 (0, 0))) := ⟨h0_⟩
              have n1_ : Aside0 (Below w.heap.size w w23) := ⟨h1_⟩
              clear BK147
              clear HB
              clear h0_ h1_
              have BK147 := n0_
              have HB := n1_
              clear n0_ n1_
              have hHeld : w23.cell? ⟨gb147, 0, none⟩ = some (.int .i64 ((rd_T58 l0 x4_1).f0)) ∧ w23.cell? ⟨gb147, 1, none⟩ = some (.slice A146_1 ((rd_T58 l0 x4_1).f1).length c146_1) ∧ w23.cell? ⟨gb147, 2, none⟩ = some (.slice A146_2 ((rd_T58 l0 x4_1).f2).length c146_2) ∧ w23.cell? ⟨gb147, 3, none⟩ = some (.slice A146_3 ((rd_T58 l0 x4_1).f3).length c146_3) ∧ w23.cell? ⟨gb147, 4, none⟩ = some (.slice A146_4 ((rd_T58 l0 x4_1).f4).length c146_4) := hS_
              refine norm_ (a' := ?_) ?_ ?_
              rotate_left
              ·
               simp only [putAll, Act.put, List.setIfInBounds_toArray, List.set_cons_zero, List.set_cons_succ]
               rfl
              refine two_ (i := 1) (j := 15) (Ni := some 22) (Nj := some 36) zf47 zf43 rfl rfl rfl rfl (two_of HT_.out (by kernel_rfl)) (by decide) (by decide) (fun K hK => ?_) (fun K hK => ?_)
              ·
               skip
               refine Kd.R_lit_step Kd.string _ 9 ?hg (N := 22) ?hd (xs := ([(⟨#[]⟩ : ByteArray), (⟨#[97, 108, 108, 111, 119]⟩ : ByteArray), (⟨#[100, 101, 110, 121]⟩ : ByteArray)] : List ByteArray)) (inner := [.string (⟨#[]⟩ : ByteArray), .string (⟨#[97, 108, 108, 111, 119]⟩ : ByteArray), .string (⟨#[100, 101, 110, 121]⟩ : ByteArray)]) (ok := fun _ => True) (okp := fun _ => True) ?hr ?hp (fun _ hk => hk) trivial (Below.refl _ _) (Nat.le_refl _) (by simp) ?_; (case hd => rfl); (case hg => rfl); (case hr => first | (go_simp; done) | (go_simp; rfl)); (case hp => exact (Reps.one (show Kd.M Kd.string _ _ _ (⟨#[]⟩ : ByteArray) [.string (⟨#[]⟩ : ByteArray)] from rfl) (Reps.one (show Kd.M Kd.string _ _ _ (⟨#[97, 108, 108, 111, 119]⟩ : ByteArray) [.string (⟨#[97, 108, 108, 111, 119]⟩ : ByteArray)] from rfl) (Reps.one (show Kd.M Kd.string _ _ _ (⟨#[100, 101, 110, 121]⟩ : ByteArray) [.string (⟨#[100, 101, 110, 121]⟩ : ByteArray)] from rfl) (Reps.none _ _)))))
               intro v149 w24 ho25 hb hg_ hnew_
               clear hg_ hnew_
               (first | rw [← Ny148.out] at ho25 | (simp only [Int.reduceToNat] at ho25; rw [← Ny148.out] at ho25))
               have n0_ := Aside0.mk (Kd.R_lower ho25 (below_size (by repeat (first | (with_reducible first | exact HB.out | apply below_alloc | apply pw_below_drewN | apply below_drew1 | refine below_set ?_ GE147.out) | exact HB.out))))
               have n1_ := Aside0.mk (blk_below (g := gb147) (o := .cells #[.int .i64 ((rd_T58 l0 x4_1).f0), .slice A146_1 ((rd_T58 l0 x4_1).f1).length c146_1, .slice A146_2 ((rd_T58 l0 x4_1).f2).length c146_2, .slice A146_3 ((rd_T58 l0 x4_1).f3).length c146_3, .slice A146_4 ((rd_T58 l0 x4_1).f4).length c146_4] 58 (0, 0)) (by first | exact Grow.bk BK147.out | exact BK147.out) hb)
               have n2_ := Aside0.mk (below_step (by repeat (first | (with_reducible first | exact HB.out | apply below_alloc | apply pw_below_drewN | apply below_drew1 | refine below_set ?_ GE147.out) | exact HB.out)) hb)
               clear BK147
               clear HB
               have HO150 := n0_
               have BK147 := n1_
               have HB := n2_
               clear n0_ n1_ n2_
               clear hb ho25
               obtain ⟨Ao26, co26, eo26⟩ := Kd.R_slice HO150.out
               subst eo26
               obtain ⟨ado26, fo26, _⟩ := Kd.at_string (Kd.R_reads' HO150.out).2.2 0 (by decide) (by rw [Ny148.out]; simp)
               cases fo26
               refine hK.out _ _ ⟨(blk_cell BK147.out 0).trans rfl, (blk_cell BK147.out 1).trans rfl, (blk_cell BK147.out 2).trans rfl, (blk_cell BK147.out 3).trans rfl, (blk_cell BK147.out 4).trans rfl⟩ (fun hHeld => ?_)
               clear hK K
               refine norm_ (a' := ?_) ?_ ?_; rotate_left; show Act.put _ (some 22) _ = _; simp only [Cap.pz]; rfl
               refine Cap.pu (v := ?_) (a' := ?_) 4 (some 25) zf42 HT_ rfl rfl (by kernel_rfl) (fun _ _ _ h => h) (Or.inl ⟨by rfl, ?_⟩) ?_ ?_; rotate_left; intro w'; go_simp; with_reducible rfl; rotate_left; simp only [Cap.pz]; rfl
               exact norm_ (by first | (simp only [putAll, Act.put, List.setIfInBounds_toArray, List.set_cons_zero, List.set_cons_succ]; done) | (simp only [putAll, Act.put, List.setIfInBounds_toArray, List.set_cons_zero, List.set_cons_succ]; rfl)) (hJ1_10 (.slice (some ado26) y148.length co26, ado26) _ ⟨hHeld, (by first | exact Grow.rg HO150.out | exact HO150.out), ⟨_, rfl⟩, (by first | exact Grow.bk BK147.out | exact BK147.out), (by repeat (first | (with_reducible first | exact HB.out | apply below_alloc | apply pw_below_drewN | apply below_drew1 | refine below_set ?_ GE147.out) | exact HB.out))⟩)
              ·
               skip
               refine goes_ Tryd.func32 (by kernel_rfl) rfl #[.slice A146_2 ((rd_T58 l0 x4_1).f2).length c146_2] (by rfl) rfl rfl (by (try simp only [List.map_toArray, List.map_cons, List.map_nil]); first | done | rfl | (simp only [List.length_drop, List.length_take]; rfl)) ?_
               with_reducible refine (spec_l09Join.calls k1 _ _ ((rd_T58 l0 x4_1).f2) t153 _ ?side1 ?side2 A14.out).mono ?_
               (case side1 => first | exact Grow.cb HR146_2.out HB.out | exact Kd.C_below HR146_2.out HB.out)
               (case side2 => exact HC146_2.out)
               rintro e w' ⟨rfl, ⟨nd, rfl⟩⟩
               refine ⟨_, rfl, ?_⟩
               refine hK.out _ _ ⟨(blk_cell BK147.out 0).trans rfl, (blk_cell BK147.out 1).trans rfl, (blk_cell BK147.out 2).trans rfl, (blk_cell BK147.out 3).trans rfl, (blk_cell BK147.out 4).trans rfl⟩ (fun hHeld => ?_)
               clear hK K
               refine norm_ (a' := ?_) ?_ ?_; rotate_left; show Act.put _ (some 36) _ = _; simp only [Cap.pz]; rfl
               exact norm_ (by first | (simp only [putAll, Act.put, List.setIfInBounds_toArray, List.set_cons_zero, List.set_cons_succ]; done) | (simp only [putAll, Act.put, List.setIfInBounds_toArray, List.set_cons_zero, List.set_cons_succ]; rfl)) (hJ10_15 () _ ⟨hHeld, (by first | exact Grow.bk BK147.out | exact BK147.out), (by repeat (first | (with_reducible first | exact HB.out | apply below_alloc | apply pw_below_drewN | apply below_drew1 | refine below_set ?_ GE147.out) | exact HB.out))⟩)
            ·
             skip
             rintro ⟨v149, adz_v149⟩ w26 ⟨hS_, h0_, h1_, h2_, h3_⟩
             have n0_ : Aside0 (Kd.R Kd.string 9 w26 w.heap.size (fun _ => True) v149 y148) := ⟨h0_⟩
             have n1_ : Aside0 (∃ c_, (v149 : Value) = .slice (some adz_v149) y148.length c_) := ⟨h1_⟩
             have n2_ : Aside0 (w26.heap[gb147]? = some (.cells #[.int .i64 ((rd_T58 l0 x4_1).f0), .slice A146_1 ((rd_T58 l0 x4_1).f1).length c146_1, .slice A146_2 ((rd_T58 l0 x4_1).f2).length c146_2, .slice A146_3 ((rd_T58 l0 x4_1).f3).length c146_3, .slice A146_4 ((rd_T58 l0 x4_1).f4).length c146_4] 58 (0, 0))) := ⟨h2_⟩
             have n3_ : Aside0 (Below w.heap.size w w26) := ⟨h3_⟩
             clear BK147
             clear HB
             clear h0_ h1_ h2_ h3_
             have HO150 := n0_
             have HA_HO150 := n1_
             have BK147 := n2_
             have HB := n3_
             clear n0_ n1_ n2_ n3_
             have hHeld : w26.cell? ⟨gb147, 0, none⟩ = some (.int .i64 ((rd_T58 l0 x4_1).f0)) ∧ w26.cell? ⟨gb147, 1, none⟩ = some (.slice A146_1 ((rd_T58 l0 x4_1).f1).length c146_1) ∧ w26.cell? ⟨gb147, 2, none⟩ = some (.slice A146_2 ((rd_T58 l0 x4_1).f2).length c146_2) ∧ w26.cell? ⟨gb147, 3, none⟩ = some (.slice A146_3 ((rd_T58 l0 x4_1).f3).length c146_3) ∧ w26.cell? ⟨gb147, 4, none⟩ = some (.slice A146_4 ((rd_T58 l0 x4_1).f4).length c146_4) := hS_
             obtain ⟨co27, eo27⟩ := HA_HO150.out
             clear HA_HO150
             subst eo27
             refine norm_ (a' := ?_) ?_ ?_
             rotate_left
             ·
              simp only [putAll, Act.put, List.setIfInBounds_toArray, List.set_cons_zero, List.set_cons_succ]
              rfl
             refine two_ (i := 5) (j := 10) (Ni := some 26) (Nj := some 31) zf48 zf42 rfl rfl rfl rfl (two_of HT_.out (by kernel_rfl)) (by decide) (by decide) (fun K hK => ?_) (fun K hK => ?_)
             ·
              skip
              (have p151 : 0 ≤ (((rd_T58 l0 x4_1).f0) : Int) := of_decide_eq_true (by first | (with_reducible assumption) | assumption); have q151 : ((rd_T58 l0 x4_1).f0) < (y148.length : Int) := of_decide_eq_true (by first | (with_reducible assumption) | assumption); obtain ⟨ad151, e151, hx151_0⟩ := Kd.at_string (Kd.R_reads' HO150.out).2.2 ((rd_T58 l0 x4_1).f0) p151 q151; obtain rfl : adz_v149 = ad151 := (by injection e151))
              refine value_ (w1 := ?_) (v := ?_) (by rfl) rfl ?_ ?_
              rotate_left 2
              ·
               go_simp
               constructor
               ·
                rfl
               ·
                rfl
              clear hx151_0
              refine hK.out _ _ ⟨(blk_cell BK147.out 0).trans rfl, (blk_cell BK147.out 1).trans rfl, (blk_cell BK147.out 2).trans rfl, (blk_cell BK147.out 3).trans rfl, (blk_cell BK147.out 4).trans rfl⟩ (fun hHeld => ?_)
              clear hK K
              refine norm_ (a' := ?_) ?_ ?_; rotate_left; show Act.put _ (some 26) _ = _; simp only [Cap.pz]; rfl
              refine Cap.pu (v := ?_) (a' := ?_) 6 (some 27) zf49 HT_ rfl rfl (by kernel_rfl) (fun _ _ _ h => h) (Or.inl ⟨by rfl, ?_⟩) ?_ ?_; rotate_left; intro w'; go_simp; with_reducible rfl; rotate_left; simp only [Cap.pz]; rfl
              refine Cap.pu (v := ?_) (a' := ?_) 7 (some 28) zf41 HT_ rfl rfl (by kernel_rfl) (fun _ _ _ h => h) (Or.inl ⟨by rfl, ?_⟩) ?_ ?_; rotate_left; intro w'; go_simp; with_reducible rfl; rotate_left; simp only [Cap.pz]; rfl
              exact norm_ (by first | (simp only [putAll, Act.put, List.setIfInBounds_toArray, List.set_cons_zero, List.set_cons_succ]; done) | (simp only [putAll, Act.put, List.setIfInBounds_toArray, List.set_cons_zero, List.set_cons_succ]; rfl)) (hJ1_5 (.slice (some adz_v149) y148.length co27, adz_v149) _ ⟨hHeld, (by first | exact Grow.rg HO150.out | exact HO150.out), ⟨_, rfl⟩, (by first | exact Grow.bk BK147.out | exact BK147.out), (by repeat (first | (with_reducible first | exact HB.out | apply below_alloc | apply pw_below_drewN | apply below_drew1 | refine below_set ?_ GE147.out) | exact HB.out))⟩)
             ·
              skip
              refine goes_ Tryd.func32 (by kernel_rfl) rfl #[.slice A146_1 ((rd_T58 l0 x4_1).f1).length c146_1] (by rfl) rfl rfl (by (try simp only [List.map_toArray, List.map_cons, List.map_nil]); first | done | rfl | (simp only [List.length_drop, List.length_take]; rfl)) ?_
              with_reducible refine (spec_l09Join.calls k1 _ _ ((rd_T58 l0 x4_1).f1) t152 _ ?side1 ?side2 A11.out).mono ?_
              (case side1 => first | exact Grow.cb HR146_1.out HB.out | exact Kd.C_below HR146_1.out HB.out)
              (case side2 => exact HC146_1.out)
              rintro e w' ⟨rfl, ⟨nd, rfl⟩⟩
              refine ⟨_, rfl, ?_⟩
              refine hK.out _ _ ⟨(blk_cell BK147.out 0).trans rfl, (blk_cell BK147.out 1).trans rfl, (blk_cell BK147.out 2).trans rfl, (blk_cell BK147.out 3).trans rfl, (blk_cell BK147.out 4).trans rfl⟩ (fun hHeld => ?_)
              clear hK K
              refine norm_ (a' := ?_) ?_ ?_; rotate_left; show Act.put _ (some 31) _ = _; simp only [Cap.pz]; rfl
              exact norm_ (by first | (simp only [putAll, Act.put, List.setIfInBounds_toArray, List.set_cons_zero, List.set_cons_succ]; done) | (simp only [putAll, Act.put, List.setIfInBounds_toArray, List.set_cons_zero, List.set_cons_succ]; rfl)) (hJ1_10 (.slice (some adz_v149) y148.length co27, adz_v149) _ ⟨hHeld, (by first | exact Grow.rg HO150.out | exact HO150.out), ⟨_, rfl⟩, (by first | exact Grow.bk BK147.out | exact BK147.out), (by repeat (first | (with_reducible first | exact HB.out | apply below_alloc | apply pw_below_drewN | apply below_drew1 | refine below_set ?_ GE147.out) | exact HB.out))⟩)
           ·
            skip
            rintro _ w23 ⟨hS_, h0_, h1_⟩
            have n0_ : Aside0 (w23.heap[gb147]? = some (.cells #[.int .i64 ((rd_T58 l0 x4_1).f0), .slice A146_1 ((rd_T58 l0 x4_1).f1).length c146_1, .slice A146_2 ((rd_T58 l0 x4_1).f2).length c146_2, .slice A146_3 ((rd_T58 l0 x4_1).f3).length c146_3, .slice A146_4 ((rd_T58 l0 x4_1).f4).length c146_4] 58 (0, 0))) := ⟨h0_⟩
            have n1_ : Aside0 (Below w.heap.size w w23) := ⟨h1_⟩
            clear BK147
            clear HB
            clear h0_ h1_
            have BK147 := n0_
            have HB := n1_
            clear n0_ n1_
            have hHeld : w23.cell? ⟨gb147, 0, none⟩ = some (.int .i64 ((rd_T58 l0 x4_1).f0)) ∧ w23.cell? ⟨gb147, 1, none⟩ = some (.slice A146_1 ((rd_T58 l0 x4_1).f1).length c146_1) ∧ w23.cell? ⟨gb147, 2, none⟩ = some (.slice A146_2 ((rd_T58 l0 x4_1).f2).length c146_2) ∧ w23.cell? ⟨gb147, 3, none⟩ = some (.slice A146_3 ((rd_T58 l0 x4_1).f3).length c146_3) ∧ w23.cell? ⟨gb147, 4, none⟩ = some (.slice A146_4 ((rd_T58 l0 x4_1).f4).length c146_4) := hS_
            refine norm_ (a' := ?_) ?_ ?_
            rotate_left
            ·
             simp only [putAll, Act.put, List.setIfInBounds_toArray, List.set_cons_zero, List.set_cons_succ]
             rfl
            refine two_ (i := 1) (j := 20) (Ni := some 22) (Nj := some 41) zf50 zf40 rfl rfl rfl rfl (two_of HT_.out (by kernel_rfl)) (by decide) (by decide) (fun K hK => ?_) (fun K hK => ?_)
            ·
             skip
             refine Kd.R_lit_step Kd.string _ 9 ?hg (N := 22) ?hd (xs := ([(⟨#[]⟩ : ByteArray), (⟨#[97, 108, 108, 111, 119]⟩ : ByteArray), (⟨#[100, 101, 110, 121]⟩ : ByteArray)] : List ByteArray)) (inner := [.string (⟨#[]⟩ : ByteArray), .string (⟨#[97, 108, 108, 111, 119]⟩ : ByteArray), .string (⟨#[100, 101, 110, 121]⟩ : ByteArray)]) (ok := fun _ => True) (okp := fun _ => True) ?hr ?hp (fun _ hk => hk) trivial (Below.refl _ _) (Nat.le_refl _) (by simp) ?_; (case hd => rfl); (case hg => rfl); (case hr => first | (go_simp; done) | (go_simp; rfl)); (case hp => exact (Reps.one (show Kd.M Kd.string _ _ _ (⟨#[]⟩ : ByteArray) [.string (⟨#[]⟩ : ByteArray)] from rfl) (Reps.one (show Kd.M Kd.string _ _ _ (⟨#[97, 108, 108, 111, 119]⟩ : ByteArray) [.string (⟨#[97, 108, 108, 111, 119]⟩ : ByteArray)] from rfl) (Reps.one (show Kd.M Kd.string _ _ _ (⟨#[100, 101, 110, 121]⟩ : ByteArray) [.string (⟨#[100, 101, 110, 121]⟩ : ByteArray)] from rfl) (Reps.none _ _)))))
             intro v149 w24 ho25 hb hg_ hnew_
             clear hg_ hnew_
             (first | rw [← Ny148.out] at ho25 | (simp only [Int.reduceToNat] at ho25; rw [← Ny148.out] at ho25))
             have n0_ := Aside0.mk (Kd.R_lower ho25 (below_size (by repeat (first | (with_reducible first | exact HB.out | apply below_alloc | apply pw_below_drewN | apply below_drew1 | refine below_set ?_ GE147.out) | exact HB.out))))
             have n1_ := Aside0.mk (blk_below (g := gb147) (o := .cells #[.int .i64 ((rd_T58 l0 x4_1).f0), .slice A146_1 ((rd_T58 l0 x4_1).f1).length c146_1, .slice A146_2 ((rd_T58 l0 x4_1).f2).length c146_2, .slice A146_3 ((rd_T58 l0 x4_1).f3).length c146_3, .slice A146_4 ((rd_T58 l0 x4_1).f4).length c146_4] 58 (0, 0)) (by first | exact Grow.bk BK147.out | exact BK147.out) hb)
             have n2_ := Aside0.mk (below_step (by repeat (first | (with_reducible first | exact HB.out | apply below_alloc | apply pw_below_drewN | apply below_drew1 | refine below_set ?_ GE147.out) | exact HB.out)) hb)
             clear BK147
             clear HB
             have HO150 := n0_
             have BK147 := n1_
             have HB := n2_
             clear n0_ n1_ n2_
             clear hb ho25
             obtain ⟨Ao26, co26, eo26⟩ := Kd.R_slice HO150.out
             subst eo26
             obtain ⟨ado26, fo26, _⟩ := Kd.at_string (Kd.R_reads' HO150.out).2.2 0 (by decide) (by rw [Ny148.out]; simp)
             cases fo26
             refine hK.out _ _ ⟨(blk_cell BK147.out 0).trans rfl, (blk_cell BK147.out 1).trans rfl, (blk_cell BK147.out 2).trans rfl, (blk_cell BK147.out 3).trans rfl, (blk_cell BK147.out 4).trans rfl⟩ (fun hHeld => ?_)
             clear hK K
             refine norm_ (a' := ?_) ?_ ?_; rotate_left; show Act.put _ (some 22) _ = _; simp only [Cap.pz]; rfl
             refine Cap.pu (v := ?_) (a' := ?_) 4 (some 25) zf39 HT_ rfl rfl (by kernel_rfl) (fun _ _ _ h => h) (Or.inl ⟨by rfl, ?_⟩) ?_ ?_; rotate_left; intro w'; go_simp; with_reducible rfl; rotate_left; simp only [Cap.pz]; rfl
             exact norm_ (by first | (simp only [putAll, Act.put, List.setIfInBounds_toArray, List.set_cons_zero, List.set_cons_succ]; done) | (simp only [putAll, Act.put, List.setIfInBounds_toArray, List.set_cons_zero, List.set_cons_succ]; rfl)) (hJ1_10_15 (.slice (some ado26) y148.length co26, ado26) _ ⟨hHeld, (by first | exact Grow.rg HO150.out | exact HO150.out), ⟨_, rfl⟩, (by first | exact Grow.bk BK147.out | exact BK147.out), (by repeat (first | (with_reducible first | exact HB.out | apply below_alloc | apply pw_below_drewN | apply below_drew1 | refine below_set ?_ GE147.out) | exact HB.out))⟩)
            ·
             skip
             refine goes_ Tryd.func32 (by kernel_rfl) rfl #[.slice A146_3 ((rd_T58 l0 x4_1).f3).length c146_3] (by rfl) rfl rfl (by (try simp only [List.map_toArray, List.map_cons, List.map_nil]); first | done | rfl | (simp only [List.length_drop, List.length_take]; rfl)) ?_
             with_reducible refine (spec_l09Join.calls k1 _ _ ((rd_T58 l0 x4_1).f3) t154 _ ?side1 ?side2 A17.out).mono ?_
             (case side1 => first | exact Grow.cb HR146_3.out HB.out | exact Kd.C_below HR146_3.out HB.out)
             (case side2 => exact HC146_3.out)
             rintro e w' ⟨rfl, ⟨nd, rfl⟩⟩
             refine ⟨_, rfl, ?_⟩
             refine hK.out _ _ ⟨(blk_cell BK147.out 0).trans rfl, (blk_cell BK147.out 1).trans rfl, (blk_cell BK147.out 2).trans rfl, (blk_cell BK147.out 3).trans rfl, (blk_cell BK147.out 4).trans rfl⟩ (fun hHeld => ?_)
             clear hK K
             refine norm_ (a' := ?_) ?_ ?_; rotate_left; show Act.put _ (some 41) _ = _; simp only [Cap.pz]; rfl
             exact norm_ (by first | (simp only [putAll, Act.put, List.setIfInBounds_toArray, List.set_cons_zero, List.set_cons_succ]; done) | (simp only [putAll, Act.put, List.setIfInBounds_toArray, List.set_cons_zero, List.set_cons_succ]; rfl)) (hJ10_15_20 () _ ⟨hHeld, (by first | exact Grow.bk BK147.out | exact BK147.out), (by repeat (first | (with_reducible first | exact HB.out | apply below_alloc | apply pw_below_drewN | apply below_drew1 | refine below_set ?_ GE147.out) | exact HB.out))⟩)
          ·
           skip
           rintro ⟨v149, adz_v149⟩ w26 ⟨hS_, h0_, h1_, h2_, h3_⟩
           have n0_ : Aside0 (Kd.R Kd.string 9 w26 w.heap.size (fun _ => True) v149 y148) := ⟨h0_⟩
           have n1_ : Aside0 (∃ c_, (v149 : Value) = .slice (some adz_v149) y148.length c_) := ⟨h1_⟩
           have n2_ : Aside0 (w26.heap[gb147]? = some (.cells #[.int .i64 ((rd_T58 l0 x4_1).f0), .slice A146_1 ((rd_T58 l0 x4_1).f1).length c146_1, .slice A146_2 ((rd_T58 l0 x4_1).f2).length c146_2, .slice A146_3 ((rd_T58 l0 x4_1).f3).length c146_3, .slice A146_4 ((rd_T58 l0 x4_1).f4).length c146_4] 58 (0, 0))) := ⟨h2_⟩
           have n3_ : Aside0 (Below w.heap.size w w26) := ⟨h3_⟩
           clear BK147
           clear HB
           clear h0_ h1_ h2_ h3_
           have HO150 := n0_
           have HA_HO150 := n1_
           have BK147 := n2_
           have HB := n3_
           clear n0_ n1_ n2_ n3_
           have hHeld : w26.cell? ⟨gb147, 0, none⟩ = some (.int .i64 ((rd_T58 l0 x4_1).f0)) ∧ w26.cell? ⟨gb147, 1, none⟩ = some (.slice A146_1 ((rd_T58 l0 x4_1).f1).length c146_1) ∧ w26.cell? ⟨gb147, 2, none⟩ = some (.slice A146_2 ((rd_T58 l0 x4_1).f2).length c146_2) ∧ w26.cell? ⟨gb147, 3, none⟩ = some (.slice A146_3 ((rd_T58 l0 x4_1).f3).length c146_3) ∧ w26.cell? ⟨gb147, 4, none⟩ = some (.slice A146_4 ((rd_T58 l0 x4_1).f4).length c146_4) := hS_
           obtain ⟨co27, eo27⟩ := HA_HO150.out
           clear HA_HO150
           subst eo27
           refine norm_ (a' := ?_) ?_ ?_
           rotate_left
           ·
            simp only [putAll, Act.put, List.setIfInBounds_toArray, List.set_cons_zero, List.set_cons_succ]
            rfl
           refine two_ (i := 5) (j := 15) (Ni := some 26) (Nj := some 36) zf51 zf39 rfl rfl rfl rfl (two_of HT_.out (by kernel_rfl)) (by decide) (by decide) (fun K hK => ?_) (fun K hK => ?_)
           ·
            skip
            (have p151 : 0 ≤ (((rd_T58 l0 x4_1).f0) : Int) := of_decide_eq_true (by first | (with_reducible assumption) | assumption); have q151 : ((rd_T58 l0 x4_1).f0) < (y148.length : Int) := of_decide_eq_true (by first | (with_reducible assumption) | assumption); obtain ⟨ad151, e151, hx151_0⟩ := Kd.at_string (Kd.R_reads' HO150.out).2.2 ((rd_T58 l0 x4_1).f0) p151 q151; obtain rfl : adz_v149 = ad151 := (by injection e151))
            refine value_ (w1 := ?_) (v := ?_) (by rfl) rfl ?_ ?_
            rotate_left 2
            ·
             go_simp
             constructor
             ·
              rfl
             ·
              rfl
            clear hx151_0
            refine hK.out _ _ ⟨(blk_cell BK147.out 0).trans rfl, (blk_cell BK147.out 1).trans rfl, (blk_cell BK147.out 2).trans rfl, (blk_cell BK147.out 3).trans rfl, (blk_cell BK147.out 4).trans rfl⟩ (fun hHeld => ?_)
            clear hK K
            refine norm_ (a' := ?_) ?_ ?_; rotate_left; show Act.put _ (some 26) _ = _; simp only [Cap.pz]; rfl
            refine Cap.pu (v := ?_) (a' := ?_) 6 (some 27) zf52 HT_ rfl rfl (by kernel_rfl) (fun _ _ _ h => h) (Or.inl ⟨by rfl, ?_⟩) ?_ ?_; rotate_left; intro w'; go_simp; with_reducible rfl; rotate_left; simp only [Cap.pz]; rfl
            refine Cap.pu (v := ?_) (a' := ?_) 7 (some 28) zf53 HT_ rfl rfl (by kernel_rfl) (fun _ _ _ h => h) (Or.inl ⟨by rfl, ?_⟩) ?_ ?_; rotate_left; intro w'; go_simp; with_reducible rfl; rotate_left; simp only [Cap.pz]; rfl
            refine Cap.pu (v := ?_) (a' := ?_) 11 (some 32) zf54 HT_ rfl rfl (by kernel_rfl) (fun _ _ _ h => h) (Or.inl ⟨by rfl, ?_⟩) ?_ ?_; rotate_left; intro w'; go_simp; with_reducible rfl; rotate_left; simp only [Cap.pz]; rfl
            refine Cap.pu (v := ?_) (a' := ?_) 12 (some 33) zf38 HT_ rfl rfl (by kernel_rfl) (fun _ _ _ h => h) (Or.inl ⟨by rfl, ?_⟩) ?_ ?_; rotate_left; intro w'; go_simp; with_reducible rfl; rotate_left; simp only [Cap.pz]; rfl
            exact norm_ (by first | (simp only [putAll, Act.put, List.setIfInBounds_toArray, List.set_cons_zero, List.set_cons_succ]; done) | (simp only [putAll, Act.put, List.setIfInBounds_toArray, List.set_cons_zero, List.set_cons_succ]; rfl)) (hJ1_5_10 (.slice (some adz_v149) y148.length co27, adz_v149) _ ⟨hHeld, (by first | exact Grow.rg HO150.out | exact HO150.out), ⟨_, rfl⟩, (by first | exact Grow.bk BK147.out | exact BK147.out), (by repeat (first | (with_reducible first | exact HB.out | apply below_alloc | apply pw_below_drewN | apply below_drew1 | refine below_set ?_ GE147.out) | exact HB.out))⟩)
           ·
            skip
            refine goes_ Tryd.func32 (by kernel_rfl) rfl #[.slice A146_2 ((rd_T58 l0 x4_1).f2).length c146_2] (by rfl) rfl rfl (by (try simp only [List.map_toArray, List.map_cons, List.map_nil]); first | done | rfl | (simp only [List.length_drop, List.length_take]; rfl)) ?_
            with_reducible refine (spec_l09Join.calls k1 _ _ ((rd_T58 l0 x4_1).f2) t153 _ ?side1 ?side2 A14.out).mono ?_
            (case side1 => first | exact Grow.cb HR146_2.out HB.out | exact Kd.C_below HR146_2.out HB.out)
            (case side2 => exact HC146_2.out)
            rintro e w' ⟨rfl, ⟨nd, rfl⟩⟩
            refine ⟨_, rfl, ?_⟩
            refine hK.out _ _ ⟨(blk_cell BK147.out 0).trans rfl, (blk_cell BK147.out 1).trans rfl, (blk_cell BK147.out 2).trans rfl, (blk_cell BK147.out 3).trans rfl, (blk_cell BK147.out 4).trans rfl⟩ (fun hHeld => ?_)
            clear hK K
            refine norm_ (a' := ?_) ?_ ?_; rotate_left; show Act.put _ (some 36) _ = _; simp only [Cap.pz]; rfl
            exact norm_ (by first | (simp only [putAll, Act.put, List.setIfInBounds_toArray, List.set_cons_zero, List.set_cons_succ]; done) | (simp only [putAll, Act.put, List.setIfInBounds_toArray, List.set_cons_zero, List.set_cons_succ]; rfl)) (hJ1_10_15 (.slice (some adz_v149) y148.length co27, adz_v149) _ ⟨hHeld, (by first | exact Grow.rg HO150.out | exact HO150.out), ⟨_, rfl⟩, (by first | exact Grow.bk BK147.out | exact BK147.out), (by repeat (first | (with_reducible first | exact HB.out | apply below_alloc | apply pw_below_drewN | apply below_drew1 | refine below_set ?_ GE147.out) | exact HB.out))⟩)
         ·
          skip
          rintro ⟨v149, adz_v149⟩ w26 ⟨hS_, h0_, h1_, h2_, h3_⟩
          have n0_ : Aside0 (Kd.R Kd.string 9 w26 w.heap.size (fun _ => True) v149 y148) := ⟨h0_⟩
          have n1_ : Aside0 (∃ c_, (v149 : Value) = .slice (some adz_v149) y148.length c_) := ⟨h1_⟩
          have n2_ : Aside0 (w26.heap[gb147]? = some (.cells #[.int .i64 ((rd_T58 l0 x4_1).f0), .slice A146_1 ((rd_T58 l0 x4_1).f1).length c146_1, .slice A146_2 ((rd_T58 l0 x4_1).f2).length c146_2, .slice A146_3 ((rd_T58 l0 x4_1).f3).length c146_3, .slice A146_4 ((rd_T58 l0 x4_1).f4).length c146_4] 58 (0, 0))) := ⟨h2_⟩
          have n3_ : Aside0 (Below w.heap.size w w26) := ⟨h3_⟩
          clear BK147
          clear HB
          clear h0_ h1_ h2_ h3_
          have HO150 := n0_
          have HA_HO150 := n1_
          have BK147 := n2_
          have HB := n3_
          clear n0_ n1_ n2_ n3_
          have hHeld : w26.cell? ⟨gb147, 0, none⟩ = some (.int .i64 ((rd_T58 l0 x4_1).f0)) ∧ w26.cell? ⟨gb147, 1, none⟩ = some (.slice A146_1 ((rd_T58 l0 x4_1).f1).length c146_1) ∧ w26.cell? ⟨gb147, 2, none⟩ = some (.slice A146_2 ((rd_T58 l0 x4_1).f2).length c146_2) ∧ w26.cell? ⟨gb147, 3, none⟩ = some (.slice A146_3 ((rd_T58 l0 x4_1).f3).length c146_3) ∧ w26.cell? ⟨gb147, 4, none⟩ = some (.slice A146_4 ((rd_T58 l0 x4_1).f4).length c146_4) := hS_
          obtain ⟨co27, eo27⟩ := HA_HO150.out
          clear HA_HO150
          subst eo27
          refine norm_ (a' := ?_) ?_ ?_
          rotate_left
          ·
           simp only [putAll, Act.put, List.setIfInBounds_toArray, List.set_cons_zero, List.set_cons_succ]
           rfl
          refine one_ (i := 10) (N := some 31) zf53 rfl rfl (one_of HT_.out (by kernel_rfl)) (by decide) (fun K hK => ?_)
          refine goes_ Tryd.func32 (by kernel_rfl) rfl #[.slice A146_1 ((rd_T58 l0 x4_1).f1).length c146_1] (by rfl) rfl rfl (by (try simp only [List.map_toArray, List.map_cons, List.map_nil]); first | done | rfl | (simp only [List.length_drop, List.length_take]; rfl)) ?_
          with_reducible refine (spec_l09Join.calls k1 _ _ ((rd_T58 l0 x4_1).f1) t152 _ ?side1 ?side2 A11.out).mono ?_
          (case side1 => first | exact Grow.cb HR146_1.out HB.out | exact Kd.C_below HR146_1.out HB.out)
          (case side2 => exact HC146_1.out)
          rintro e w' ⟨rfl, ⟨nd, rfl⟩⟩
          refine ⟨_, rfl, ?_⟩
          refine hK.out _ _ ⟨(blk_cell BK147.out 0).trans rfl, (blk_cell BK147.out 1).trans rfl, (blk_cell BK147.out 2).trans rfl, (blk_cell BK147.out 3).trans rfl, (blk_cell BK147.out 4).trans rfl⟩ (fun hHeld => ?_)
          clear hK K
          refine norm_ (a' := ?_) ?_ ?_; rotate_left; show Act.put _ (some 31) _ = _; simp only [Cap.pz]; rfl
          refine Cap.pu (v := ?_) (a' := ?_) 11 (some 32) zf54 HT_ rfl rfl (by kernel_rfl) (fun _ _ _ h => h) (Or.inl ⟨by rfl, ?_⟩) ?_ ?_; rotate_left; intro w'; go_simp; with_reducible rfl; rotate_left; simp only [Cap.pz]; rfl
          refine Cap.pu (v := ?_) (a' := ?_) 12 (some 33) zf38 HT_ rfl rfl (by kernel_rfl) (fun _ _ _ h => h) (Or.inl ⟨by rfl, ?_⟩) ?_ ?_; rotate_left; intro w'; go_simp; with_reducible rfl; rotate_left; simp only [Cap.pz]; rfl
          exact norm_ (by first | (simp only [putAll, Act.put, List.setIfInBounds_toArray, List.set_cons_zero, List.set_cons_succ]; done) | (simp only [putAll, Act.put, List.setIfInBounds_toArray, List.set_cons_zero, List.set_cons_succ]; rfl)) (hJ1_5_10 (.slice (some adz_v149) y148.length co27, adz_v149) _ ⟨hHeld, (by first | exact Grow.rg HO150.out | exact HO150.out), ⟨_, rfl⟩, (by first | exact Grow.bk BK147.out | exact BK147.out), (by repeat (first | (with_reducible first | exact HB.out | apply below_alloc | apply pw_below_drewN | apply below_drew1 | refine below_set ?_ GE147.out) | exact HB.out))⟩)
        ·
         skip
         rintro _ w23 ⟨hS_, h0_, h1_⟩
         have n0_ : Aside0 (w23.heap[gb147]? = some (.cells #[.int .i64 ((rd_T58 l0 x4_1).f0), .slice A146_1 ((rd_T58 l0 x4_1).f1).length c146_1, .slice A146_2 ((rd_T58 l0 x4_1).f2).length c146_2, .slice A146_3 ((rd_T58 l0 x4_1).f3).length c146_3, .slice A146_4 ((rd_T58 l0 x4_1).f4).length c146_4] 58 (0, 0))) := ⟨h0_⟩
         have n1_ : Aside0 (Below w.heap.size w w23) := ⟨h1_⟩
         clear BK147
         clear HB
         clear h0_ h1_
         have BK147 := n0_
         have HB := n1_
         clear n0_ n1_
         have hHeld : w23.cell? ⟨gb147, 0, none⟩ = some (.int .i64 ((rd_T58 l0 x4_1).f0)) ∧ w23.cell? ⟨gb147, 1, none⟩ = some (.slice A146_1 ((rd_T58 l0 x4_1).f1).length c146_1) ∧ w23.cell? ⟨gb147, 2, none⟩ = some (.slice A146_2 ((rd_T58 l0 x4_1).f2).length c146_2) ∧ w23.cell? ⟨gb147, 3, none⟩ = some (.slice A146_3 ((rd_T58 l0 x4_1).f3).length c146_3) ∧ w23.cell? ⟨gb147, 4, none⟩ = some (.slice A146_4 ((rd_T58 l0 x4_1).f4).length c146_4) := hS_
         refine norm_ (a' := ?_) ?_ ?_
         rotate_left
         ·
          simp only [putAll, Act.put, List.setIfInBounds_toArray, List.set_cons_zero, List.set_cons_succ]
          rfl
         refine one_ (i := 1) (N := some 22) zf55 rfl rfl (one_of HT_.out (by kernel_rfl)) (by decide) (fun K hK => ?_)
         refine Kd.R_lit_step Kd.string _ 9 ?hg (N := 22) ?hd (xs := ([(⟨#[]⟩ : ByteArray), (⟨#[97, 108, 108, 111, 119]⟩ : ByteArray), (⟨#[100, 101, 110, 121]⟩ : ByteArray)] : List ByteArray)) (inner := [.string (⟨#[]⟩ : ByteArray), .string (⟨#[97, 108, 108, 111, 119]⟩ : ByteArray), .string (⟨#[100, 101, 110, 121]⟩ : ByteArray)]) (ok := fun _ => True) (okp := fun _ => True) ?hr ?hp (fun _ hk => hk) trivial (Below.refl _ _) (Nat.le_refl _) (by simp) ?_; (case hd => rfl); (case hg => rfl); (case hr => first | (go_simp; done) | (go_simp; rfl)); (case hp => exact (Reps.one (show Kd.M Kd.string _ _ _ (⟨#[]⟩ : ByteArray) [.string (⟨#[]⟩ : ByteArray)] from rfl) (Reps.one (show Kd.M Kd.string _ _ _ (⟨#[97, 108, 108, 111, 119]⟩ : ByteArray) [.string (⟨#[97, 108, 108, 111, 119]⟩ : ByteArray)] from rfl) (Reps.one (show Kd.M Kd.string _ _ _ (⟨#[100, 101, 110, 121]⟩ : ByteArray) [.string (⟨#[100, 101, 110, 121]⟩ : ByteArray)] from rfl) (Reps.none _ _)))))
         intro v149 w24 ho25 hb hg_ hnew_
         clear hg_ hnew_
         (first | rw [← Ny148.out] at ho25 | (simp only [Int.reduceToNat] at ho25; rw [← Ny148.out] at ho25))
         have n0_ := Aside0.mk (Kd.R_lower ho25 (below_size (by repeat (first | (with_reducible first | exact HB.out | apply below_alloc | apply pw_below_drewN | apply below_drew1 | refine below_set ?_ GE147.out) | exact HB.out))))
         have n1_ := Aside0.mk (blk_below (g := gb147) (o := .cells #[.int .i64 ((rd_T58 l0 x4_1).f0), .slice A146_1 ((rd_T58 l0 x4_1).f1).length c146_1, .slice A146_2 ((rd_T58 l0 x4_1).f2).length c146_2, .slice A146_3 ((rd_T58 l0 x4_1).f3).length c146_3, .slice A146_4 ((rd_T58 l0 x4_1).f4).length c146_4] 58 (0, 0)) (by first | exact Grow.bk BK147.out | exact BK147.out) hb)
         have n2_ := Aside0.mk (below_step (by repeat (first | (with_reducible first | exact HB.out | apply below_alloc | apply pw_below_drewN | apply below_drew1 | refine below_set ?_ GE147.out) | exact HB.out)) hb)
         clear BK147
         clear HB
         have HO150 := n0_
         have BK147 := n1_
         have HB := n2_
         clear n0_ n1_ n2_
         clear hb ho25
         obtain ⟨Ao26, co26, eo26⟩ := Kd.R_slice HO150.out
         subst eo26
         obtain ⟨ado26, fo26, _⟩ := Kd.at_string (Kd.R_reads' HO150.out).2.2 0 (by decide) (by rw [Ny148.out]; simp)
         cases fo26
         refine hK.out _ _ ⟨(blk_cell BK147.out 0).trans rfl, (blk_cell BK147.out 1).trans rfl, (blk_cell BK147.out 2).trans rfl, (blk_cell BK147.out 3).trans rfl, (blk_cell BK147.out 4).trans rfl⟩ (fun hHeld => ?_)
         clear hK K
         refine norm_ (a' := ?_) ?_ ?_; rotate_left; show Act.put _ (some 22) _ = _; simp only [Cap.pz]; rfl
         refine Cap.pu (v := ?_) (a' := ?_) 4 (some 25) zf37 HT_ rfl rfl (by kernel_rfl) (fun _ _ _ h => h) (Or.inl ⟨by rfl, ?_⟩) ?_ ?_; rotate_left; intro w'; go_simp; with_reducible rfl; rotate_left; simp only [Cap.pz]; rfl
         exact norm_ (by first | (simp only [putAll, Act.put, List.setIfInBounds_toArray, List.set_cons_zero, List.set_cons_succ]; done) | (simp only [putAll, Act.put, List.setIfInBounds_toArray, List.set_cons_zero, List.set_cons_succ]; rfl)) (hJ1_10_15_20 (.slice (some ado26) y148.length co26, ado26) _ ⟨hHeld, (by first | exact Grow.rg HO150.out | exact HO150.out), ⟨_, rfl⟩, (by first | exact Grow.bk BK147.out | exact BK147.out), (by repeat (first | (with_reducible first | exact HB.out | apply below_alloc | apply pw_below_drewN | apply below_drew1 | refine below_set ?_ GE147.out) | exact HB.out))⟩)
       ·
        skip
        rintro ⟨v149, adz_v149⟩ w26 ⟨hS_, h0_, h1_, h2_, h3_⟩
        have n0_ : Aside0 (Kd.R Kd.string 9 w26 w.heap.size (fun _ => True) v149 y148) := ⟨h0_⟩
        have n1_ : Aside0 (∃ c_, (v149 : Value) = .slice (some adz_v149) y148.length c_) := ⟨h1_⟩
        have n2_ : Aside0 (w26.heap[gb147]? = some (.cells #[.int .i64 ((rd_T58 l0 x4_1).f0), .slice A146_1 ((rd_T58 l0 x4_1).f1).length c146_1, .slice A146_2 ((rd_T58 l0 x4_1).f2).length c146_2, .slice A146_3 ((rd_T58 l0 x4_1).f3).length c146_3, .slice A146_4 ((rd_T58 l0 x4_1).f4).length c146_4] 58 (0, 0))) := ⟨h2_⟩
        have n3_ : Aside0 (Below w.heap.size w w26) := ⟨h3_⟩
        clear BK147
        clear HB
        clear h0_ h1_ h2_ h3_
        have HO150 := n0_
        have HA_HO150 := n1_
        have BK147 := n2_
        have HB := n3_
        clear n0_ n1_ n2_ n3_
        have hHeld : w26.cell? ⟨gb147, 0, none⟩ = some (.int .i64 ((rd_T58 l0 x4_1).f0)) ∧ w26.cell? ⟨gb147, 1, none⟩ = some (.slice A146_1 ((rd_T58 l0 x4_1).f1).length c146_1) ∧ w26.cell? ⟨gb147, 2, none⟩ = some (.slice A146_2 ((rd_T58 l0 x4_1).f2).length c146_2) ∧ w26.cell? ⟨gb147, 3, none⟩ = some (.slice A146_3 ((rd_T58 l0 x4_1).f3).length c146_3) ∧ w26.cell? ⟨gb147, 4, none⟩ = some (.slice A146_4 ((rd_T58 l0 x4_1).f4).length c146_4) := hS_
        obtain ⟨co27, eo27⟩ := HA_HO150.out
        clear HA_HO150
        subst eo27
        refine norm_ (a' := ?_) ?_ ?_
        rotate_left
        ·
         simp only [putAll, Act.put, List.setIfInBounds_toArray, List.set_cons_zero, List.set_cons_succ]
         rfl
        refine two_ (i := 5) (j := 20) (Ni := some 26) (Nj := some 41) zf56 zf37 rfl rfl rfl rfl (two_of HT_.out (by kernel_rfl)) (by decide) (by decide) (fun K hK => ?_) (fun K hK => ?_)
        ·
         skip
         (have p151 : 0 ≤ (((rd_T58 l0 x4_1).f0) : Int) := of_decide_eq_true (by first | (with_reducible assumption) | assumption); have q151 : ((rd_T58 l0 x4_1).f0) < (y148.length : Int) := of_decide_eq_true (by first | (with_reducible assumption) | assumption); obtain ⟨ad151, e151, hx151_0⟩ := Kd.at_string (Kd.R_reads' HO150.out).2.2 ((rd_T58 l0 x4_1).f0) p151 q151; obtain rfl : adz_v149 = ad151 := (by injection e151))
         refine value_ (w1 := ?_) (v := ?_) (by rfl) rfl ?_ ?_
         rotate_left 2
         ·
          go_simp
          constructor
          ·
           rfl
          ·
           rfl
         clear hx151_0
         refine hK.out _ _ ⟨(blk_cell BK147.out 0).trans rfl, (blk_cell BK147.out 1).trans rfl, (blk_cell BK147.out 2).trans rfl, (blk_cell BK147.out 3).trans rfl, (blk_cell BK147.out 4).trans rfl⟩ (fun hHeld => ?_)
         clear hK K
         refine norm_ (a' := ?_) ?_ ?_; rotate_left; show Act.put _ (some 26) _ = _; simp only [Cap.pz]; rfl
         refine Cap.pu (v := ?_) (a' := ?_) 6 (some 27) zf57 HT_ rfl rfl (by kernel_rfl) (fun _ _ _ h => h) (Or.inl ⟨by rfl, ?_⟩) ?_ ?_; rotate_left; intro w'; go_simp; with_reducible rfl; rotate_left; simp only [Cap.pz]; rfl
         refine Cap.pu (v := ?_) (a' := ?_) 7 (some 28) zf58 HT_ rfl rfl (by kernel_rfl) (fun _ _ _ h => h) (Or.inl ⟨by rfl, ?_⟩) ?_ ?_; rotate_left; intro w'; go_simp; with_reducible rfl; rotate_left; simp only [Cap.pz]; rfl
         refine Cap.pu (v := ?_) (a' := ?_) 11 (some 32) zf59 HT_ rfl rfl (by kernel_rfl) (fun _ _ _ h => h) (Or.inl ⟨by rfl, ?_⟩) ?_ ?_; rotate_left; intro w'; go_simp; with_reducible rfl; rotate_left; simp only [Cap.pz]; rfl
         refine Cap.pu (v := ?_) (a' := ?_) 12 (some 33) zf60 HT_ rfl rfl (by kernel_rfl) (fun _ _ _ h => h) (Or.inl ⟨by rfl, ?_⟩) ?_ ?_; rotate_left; intro w'; go_simp; with_reducible rfl; rotate_left; simp only [Cap.pz]; rfl
         refine Cap.pu (v := ?_) (a' := ?_) 16 (some 37) zf61 HT_ rfl rfl (by kernel_rfl) (fun _ _ _ h => h) (Or.inl ⟨by rfl, ?_⟩) ?_ ?_; rotate_left; intro w'; go_simp; with_reducible rfl; rotate_left; simp only [Cap.pz]; rfl
         refine Cap.pu (v := ?_) (a' := ?_) 17 (some 38) zf36 HT_ rfl rfl (by kernel_rfl) (fun _ _ _ h => h) (Or.inl ⟨by rfl, ?_⟩) ?_ ?_; rotate_left; intro w'; go_simp; with_reducible rfl; rotate_left; simp only [Cap.pz]; rfl
         exact norm_ (by first | (simp only [putAll, Act.put, List.setIfInBounds_toArray, List.set_cons_zero, List.set_cons_succ]; done) | (simp only [putAll, Act.put, List.setIfInBounds_toArray, List.set_cons_zero, List.set_cons_succ]; rfl)) (hJ1_5_10_15 (.slice (some adz_v149) y148.length co27, adz_v149) _ ⟨hHeld, (by first | exact Grow.rg HO150.out | exact HO150.out), ⟨_, rfl⟩, (by first | exact Grow.bk BK147.out | exact BK147.out), (by repeat (first | (with_reducible first | exact HB.out | apply below_alloc | apply pw_below_drewN | apply below_drew1 | refine below_set ?_ GE147.out) | exact HB.out))⟩)
        ·
         skip
         refine goes_ Tryd.func32 (by kernel_rfl) rfl #[.slice A146_3 ((rd_T58 l0 x4_1).f3).length c146_3] (by rfl) rfl rfl (by (try simp only [List.map_toArray, List.map_cons, List.map_nil]); first | done | rfl | (simp only [List.length_drop, List.length_take]; rfl)) ?_
         with_reducible refine (spec_l09Join.calls k1 _ _ ((rd_T58 l0 x4_1).f3) t154 _ ?side1 ?side2 A17.out).mono ?_
         (case side1 => first | exact Grow.cb HR146_3.out HB.out | exact Kd.C_below HR146_3.out HB.out)
         (case side2 => exact HC146_3.out)
         rintro e w' ⟨rfl, ⟨nd, rfl⟩⟩
         refine ⟨_, rfl, ?_⟩
         refine hK.out _ _ ⟨(blk_cell BK147.out 0).trans rfl, (blk_cell BK147.out 1).trans rfl, (blk_cell BK147.out 2).trans rfl, (blk_cell BK147.out 3).trans rfl, (blk_cell BK147.out 4).trans rfl⟩ (fun hHeld => ?_)
         clear hK K
         refine norm_ (a' := ?_) ?_ ?_; rotate_left; show Act.put _ (some 41) _ = _; simp only [Cap.pz]; rfl
         exact norm_ (by first | (simp only [putAll, Act.put, List.setIfInBounds_toArray, List.set_cons_zero, List.set_cons_succ]; done) | (simp only [putAll, Act.put, List.setIfInBounds_toArray, List.set_cons_zero, List.set_cons_succ]; rfl)) (hJ1_10_15_20 (.slice (some adz_v149) y148.length co27, adz_v149) _ ⟨hHeld, (by first | exact Grow.rg HO150.out | exact HO150.out), ⟨_, rfl⟩, (by first | exact Grow.bk BK147.out | exact BK147.out), (by repeat (first | (with_reducible first | exact HB.out | apply below_alloc | apply pw_below_drewN | apply below_drew1 | refine below_set ?_ GE147.out) | exact HB.out))⟩)
      ·
       skip
       rintro ⟨v149, adz_v149⟩ w26 ⟨hS_, h0_, h1_, h2_, h3_⟩
       have n0_ : Aside0 (Kd.R Kd.string 9 w26 w.heap.size (fun _ => True) v149 y148) := ⟨h0_⟩
       have n1_ : Aside0 (∃ c_, (v149 : Value) = .slice (some adz_v149) y148.length c_) := ⟨h1_⟩
       have n2_ : Aside0 (w26.heap[gb147]? = some (.cells #[.int .i64 ((rd_T58 l0 x4_1).f0), .slice A146_1 ((rd_T58 l0 x4_1).f1).length c146_1, .slice A146_2 ((rd_T58 l0 x4_1).f2).length c146_2, .slice A146_3 ((rd_T58 l0 x4_1).f3).length c146_3, .slice A146_4 ((rd_T58 l0 x4_1).f4).length c146_4] 58 (0, 0))) := ⟨h2_⟩
       have n3_ : Aside0 (Below w.heap.size w w26) := ⟨h3_⟩
       clear BK147
       clear HB
       clear h0_ h1_ h2_ h3_
       have HO150 := n0_
       have HA_HO150 := n1_
       have BK147 := n2_
       have HB := n3_
       clear n0_ n1_ n2_ n3_
       have hHeld : w26.cell? ⟨gb147, 0, none⟩ = some (.int .i64 ((rd_T58 l0 x4_1).f0)) ∧ w26.cell? ⟨gb147, 1, none⟩ = some (.slice A146_1 ((rd_T58 l0 x4_1).f1).length c146_1) ∧ w26.cell? ⟨gb147, 2, none⟩ = some (.slice A146_2 ((rd_T58 l0 x4_1).f2).length c146_2) ∧ w26.cell? ⟨gb147, 3, none⟩ = some (.slice A146_3 ((rd_T58 l0 x4_1).f3).length c146_3) ∧ w26.cell? ⟨gb147, 4, none⟩ = some (.slice A146_4 ((rd_T58 l0 x4_1).f4).length c146_4) := hS_
       obtain ⟨co27, eo27⟩ := HA_HO150.out
       clear HA_HO150
       subst eo27
       refine norm_ (a' := ?_) ?_ ?_
       rotate_left
       ·
        simp only [putAll, Act.put, List.setIfInBounds_toArray, List.set_cons_zero, List.set_cons_succ]
        rfl
       refine one_ (i := 15) (N := some 36) zf60 rfl rfl (one_of HT_.out (by kernel_rfl)) (by decide) (fun K hK => ?_)
       refine goes_ Tryd.func32 (by kernel_rfl) rfl #[.slice A146_2 ((rd_T58 l0 x4_1).f2).length c146_2] (by rfl) rfl rfl (by (try simp only [List.map_toArray, List.map_cons, List.map_nil]); first | done | rfl | (simp only [List.length_drop, List.length_take]; rfl)) ?_
       with_reducible refine (spec_l09Join.calls k1 _ _ ((rd_T58 l0 x4_1).f2) t153 _ ?side1 ?side2 A14.out).mono ?_
       (case side1 => first | exact Grow.cb HR146_2.out HB.out | exact Kd.C_below HR146_2.out HB.out)
       (case side2 => exact HC146_2.out)
       rintro e w' ⟨rfl, ⟨nd, rfl⟩⟩
       refine ⟨_, rfl, ?_⟩
       refine hK.out _ _ ⟨(blk_cell BK147.out 0).trans rfl, (blk_cell BK147.out 1).trans rfl, (blk_cell BK147.out 2).trans rfl, (blk_cell BK147.out 3).trans rfl, (blk_cell BK147.out 4).trans rfl⟩ (fun hHeld => ?_)
       clear hK K
       refine norm_ (a' := ?_) ?_ ?_; rotate_left; show Act.put _ (some 36) _ = _; simp only [Cap.pz]; rfl
       refine Cap.pu (v := ?_) (a' := ?_) 16 (some 37) zf61 HT_ rfl rfl (by kernel_rfl) (fun _ _ _ h => h) (Or.inl ⟨by rfl, ?_⟩) ?_ ?_; rotate_left; intro w'; go_simp; with_reducible rfl; rotate_left; simp only [Cap.pz]; rfl
       refine Cap.pu (v := ?_) (a' := ?_) 17 (some 38) zf36 HT_ rfl rfl (by kernel_rfl) (fun _ _ _ h => h) (Or.inl ⟨by rfl, ?_⟩) ?_ ?_; rotate_left; intro w'; go_simp; with_reducible rfl; rotate_left; simp only [Cap.pz]; rfl
       exact norm_ (by first | (simp only [putAll, Act.put, List.setIfInBounds_toArray, List.set_cons_zero, List.set_cons_succ]; done) | (simp only [putAll, Act.put, List.setIfInBounds_toArray, List.set_cons_zero, List.set_cons_succ]; rfl)) (hJ1_5_10_15 (.slice (some adz_v149) y148.length co27, adz_v149) _ ⟨hHeld, (by first | exact Grow.rg HO150.out | exact HO150.out), ⟨_, rfl⟩, (by first | exact Grow.bk BK147.out | exact BK147.out), (by repeat (first | (with_reducible first | exact HB.out | apply below_alloc | apply pw_below_drewN | apply below_drew1 | refine below_set ?_ GE147.out) | exact HB.out))⟩)
     ·
      skip
      rintro ⟨v149, adz_v149⟩ w26 ⟨hS_, h0_, h1_, h2_, h3_⟩
      have n0_ : Aside0 (Kd.R Kd.string 9 w26 w.heap.size (fun _ => True) v149 y148) := ⟨h0_⟩
      have n1_ : Aside0 (∃ c_, (v149 : Value) = .slice (some adz_v149) y148.length c_) := ⟨h1_⟩
      have n2_ : Aside0 (w26.heap[gb147]? = some (.cells #[.int .i64 ((rd_T58 l0 x4_1).f0), .slice A146_1 ((rd_T58 l0 x4_1).f1).length c146_1, .slice A146_2 ((rd_T58 l0 x4_1).f2).length c146_2, .slice A146_3 ((rd_T58 l0 x4_1).f3).length c146_3, .slice A146_4 ((rd_T58 l0 x4_1).f4).length c146_4] 58 (0, 0))) := ⟨h2_⟩
      have n3_ : Aside0 (Below w.heap.size w w26) := ⟨h3_⟩
      clear BK147
      clear HB
      clear h0_ h1_ h2_ h3_
      have HO150 := n0_
      have HA_HO150 := n1_
      have BK147 := n2_
      have HB := n3_
      clear n0_ n1_ n2_ n3_
      have hHeld : w26.cell? ⟨gb147, 0, none⟩ = some (.int .i64 ((rd_T58 l0 x4_1).f0)) ∧ w26.cell? ⟨gb147, 1, none⟩ = some (.slice A146_1 ((rd_T58 l0 x4_1).f1).length c146_1) ∧ w26.cell? ⟨gb147, 2, none⟩ = some (.slice A146_2 ((rd_T58 l0 x4_1).f2).length c146_2) ∧ w26.cell? ⟨gb147, 3, none⟩ = some (.slice A146_3 ((rd_T58 l0 x4_1).f3).length c146_3) ∧ w26.cell? ⟨gb147, 4, none⟩ = some (.slice A146_4 ((rd_T58 l0 x4_1).f4).length c146_4) := hS_
      obtain ⟨co27, eo27⟩ := HA_HO150.out
      clear HA_HO150
      subst eo27
      refine norm_ (a' := ?_) ?_ ?_
      rotate_left
      ·
       simp only [putAll, Act.put, List.setIfInBounds_toArray, List.set_cons_zero, List.set_cons_succ]
       rfl
      refine one_ (i := 5) (N := some 26) zf62 rfl rfl (one_of HT_.out (by kernel_rfl)) (by decide) (fun K hK => ?_)
      (have p151 : 0 ≤ (((rd_T58 l0 x4_1).f0) : Int) := of_decide_eq_true (by first | (with_reducible assumption) | assumption); have q151 : ((rd_T58 l0 x4_1).f0) < (y148.length : Int) := of_decide_eq_true (by first | (with_reducible assumption) | assumption); obtain ⟨ad151, e151, hx151_0⟩ := Kd.at_string (Kd.R_reads' HO150.out).2.2 ((rd_T58 l0 x4_1).f0) p151 q151; obtain rfl : adz_v149 = ad151 := (by injection e151))
      refine value_ (w1 := ?_) (v := ?_) (by rfl) rfl ?_ ?_
      rotate_left 2
      ·
       go_simp
       constructor
       ·
        rfl
       ·
        rfl
      clear hx151_0
      refine hK.out _ _ ⟨(blk_cell BK147.out 0).trans rfl, (blk_cell BK147.out 1).trans rfl, (blk_cell BK147.out 2).trans rfl, (blk_cell BK147.out 3).trans rfl, (blk_cell BK147.out 4).trans rfl⟩ (fun hHeld => ?_)
      clear hK K
      refine norm_ (a' := ?_) ?_ ?_; rotate_left; show Act.put _ (some 26) _ = _; simp only [Cap.pz]; rfl
      refine Cap.pu (v := ?_) (a' := ?_) 6 (some 27) zf63 HT_ rfl rfl (by kernel_rfl) (fun _ _ _ h => h) (Or.inl ⟨by rfl, ?_⟩) ?_ ?_; rotate_left; intro w'; go_simp; with_reducible rfl; rotate_left; simp only [Cap.pz]; rfl
      refine Cap.pu (v := ?_) (a' := ?_) 7 (some 28) zf64 HT_ rfl rfl (by kernel_rfl) (fun _ _ _ h => h) (Or.inl ⟨by rfl, ?_⟩) ?_ ?_; rotate_left; intro w'; go_simp; with_reducible rfl; rotate_left; simp only [Cap.pz]; rfl
      refine Cap.pu (v := ?_) (a' := ?_) 11 (some 32) zf65 HT_ rfl rfl (by kernel_rfl) (fun _ _ _ h => h) (Or.inl ⟨by rfl, ?_⟩) ?_ ?_; rotate_left; intro w'; go_simp; with_reducible rfl; rotate_left; simp only [Cap.pz]; rfl
      refine Cap.pu (v := ?_) (a' := ?_) 12 (some 33) zf66 HT_ rfl rfl (by kernel_rfl) (fun _ _ _ h => h) (Or.inl ⟨by rfl, ?_⟩) ?_ ?_; rotate_left; intro w'; go_simp; with_reducible rfl; rotate_left; simp only [Cap.pz]; rfl
      refine Cap.pu (v := ?_) (a' := ?_) 16 (some 37) zf67 HT_ rfl rfl (by kernel_rfl) (fun _ _ _ h => h) (Or.inl ⟨by rfl, ?_⟩) ?_ ?_; rotate_left; intro w'; go_simp; with_reducible rfl; rotate_left; simp only [Cap.pz]; rfl
      refine Cap.pu (v := ?_) (a' := ?_) 17 (some 38) zf35 HT_ rfl rfl (by kernel_rfl) (fun _ _ _ h => h) (Or.inl ⟨by rfl, ?_⟩) ?_ ?_; rotate_left; intro w'; go_simp; with_reducible rfl; rotate_left; simp only [Cap.pz]; rfl
      exact norm_ (by first | (simp only [putAll, Act.put, List.setIfInBounds_toArray, List.set_cons_zero, List.set_cons_succ]; done) | (simp only [putAll, Act.put, List.setIfInBounds_toArray, List.set_cons_zero, List.set_cons_succ]; rfl)) (hJ1_5_10_15_20 (.slice (some adz_v149) y148.length co27, adz_v149) _ ⟨hHeld, (by first | exact Grow.rg HO150.out | exact HO150.out), ⟨_, rfl⟩, (by first | exact Grow.bk BK147.out | exact BK147.out), (by repeat (first | (with_reducible first | exact HB.out | apply below_alloc | apply pw_below_drewN | apply below_drew1 | refine below_set ?_ GE147.out) | exact HB.out))⟩)
    ·
     skip
     rintro ⟨v149, adz_v149⟩ w26 ⟨hS_, h0_, h1_, h2_, h3_⟩
     have n0_ : Aside0 (Kd.R Kd.string 9 w26 w.heap.size (fun _ => True) v149 y148) := ⟨h0_⟩
     have n1_ : Aside0 (∃ c_, (v149 : Value) = .slice (some adz_v149) y148.length c_) := ⟨h1_⟩
     have n2_ : Aside0 (w26.heap[gb147]? = some (.cells #[.int .i64 ((rd_T58 l0 x4_1).f0), .slice A146_1 ((rd_T58 l0 x4_1).f1).length c146_1, .slice A146_2 ((rd_T58 l0 x4_1).f2).length c146_2, .slice A146_3 ((rd_T58 l0 x4_1).f3).length c146_3, .slice A146_4 ((rd_T58 l0 x4_1).f4).length c146_4] 58 (0, 0))) := ⟨h2_⟩
     have n3_ : Aside0 (Below w.heap.size w w26) := ⟨h3_⟩
     clear BK147
     clear HB
     clear h0_ h1_ h2_ h3_
     have HO150 := n0_
     have HA_HO150 := n1_
     have BK147 := n2_
     have HB := n3_
     clear n0_ n1_ n2_ n3_
     have hHeld : w26.cell? ⟨gb147, 0, none⟩ = some (.int .i64 ((rd_T58 l0 x4_1).f0)) ∧ w26.cell? ⟨gb147, 1, none⟩ = some (.slice A146_1 ((rd_T58 l0 x4_1).f1).length c146_1) ∧ w26.cell? ⟨gb147, 2, none⟩ = some (.slice A146_2 ((rd_T58 l0 x4_1).f2).length c146_2) ∧ w26.cell? ⟨gb147, 3, none⟩ = some (.slice A146_3 ((rd_T58 l0 x4_1).f3).length c146_3) ∧ w26.cell? ⟨gb147, 4, none⟩ = some (.slice A146_4 ((rd_T58 l0 x4_1).f4).length c146_4) := hS_
     obtain ⟨co27, eo27⟩ := HA_HO150.out
     clear HA_HO150
     subst eo27
     refine norm_ (a' := ?_) ?_ ?_
     rotate_left
     ·
      simp only [putAll, Act.put, List.setIfInBounds_toArray, List.set_cons_zero, List.set_cons_succ]
      rfl
     refine one_ (i := 20) (N := some 41) zf35 rfl rfl (one_of HT_.out (by kernel_rfl)) (by decide) (fun K hK => ?_)
     refine goes_ Tryd.func32 (by kernel_rfl) rfl #[.slice A146_3 ((rd_T58 l0 x4_1).f3).length c146_3] (by rfl) rfl rfl (by (try simp only [List.map_toArray, List.map_cons, List.map_nil]); first | done | rfl | (simp only [List.length_drop, List.length_take]; rfl)) ?_
     with_reducible refine (spec_l09Join.calls k1 _ _ ((rd_T58 l0 x4_1).f3) t154 _ ?side1 ?side2 A17.out).mono ?_
     (case side1 => first | exact Grow.cb HR146_3.out HB.out | exact Kd.C_below HR146_3.out HB.out)
     (case side2 => exact HC146_3.out)
     rintro e w' ⟨rfl, ⟨nd, rfl⟩⟩
     refine ⟨_, rfl, ?_⟩
     refine hK.out _ _ ⟨(blk_cell BK147.out 0).trans rfl, (blk_cell BK147.out 1).trans rfl, (blk_cell BK147.out 2).trans rfl, (blk_cell BK147.out 3).trans rfl, (blk_cell BK147.out 4).trans rfl⟩ (fun hHeld => ?_)
     clear hK K
     refine norm_ (a' := ?_) ?_ ?_; rotate_left; show Act.put _ (some 41) _ = _; simp only [Cap.pz]; rfl
     exact norm_ (by first | (simp only [putAll, Act.put, List.setIfInBounds_toArray, List.set_cons_zero, List.set_cons_succ]; done) | (simp only [putAll, Act.put, List.setIfInBounds_toArray, List.set_cons_zero, List.set_cons_succ]; rfl)) (hJ1_5_10_15_20 (.slice (some adz_v149) y148.length co27, adz_v149) _ ⟨hHeld, (by first | exact Grow.rg HO150.out | exact HO150.out), ⟨_, rfl⟩, (by first | exact Grow.bk BK147.out | exact BK147.out), (by repeat (first | (with_reducible first | exact HB.out | apply below_alloc | apply pw_below_drewN | apply below_drew1 | refine below_set ?_ GE147.out) | exact HB.out))⟩)
   rintro ⟨v149, adz_v149⟩ w26 ⟨hS_, h0_, h1_, h2_, h3_⟩
   have n0_ : Aside0 (Kd.R Kd.string 9 w26 w.heap.size (fun _ => True) v149 y148) := ⟨h0_⟩
   have n1_ : Aside0 (∃ c_, (v149 : Value) = .slice (some adz_v149) y148.length c_) := ⟨h1_⟩
   have n2_ : Aside0 (w26.heap[gb147]? = some (.cells #[.int .i64 ((rd_T58 l0 x4_1).f0), .slice A146_1 ((rd_T58 l0 x4_1).f1).length c146_1, .slice A146_2 ((rd_T58 l0 x4_1).f2).length c146_2, .slice A146_3 ((rd_T58 l0 x4_1).f3).length c146_3, .slice A146_4 ((rd_T58 l0 x4_1).f4).length c146_4] 58 (0, 0))) := ⟨h2_⟩
   have n3_ : Aside0 (Below w.heap.size w w26) := ⟨h3_⟩
   clear BK147
   clear HB
   clear h0_ h1_ h2_ h3_
   have HO150 := n0_
   have HA_HO150 := n1_
   have BK147 := n2_
   have HB := n3_
   clear n0_ n1_ n2_ n3_
   have hHeld : w26.cell? ⟨gb147, 0, none⟩ = some (.int .i64 ((rd_T58 l0 x4_1).f0)) ∧ w26.cell? ⟨gb147, 1, none⟩ = some (.slice A146_1 ((rd_T58 l0 x4_1).f1).length c146_1) ∧ w26.cell? ⟨gb147, 2, none⟩ = some (.slice A146_2 ((rd_T58 l0 x4_1).f2).length c146_2) ∧ w26.cell? ⟨gb147, 3, none⟩ = some (.slice A146_3 ((rd_T58 l0 x4_1).f3).length c146_3) ∧ w26.cell? ⟨gb147, 4, none⟩ = some (.slice A146_4 ((rd_T58 l0 x4_1).f4).length c146_4) := hS_
   obtain ⟨co27, eo27⟩ := HA_HO150.out
   clear HA_HO150
   subst eo27
   refine norm_ (a' := ?_) ?_ ?_
   rotate_left
   ·
    simp only [putAll, Act.put, List.setIfInBounds_toArray, List.set_cons_zero, List.set_cons_succ]
    rfl
   refine Cap.pu (v := ?_) (a' := ?_) 21 (some 42) zf68 HT_ rfl rfl (by kernel_rfl) (fun _ _ _ h => h) (Or.inl ⟨by rfl, ?_⟩) ?_ ?_; rotate_left; intro w'; go_simp; with_reducible rfl; rotate_left; simp only [Cap.pz]; rfl
   refine Cap.pu (v := ?_) (a' := ?_) 22 (some 3) zf69 HT_ rfl rfl (by kernel_rfl) (fun _ _ _ h => h) (Or.inl ⟨by rfl, ?_⟩) ?_ ?_; rotate_left; intro w'; go_simp; with_reducible rfl; rotate_left; simp only [Cap.pz]; rfl
   refine done_ (done_of HT_.out (by kernel_rfl)) ?_
   try go_wp2
   go_loopg [3, 6] k1 (fun kq v3 v6 w' => ∃ (x3_2 : ByteArray) (x6_2 : Int), v3 = .string x3_2 ∧ v6 = .int .i64 x6_2 ∧ Aside0 (spec_WritePolicy.l1 kq l0 x3_2 x4_1 x6_2 ((rd_T58 l0 x4_1).f0) ((rd_T58 l0 x4_1).f1) ((rd_T58 l0 x4_1).f2) ((rd_T58 l0 x4_1).f3) ((rd_T58 l0 x4_1).f4) = some r) ∧ Aside0 (kq ≤ k1) ∧ Aside0 (w'.heap[gb147]? = some (.cells #[.int .i64 ((rd_T58 l0 x4_1).f0), (.slice A146_1 ((rd_T58 l0 x4_1).f1).length c146_1), (.slice A146_2 ((rd_T58 l0 x4_1).f2).length c146_2), (.slice A146_3 ((rd_T58 l0 x4_1).f3).length c146_3), (.slice A146_4 ((rd_T58 l0 x4_1).f4).length c146_4)] 58 (0, 0))) ∧ Aside0 (Below w.heap.size w w'))
   case atStart => exact ⟨(((((((x3_1 ++ (rdOf ByteArray.empty y148 ((rd_T58 l0 x4_1).f0))) ++ (⟨#[32, 119, 104, 111, 32]⟩ : ByteArray)) ++ t152) ++ (⟨#[32, 100, 111, 32]⟩ : ByteArray)) ++ t153) ++ (⟨#[32, 111, 110, 32]⟩ : ByteArray)) ++ t154), (0), (by first | rfl | (simp; done) | (simp [*]; done)), (by first | rfl | (simp; done) | (simp [*]; done)), H', ⟨Nat.le_refl _⟩, ⟨by first | exact Grow.bk BK147.out | exact BK147.out⟩, ⟨by repeat (first | (with_reducible first | exact HB.out | apply below_alloc | apply pw_below_drewN | apply below_drew1 | refine below_set ?_ GE147.out) | exact HB.out)⟩⟩
   case round =>
    clear H'
    try clear c1
    try clear p1
    try clear q1
    try clear hx1
    try clear p2
    try clear c3
    try clear c14
    try clear p15
    try clear q15
    try clear hx15
    try clear hx151_0
    try clear p151
    try clear q151
    obtain ⟨x3_2, x6_2, rfl, rfl, HA, HK2, BK147, HB⟩ := hrel
    cases gk with
    | zero => exact absurd HA.out (by simp [spec_WritePolicy.l1])
    | succ k2 =>
     have H := HA.out
     clear HA
     simp only [spec_WritePolicy.l1] at H
     by_cases c28 : x6_2 < (((rd_T58 l0 x4_1).f4).length : Int)
     rotate_left
     ·
      rw [if_neg c28] at H
      have c28b0 : decide (x6_2 < (((rd_T58 l0 x4_1).f4).length : Int)) = false := decide_eq_false c28
      clear c28
      by_cases c66 : x3_2.size + 1 ≤ 9223372036854775807
      rotate_left
      ·
       rw [if_neg c66] at H
       exact absurd H (by simp)
      rw [if_pos c66] at H
      have c66b0 := eq_true c66
      have c66b1 : decide (x3_2.size + 1 ≤ 9223372036854775807) = true := decide_eq_true c66
      try have c66b2 : (9223372036854775807 < x3_2.size + 1) = False := eq_false (Nat.not_lt.2 c66)
      by_cases c67 : ((x3_2 ++ (⟨#[10]⟩ : ByteArray)).size : Int) > 10000
      ·
       rw [if_pos c67] at H
       have c67b0 : decide (10000 < ((x3_2 ++ (⟨#[10]⟩ : ByteArray)).size : Int)) = true := decide_eq_true c67
       have c67b1 : decide (10000 < (x3_2 ++ (⟨#[10]⟩ : ByteArray)).size) = true := decide_eq_true (by omega)
       have c67b3 : decide (10000 < x3_2.size + 1) = true := (congrArg (fun n_ : Nat => decide (10000 < n_)) (show x3_2.size + 1 = (x3_2 ++ (⟨#[10]⟩ : ByteArray)).size from by rw [ByteArray.size_append]; rfl)).trans c67b1
       have c67b4 : decide (10000 < (x3_2.size : Int) + 1) = true := decide_eq_true (by have q_ := of_decide_eq_true c67b3; omega)
       clear c67
       obtain rfl := Option.some.inj H
       have hcz68_0 : wr.cell? ⟨gb147, 0, none⟩ = some (.int .i64 ((rd_T58 l0 x4_1).f0)) := (blk_cell BK147.out 0).trans rfl
       have hcz68_1 : wr.cell? ⟨gb147, 1, none⟩ = some (.slice A146_1 ((rd_T58 l0 x4_1).f1).length c146_1) := (blk_cell BK147.out 1).trans rfl
       have hcz68_2 : wr.cell? ⟨gb147, 2, none⟩ = some (.slice A146_2 ((rd_T58 l0 x4_1).f2).length c146_2) := (blk_cell BK147.out 2).trans rfl
       have hcz68_3 : wr.cell? ⟨gb147, 3, none⟩ = some (.slice A146_3 ((rd_T58 l0 x4_1).f3).length c146_3) := (blk_cell BK147.out 3).trans rfl
       have hcz68_4 : wr.cell? ⟨gb147, 4, none⟩ = some (.slice A146_4 ((rd_T58 l0 x4_1).f4).length c146_4) := (blk_cell BK147.out 4).trans rfl
       have hfz68_0 := blk_frozen BK147.out 0
       have hfz68_1 := blk_frozen BK147.out 1
       have hfz68_2 := blk_frozen BK147.out 2
       have hfz68_3 := blk_frozen BK147.out 3
       have hfz68_4 := blk_frozen BK147.out 4
       go_wp2
       go_ret
       exact ⟨by first | rfl | (simp [errW_none, errW_some] <;> rfl) | (simp [*, errW_none, errW_some] <;> rfl), by repeat (first | (with_reducible first | exact HB.out | apply below_alloc | apply pw_below_drewN | apply below_drew1 | refine below_set ?_ GE147.out) | exact HB.out)⟩
      rw [if_neg c67] at H
      have c67b0 : decide (10000 < ((x3_2 ++ (⟨#[10]⟩ : ByteArray)).size : Int)) = false := decide_eq_false c67
      have c67b1 : decide (10000 < (x3_2 ++ (⟨#[10]⟩ : ByteArray)).size) = false := decide_eq_false (by omega)
      have c67b3 : decide (10000 < x3_2.size + 1) = false := (congrArg (fun n_ : Nat => decide (10000 < n_)) (show x3_2.size + 1 = (x3_2 ++ (⟨#[10]⟩ : ByteArray)).size from by rw [ByteArray.size_append]; rfl)).trans c67b1
      have c67b4 : decide (10000 < (x3_2.size : Int) + 1) = false := decide_eq_false (by have q_ := of_decide_eq_false c67b3; omega)
      clear c67
      have H' := Aside0.mk H
      clear H
      have hcz69_0 : wr.cell? ⟨gb147, 0, none⟩ = some (.int .i64 ((rd_T58 l0 x4_1).f0)) := (blk_cell BK147.out 0).trans rfl
      have hcz69_1 : wr.cell? ⟨gb147, 1, none⟩ = some (.slice A146_1 ((rd_T58 l0 x4_1).f1).length c146_1) := (blk_cell BK147.out 1).trans rfl
      have hcz69_2 : wr.cell? ⟨gb147, 2, none⟩ = some (.slice A146_2 ((rd_T58 l0 x4_1).f2).length c146_2) := (blk_cell BK147.out 2).trans rfl
      have hcz69_3 : wr.cell? ⟨gb147, 3, none⟩ = some (.slice A146_3 ((rd_T58 l0 x4_1).f3).length c146_3) := (blk_cell BK147.out 3).trans rfl
      have hcz69_4 : wr.cell? ⟨gb147, 4, none⟩ = some (.slice A146_4 ((rd_T58 l0 x4_1).f4).length c146_4) := (blk_cell BK147.out 4).trans rfl
      have hfz69_0 := blk_frozen BK147.out 0
      have hfz69_1 := blk_frozen BK147.out 1
      have hfz69_2 := blk_frozen BK147.out 2
      have hfz69_3 := blk_frozen BK147.out 3
      have hfz69_4 := blk_frozen BK147.out 4
      go_wp2
      go_roundg k2
      case measure => have := HK1.out; have := HK2.out; omega
      case rel => exact ⟨(x3_2 ++ (⟨#[10]⟩ : ByteArray)), (wrap64 (x4_1 + 1)), (by first | rfl | (simp; done) | (simp [*]; done)), (by first | rfl | (simp; done) | (simp [*]; done)), H', ⟨by have := HK1.out; have := HK2.out; omega⟩, ⟨by repeat (first | (with_reducible first | exact HB.out | apply below_alloc | apply pw_below_drewN | apply below_drew1 | refine below_set ?_ GE147.out) | exact HB.out)⟩⟩
     rw [if_pos c28] at H
     have c28b0 : decide (x6_2 < (((rd_T58 l0 x4_1).f4).length : Int)) = true := decide_eq_true c28
     clear c28
     by_cases c29 : 0 ≤ x6_2
     rotate_left
     ·
      rw [if_neg c29] at H
      exact absurd H (by simp)
     rw [if_pos c29] at H
     have c29b0 : decide (0 ≤ x6_2) = true := decide_eq_true c29
     clear c29
     by_cases c30 : x3_2.size + 1 ≤ 9223372036854775807
     rotate_left
     ·
      rw [if_neg c30] at H
      exact absurd H (by simp)
     rw [if_pos c30] at H
     have c30b0 := eq_true c30
     have c30b1 : decide (x3_2.size + 1 ≤ 9223372036854775807) = true := decide_eq_true c30
     try have c30b2 : (9223372036854775807 < x3_2.size + 1) = False := eq_false (Nat.not_lt.2 c30)
     obtain ⟨y157, hy157⟩ : ∃ y_ : List ByteArray, y_ = (([(⟨#[]⟩ : ByteArray), (⟨#[112, 114, 101, 102, 105, 120]⟩ : ByteArray), (⟨#[98, 101, 102, 111, 114, 101]⟩ : ByteArray), (⟨#[97, 102, 116, 101, 114]⟩ : ByteArray), (⟨#[102, 114, 111, 109]⟩ : ByteArray)] : List ByteArray)) := ⟨_, rfl⟩
     replace H : (if 0 ≤ ((rd_T61 ((rd_T58 l0 x4_1).f4) x6_2).f0) then (if ((rd_T61 ((rd_T58 l0 x4_1).f4) x6_2).f0) < (y157.length : Int) then (if (x3_2 ++ (⟨#[32]⟩ : ByteArray)).size + (rdOf ByteArray.empty y157 ((rd_T61 ((rd_T58 l0 x4_1).f4) x6_2).f0)).size ≤ 9223372036854775807 then (if ((x3_2 ++ (⟨#[32]⟩ : ByteArray)) ++ (rdOf ByteArray.empty y157 ((rd_T61 ((rd_T58 l0 x4_1).f4) x6_2).f0))).size + 1 ≤ 9223372036854775807 then (if ((rd_T61 ((rd_T58 l0 x4_1).f4) x6_2).f0) = 1 then (if (((x3_2 ++ (⟨#[32]⟩ : ByteArray)) ++ (rdOf ByteArray.empty y157 ((rd_T61 ((rd_T58 l0 x4_1).f4) x6_2).f0))) ++ (⟨#[32]⟩ : ByteArray)).size + ((rd_T61 ((rd_T58 l0 x4_1).f4) x6_2).f1).size ≤ 9223372036854775807 then (spec_WritePolicy.l1 k2 l0 ((((x3_2 ++ (⟨#[32]⟩ : ByteArray)) ++ (rdOf ByteArray.empty y157 ((rd_T61 ((rd_T58 l0 x4_1).f4) x6_2).f0))) ++ (⟨#[32]⟩ : ByteArray)) ++ ((rd_T61 ((rd_T58 l0 x4_1).f4) x6_2).f1)) x4_1 (wrap64 (x6_2 + 1)) ((rd_T58 l0 x4_1).f0) ((rd_T58 l0 x4_1).f1) ((rd_T58 l0 x4_1).f2) ((rd_T58 l0 x4_1).f3) ((rd_T58 l0 x4_1).f4)) else (none)) else (if ((rd_T61 ((rd_T58 l0 x4_1).f4) x6_2).f0) = 4 then (if (((x3_2 ++ (⟨#[32]⟩ : ByteArray)) ++ (rdOf ByteArray.empty y157 ((rd_T61 ((rd_T58 l0 x4_1).f4) x6_2).f0))) ++ (⟨#[32]⟩ : ByteArray)).size + ((rd_T61 ((rd_T58 l0 x4_1).f4) x6_2).f1).size ≤ 9223372036854775807 then (spec_WritePolicy.l1 k2 l0 ((((x3_2 ++ (⟨#[32]⟩ : ByteArray)) ++ (rdOf ByteArray.empty y157 ((rd_T61 ((rd_T58 l0 x4_1).f4) x6_2).f0))) ++ (⟨#[32]⟩ : ByteArray)) ++ ((rd_T61 ((rd_T58 l0 x4_1).f4) x6_2).f1)) x4_1 (wrap64 (x6_2 + 1)) ((rd_T58 l0 x4_1).f0) ((rd_T58 l0 x4_1).f1) ((rd_T58 l0 x4_1).f2) ((rd_T58 l0 x4_1).f3) ((rd_T58 l0 x4_1).f4)) else (none)) else ((spec_l01Dec.f k2 ((rd_T61 ((rd_T58 l0 x4_1).f4) x6_2).f2)).bind fun t161 => (if (((x3_2 ++ (⟨#[32]⟩ : ByteArray)) ++ (rdOf ByteArray.empty y157 ((rd_T61 ((rd_T58 l0 x4_1).f4) x6_2).f0))) ++ (⟨#[32]⟩ : ByteArray)).size + t161.size ≤ 9223372036854775807 then (spec_WritePolicy.l1 k2 l0 ((((x3_2 ++ (⟨#[32]⟩ : ByteArray)) ++ (rdOf ByteArray.empty y157 ((rd_T61 ((rd_T58 l0 x4_1).f4) x6_2).f0))) ++ (⟨#[32]⟩ : ByteArray)) ++ t161) x4_1 (wrap64 (x6_2 + 1)) ((rd_T58 l0 x4_1).f0) ((rd_T58 l0 x4_1).f1) ((rd_T58 l0 x4_1).f2) ((rd_T58 l0 x4_1).f3) ((rd_T58 l0 x4_1).f4)) else (none))))) else (none)) else (none)) else (none)) else (none)) = some r := by first | (rw [hy157]; with_reducible exact H) | (have H2_ := (Option.bind_some _ _).symm.trans H; rw [hy157]; with_reducible exact H2_) | (have H2_ := (Option.bind_some _ _).symm.trans H; with_reducible exact H2_) | with_reducible exact H | (rw [hy157]; exact H) | exact H
     have Ny157 := Aside0.mk hy157
     clear hy157
     by_cases c31 : 0 ≤ ((rd_T61 ((rd_T58 l0 x4_1).f4) x6_2).f0)
     rotate_left
     ·
      rw [if_neg c31] at H
      exact absurd H (by simp)
     rw [if_pos c31] at H
     have c31b0 : decide (0 ≤ ((rd_T61 ((rd_T58 l0 x4_1).f4) x6_2).f0)) = true := decide_eq_true c31
     clear c31
     by_cases c32 : ((rd_T61 ((rd_T58 l0 x4_1).f4) x6_2).f0) < (y157.length : Int)
     rotate_left
     ·
      rw [if_neg c32] at H
      exact absurd H (by simp)
     rw [if_pos c32] at H
     have c32b0 : decide (((rd_T61 ((rd_T58 l0 x4_1).f4) x6_2).f0) < (y157.length : Int)) = true := decide_eq_true c32
     clear c32
     by_cases c33 : (x3_2 ++ (⟨#[32]⟩ : ByteArray)).size + (rdOf ByteArray.empty y157 ((rd_T61 ((rd_T58 l0 x4_1).f4) x6_2).f0)).size ≤ 9223372036854775807
     rotate_left
     ·
      rw [if_neg c33] at H
      exact absurd H (by simp)
     rw [if_pos c33] at H
     have c33b0 := eq_true c33
     have c33z := c33
     simp only [ByteArray.size_append, show (⟨#[32]⟩ : ByteArray).size = 1 from rfl] at c33z
     have c33z0 := eq_true c33z
     have c33z1 := decide_eq_true c33z
     try have c33z2 := eq_false (Nat.not_lt.2 c33z)
     have c33b1 : decide ((x3_2 ++ (⟨#[32]⟩ : ByteArray)).size + (rdOf ByteArray.empty y157 ((rd_T61 ((rd_T58 l0 x4_1).f4) x6_2).f0)).size ≤ 9223372036854775807) = true := decide_eq_true c33
     try have c33b2 : (9223372036854775807 < (x3_2 ++ (⟨#[32]⟩ : ByteArray)).size + (rdOf ByteArray.empty y157 ((rd_T61 ((rd_T58 l0 x4_1).f4) x6_2).f0)).size) = False := eq_false (Nat.not_lt.2 c33)
     by_cases c34 : ((x3_2 ++ (⟨#[32]⟩ : ByteArray)) ++ (rdOf ByteArray.empty y157 ((rd_T61 ((rd_T58 l0 x4_1).f4) x6_2).f0))).size + 1 ≤ 9223372036854775807
     rotate_left
     ·
      rw [if_neg c34] at H
      exact absurd H (by simp)
     rw [if_pos c34] at H
     have c34b0 := eq_true c34
     have c34z := c34
     simp only [ByteArray.size_append, show (⟨#[32]⟩ : ByteArray).size = 1 from rfl] at c34z
     have c34z0 := eq_true c34z
     have c34z1 := decide_eq_true c34z
     try have c34z2 := eq_false (Nat.not_lt.2 c34z)
     have c34b1 : decide (((x3_2 ++ (⟨#[32]⟩ : ByteArray)) ++ (rdOf ByteArray.empty y157 ((rd_T61 ((rd_T58 l0 x4_1).f4) x6_2).f0))).size + 1 ≤ 9223372036854775807) = true := decide_eq_true c34
     try have c34b2 : (9223372036854775807 < ((x3_2 ++ (⟨#[32]⟩ : ByteArray)) ++ (rdOf ByteArray.empty y157 ((rd_T61 ((rd_T58 l0 x4_1).f4) x6_2).f0))).size + 1) = False := eq_false (Nat.not_lt.2 c34)
     by_cases c35 : ((rd_T61 ((rd_T58 l0 x4_1).f4) x6_2).f0) = 1
     ·
      rw [if_pos c35] at H
      have c35b0 : (((rd_T61 ((rd_T58 l0 x4_1).f4) x6_2).f0) == 1) = true := beq_iff_eq.mpr c35
      have c35b1 : (((rd_T61 ((rd_T58 l0 x4_1).f4) x6_2).f0) != 1) = false := bne_eq_false_iff_eq.mpr c35
      clear c35
      by_cases c36 : (((x3_2 ++ (⟨#[32]⟩ : ByteArray)) ++ (rdOf ByteArray.empty y157 ((rd_T61 ((rd_T58 l0 x4_1).f4) x6_2).f0))) ++ (⟨#[32]⟩ : ByteArray)).size + ((rd_T61 ((rd_T58 l0 x4_1).f4) x6_2).f1).size ≤ 9223372036854775807
      rotate_left
      ·
       rw [if_neg c36] at H
       exact absurd H (by simp)
      rw [if_pos c36] at H
      have c36b0 := eq_true c36
      have c36z := c36
      simp only [ByteArray.size_append, show (⟨#[32]⟩ : ByteArray).size = 1 from rfl] at c36z
      have c36z0 := eq_true c36z
      have c36z1 := decide_eq_true c36z
      try have c36z2 := eq_false (Nat.not_lt.2 c36z)
      have c36b1 : decide ((((x3_2 ++ (⟨#[32]⟩ : ByteArray)) ++ (rdOf ByteArray.empty y157 ((rd_T61 ((rd_T58 l0 x4_1).f4) x6_2).f0))) ++ (⟨#[32]⟩ : ByteArray)).size + ((rd_T61 ((rd_T58 l0 x4_1).f4) x6_2).f1).size ≤ 9223372036854775807) = true := decide_eq_true c36
      try have c36b2 : (9223372036854775807 < (((x3_2 ++ (⟨#[32]⟩ : ByteArray)) ++ (rdOf ByteArray.empty y157 ((rd_T61 ((rd_T58 l0 x4_1).f4) x6_2).f0))) ++ (⟨#[32]⟩ : ByteArray)).size + ((rd_T61 ((rd_T58 l0 x4_1).f4) x6_2).f1).size) = False := eq_false (Nat.not_lt.2 c36)
      have H' := Aside0.mk H
      clear H
      have hcz37_0 : wr.cell? ⟨gb147, 0, none⟩ = some (.int .i64 ((rd_T58 l0 x4_1).f0)) := (blk_cell BK147.out 0).trans rfl
      have hcz37_1 : wr.cell? ⟨gb147, 1, none⟩ = some (.slice A146_1 ((rd_T58 l0 x4_1).f1).length c146_1) := (blk_cell BK147.out 1).trans rfl
      have hcz37_2 : wr.cell? ⟨gb147, 2, none⟩ = some (.slice A146_2 ((rd_T58 l0 x4_1).f2).length c146_2) := (blk_cell BK147.out 2).trans rfl
      have hcz37_3 : wr.cell? ⟨gb147, 3, none⟩ = some (.slice A146_3 ((rd_T58 l0 x4_1).f3).length c146_3) := (blk_cell BK147.out 3).trans rfl
      have hcz37_4 : wr.cell? ⟨gb147, 4, none⟩ = some (.slice A146_4 ((rd_T58 l0 x4_1).f4).length c146_4) := (blk_cell BK147.out 4).trans rfl
      have hfz37_0 := blk_frozen BK147.out 0
      have hfz37_1 := blk_frozen BK147.out 1
      have hfz37_2 := blk_frozen BK147.out 2
      have hfz37_3 := blk_frozen BK147.out 3
      have hfz37_4 := blk_frozen BK147.out 4
      have p155 : 0 ≤ (x6_2 : Int) := of_decide_eq_true (by first | (with_reducible assumption) | assumption)
      have q155 : x6_2 < (((rd_T58 l0 x4_1).f4).length : Int) := of_decide_eq_true (by first | (with_reducible assumption) | assumption)
      obtain ⟨ad155, e155, hx155_0, hx155_1, hx155_2⟩ := at_T61 HR146_4.out x6_2 p155 q155
      cases e155
      replace hx155_0 := Grow.bc HB.out hx155_0
      replace hx155_1 := Grow.bc HB.out hx155_1
      replace hx155_2 := Grow.bc HB.out hx155_2
      replace p155 := eq_true p155
      replace q155 := eq_true q155
      go_wp2_with (first | ((with_reducible refine gate_dst (N := 7) rfl ?_); refine box_event ?hg (N := 7) ?hd (cs := #[.int .i64 0, .string (⟨#[]⟩ : ByteArray), .int .i64 0]) (t := 61) ?hr ?_; (case hd => rfl); (case hg => rfl); (case hr => first | (go_simp; done) | (go_simp; rfl)); intro gb156 hg w38 hbox hb; have n0_ := Aside0.mk (blk_below (g := gb147) (o := .cells #[.int .i64 ((rd_T58 l0 x4_1).f0), .slice A146_1 ((rd_T58 l0 x4_1).f1).length c146_1, .slice A146_2 ((rd_T58 l0 x4_1).f2).length c146_2, .slice A146_3 ((rd_T58 l0 x4_1).f3).length c146_3, .slice (some ad155) ((rd_T58 l0 x4_1).f4).length c146_4] 58 (0, 0)) (by first | exact Grow.bk BK147.out | exact BK147.out) hb); have n1_ := Aside0.mk (below_step (by repeat (first | (with_reducible first | exact HB.out | apply below_alloc | apply pw_below_drewN | apply below_drew1 | refine below_set ?_ GE147.out) | exact HB.out)) hb); have n2_ := Aside0.mk (hbox); have n3_ := Aside0.mk ((by rw [hg]; exact (below_size (by repeat (first | (with_reducible first | exact HB.out | apply below_alloc | apply pw_below_drewN | apply below_drew1 | refine below_set ?_ GE147.out) | exact HB.out))) : w.heap.size ≤ gb156)); have n4_ := Aside0.mk ((by rw [hg]; exact (below_size (by repeat (first | (with_reducible first | exact HB.out | apply below_alloc | apply pw_below_drewN | apply below_drew1 | refine below_set ?_ GE147.out) | exact HB.out))) : w.heap.size ≤ gb156)); have n5_ := Aside0.mk ((by rw [hg]; exact Nat.ne_of_lt (blk_lt (g := gb147) (o := .cells #[.int .i64 ((rd_T58 l0 x4_1).f0), .slice A146_1 ((rd_T58 l0 x4_1).f1).length c146_1, .slice A146_2 ((rd_T58 l0 x4_1).f2).length c146_2, .slice A146_3 ((rd_T58 l0 x4_1).f3).length c146_3, .slice (some ad155) ((rd_T58 l0 x4_1).f4).length c146_4] 58 (0, 0)) (by first | exact Grow.bk BK147.out | exact BK147.out)) : gb147 ≠ gb156)); have n6_ := Aside0.mk ((by rw [hg]; exact Nat.ne_of_gt (blk_lt (g := gb147) (o := .cells #[.int .i64 ((rd_T58 l0 x4_1).f0), .slice A146_1 ((rd_T58 l0 x4_1).f1).length c146_1, .slice A146_2 ((rd_T58 l0 x4_1).f2).length c146_2, .slice A146_3 ((rd_T58 l0 x4_1).f3).length c146_3, .slice (some ad155) ((rd_T58 l0 x4_1).f4).length c146_4] 58 (0, 0)) (by first | exact Grow.bk BK147.out | exact BK147.out)) : gb156 ≠ gb147)); clear BK147; clear HB; have BK147 := n0_; have HB := n1_; have BK156 := n2_; have GW156 := n3_; have GE156 := n4_; have NB147_156 := n5_; have NB156_147 := n6_; clear n0_ n1_ n2_ n3_ n4_ n5_ n6_; clear hb hbox hg; have hnb39 := NB156_147.out; have hnc39 := NB147_156.out; have hcz40_0 : w38.cell? ⟨gb156, 0, none⟩ = some (.int .i64 0) := (blk_cell BK156.out 0).trans rfl; have hcz40_1 : w38.cell? ⟨gb156, 1, none⟩ = some (.string (⟨#[]⟩ : ByteArray)) := (blk_cell BK156.out 1).trans rfl; have hcz40_2 : w38.cell? ⟨gb156, 2, none⟩ = some (.int .i64 0) := (blk_cell BK156.out 2).trans rfl; have hfz40_0 := blk_frozen BK156.out 0; have hfz40_1 := blk_frozen BK156.out 1; have hfz40_2 := blk_frozen BK156.out 2) | ((with_reducible refine gate_dst (N := 57) rfl ?_); refine Kd.R_lit Kd.string _ 9 ?hg (N := 57) ?hd (xs := ([(⟨#[]⟩ : ByteArray), (⟨#[112, 114, 101, 102, 105, 120]⟩ : ByteArray), (⟨#[98, 101, 102, 111, 114, 101]⟩ : ByteArray), (⟨#[97, 102, 116, 101, 114]⟩ : ByteArray), (⟨#[102, 114, 111, 109]⟩ : ByteArray)] : List ByteArray)) (inner := [.string (⟨#[]⟩ : ByteArray), .string (⟨#[112, 114, 101, 102, 105, 120]⟩ : ByteArray), .string (⟨#[98, 101, 102, 111, 114, 101]⟩ : ByteArray), .string (⟨#[97, 102, 116, 101, 114]⟩ : ByteArray), .string (⟨#[102, 114, 111, 109]⟩ : ByteArray)]) (ok := fun _ => True) (okp := fun _ => True) ?hr ?hp (fun _ hk => hk) trivial (Below.refl _ _) (Nat.le_refl _) (by simp) ?_; (case hd => rfl); (case hg => rfl); (case hr => first | (go_simp; done) | (go_simp; rfl)); (case hp => exact (Reps.one (show Kd.M Kd.string _ _ _ (⟨#[]⟩ : ByteArray) [.string (⟨#[]⟩ : ByteArray)] from rfl) (Reps.one (show Kd.M Kd.string _ _ _ (⟨#[112, 114, 101, 102, 105, 120]⟩ : ByteArray) [.string (⟨#[112, 114, 101, 102, 105, 120]⟩ : ByteArray)] from rfl) (Reps.one (show Kd.M Kd.string _ _ _ (⟨#[98, 101, 102, 111, 114, 101]⟩ : ByteArray) [.string (⟨#[98, 101, 102, 111, 114, 101]⟩ : ByteArray)] from rfl) (Reps.one (show Kd.M Kd.string _ _ _ (⟨#[97, 102, 116, 101, 114]⟩ : ByteArray) [.string (⟨#[97, 102, 116, 101, 114]⟩ : ByteArray)] from rfl) (Reps.one (show Kd.M Kd.string _ _ _ (⟨#[102, 114, 111, 109]⟩ : ByteArray) [.string (⟨#[102, 114, 111, 109]⟩ : ByteArray)] from rfl) (Reps.none _ _))))))); intro v158 w41 ho42 hb hg_ hnew_; clear hg_ hnew_; (first | rw [← Ny157.out] at ho42 | (simp only [Int.reduceToNat] at ho42; rw [← Ny157.out] at ho42)); have n0_ := Aside0.mk (Kd.R_lower ho42 (below_size (by repeat (first | (with_reducible first | exact HB.out | apply below_alloc | apply pw_below_drewN | apply below_drew1 | refine below_set ?_ GE147.out | refine below_set ?_ GE156.out) | exact HB.out)))); have n1_ := Aside0.mk (blk_below (g := gb147) (o := .cells #[.int .i64 ((rd_T58 l0 x4_1).f0), .slice A146_1 ((rd_T58 l0 x4_1).f1).length c146_1, .slice A146_2 ((rd_T58 l0 x4_1).f2).length c146_2, .slice A146_3 ((rd_T58 l0 x4_1).f3).length c146_3, .slice (some ad155) ((rd_T58 l0 x4_1).f4).length c146_4] 58 (0, 0)) (by (with_reducible repeat (first | refine blk_drewN ?_ _ | refine blk_drew ?_ | refine blk_alloc ?_ _)); refine blk_far ?_ NB147_156.out _; (with_reducible repeat (first | refine blk_drewN ?_ _ | refine blk_drew ?_ | refine blk_alloc ?_ _)); refine blk_far ?_ NB147_156.out _; (with_reducible repeat (first | refine blk_drewN ?_ _ | refine blk_drew ?_ | refine blk_alloc ?_ _)); refine blk_far ?_ NB147_156.out _; (with_reducible repeat (first | refine blk_drewN ?_ _ | refine blk_drew ?_ | refine blk_alloc ?_ _)); exact BK147.out) hb); have n2_ := Aside0.mk (blk_below (g := gb156) (o := .cells #[.int .i64 ((rd_T61 ((rd_T58 l0 x4_1).f4) x6_2).f0), .string ((rd_T61 ((rd_T58 l0 x4_1).f4) x6_2).f1), .int .i64 ((rd_T61 ((rd_T58 l0 x4_1).f4) x6_2).f2)] 61 (0, 0)) (by (with_reducible repeat (first | refine blk_drewN ?_ _ | refine blk_drew ?_ | refine blk_alloc ?_ _)); refine blk_put (cs := #[.int .i64 ((rd_T61 ((rd_T58 l0 x4_1).f4) x6_2).f0), .string ((rd_T61 ((rd_T58 l0 x4_1).f4) x6_2).f1), .int .i64 0]) ?_ 2 _ rfl; (with_reducible repeat (first | refine blk_drewN ?_ _ | refine blk_drew ?_ | refine blk_alloc ?_ _)); refine blk_put (cs := #[.int .i64 ((rd_T61 ((rd_T58 l0 x4_1).f4) x6_2).f0), .string (⟨#[]⟩ : ByteArray), .int .i64 0]) ?_ 1 _ rfl; (with_reducible repeat (first | refine blk_drewN ?_ _ | refine blk_drew ?_ | refine blk_alloc ?_ _)); refine blk_put (cs := #[.int .i64 0, .string (⟨#[]⟩ : ByteArray), .int .i64 0]) ?_ 0 _ rfl; (with_reducible repeat (first | refine blk_drewN ?_ _ | refine blk_drew ?_ | refine blk_alloc ?_ _)); exact BK156.out) hb); have n3_ := Aside0.mk (below_step (by repeat (first | (with_reducible first | exact HB.out | apply below_alloc | apply pw_below_drewN | apply below_drew1 | refine below_set ?_ GE147.out | refine below_set ?_ GE156.out) | exact HB.out)) hb); clear BK147; clear BK156; clear HB; have HO159 := n0_; have BK147 := n1_; have BK156 := n2_; have HB := n3_; clear n0_ n1_ n2_ n3_; clear hb ho42; have hcz43_0 : w41.cell? ⟨gb156, 0, none⟩ = some (.int .i64 ((rd_T61 ((rd_T58 l0 x4_1).f4) x6_2).f0)) := (blk_cell BK156.out 0).trans rfl; have hcz43_1 : w41.cell? ⟨gb156, 1, none⟩ = some (.string ((rd_T61 ((rd_T58 l0 x4_1).f4) x6_2).f1)) := (blk_cell BK156.out 1).trans rfl; have hcz43_2 : w41.cell? ⟨gb156, 2, none⟩ = some (.int .i64 ((rd_T61 ((rd_T58 l0 x4_1).f4) x6_2).f2)) := (blk_cell BK156.out 2).trans rfl; have hfz43_0 := blk_frozen BK156.out 0; have hfz43_1 := blk_frozen BK156.out 1; have hfz43_2 := blk_frozen BK156.out 2; obtain ⟨Ao44, co44, eo44⟩ := Kd.R_slice HO159.out; subst eo44; have p160 : 0 ≤ (((rd_T61 ((rd_T58 l0 x4_1).f4) x6_2).f0) : Int) := of_decide_eq_true (by first | (with_reducible assumption) | assumption); have q160 : ((rd_T61 ((rd_T58 l0 x4_1).f4) x6_2).f0) < (y157.length : Int) := of_decide_eq_true (by first | (with_reducible assumption) | assumption); obtain ⟨ad160, e160, hx160_0⟩ := Kd.at_string (Kd.R_reads' HO159.out).2.2 ((rd_T61 ((rd_T58 l0 x4_1).f4) x6_2).f0) p160 q160; cases e160; replace p160 := eq_true p160; replace q160 := eq_true q160))
      go_roundg k2
      case measure => have := HK1.out; have := HK2.out; omega
      case rel => exact ⟨((((x3_2 ++ (⟨#[32]⟩ : ByteArray)) ++ (rdOf ByteArray.empty y157 ((rd_T61 ((rd_T58 l0 x4_1).f4) x6_2).f0))) ++ (⟨#[32]⟩ : ByteArray)) ++ ((rd_T61 ((rd_T58 l0 x4_1).f4) x6_2).f1)), (wrap64 (x6_2 + 1)), (by first | rfl | (simp; done) | (simp [*]; done)), (by first | rfl | (simp; done) | (simp [*]; done)), H', ⟨by have := HK1.out; have := HK2.out; omega⟩, ⟨by first | exact Grow.bk BK147.out | exact BK147.out⟩, ⟨by repeat (first | (with_reducible first | exact HB.out | apply below_alloc | apply pw_below_drewN | apply below_drew1 | refine below_set ?_ GE147.out | refine below_set ?_ GE156.out) | exact HB.out)⟩⟩
     rw [if_neg c35] at H
     have c35b0 : (((rd_T61 ((rd_T58 l0 x4_1).f4) x6_2).f0) == 1) = false := beq_eq_false_iff_ne.mpr c35
     have c35b1 : (((rd_T61 ((rd_T58 l0 x4_1).f4) x6_2).f0) != 1) = true := bne_iff_ne.mpr c35
     by_cases c45 : ((rd_T61 ((rd_T58 l0 x4_1).f4) x6_2).f0) = 4
     ·
      rw [if_pos c45] at H
      have c45b0 : (((rd_T61 ((rd_T58 l0 x4_1).f4) x6_2).f0) == 4) = true := beq_iff_eq.mpr c45
      have c45b1 : (((rd_T61 ((rd_T58 l0 x4_1).f4) x6_2).f0) != 4) = false := bne_eq_false_iff_eq.mpr c45
      clear c45
      by_cases c46 : (((x3_2 ++ (⟨#[32]⟩ : ByteArray)) ++ (rdOf ByteArray.empty y157 ((rd_T61 ((rd_T58 l0 x4_1).f4) x6_2).f0))) ++ (⟨#[32]⟩ : ByteArray)).size + ((rd_T61 ((rd_T58 l0 x4_1).f4) x6_2).f1).size ≤ 9223372036854775807
      rotate_left
      ·
       rw [if_neg c46] at H
       exact absurd H (by simp)
      rw [if_pos c46] at H
      have c46b0 := eq_true c46
      have c46z := c46
      simp only [ByteArray.size_append, show (⟨#[32]⟩ : ByteArray).size = 1 from rfl] at c46z
      have c46z0 := eq_true c46z
      have c46z1 := decide_eq_true c46z
      try have c46z2 := eq_false (Nat.not_lt.2 c46z)
      have c46b1 : decide ((((x3_2 ++ (⟨#[32]⟩ : ByteArray)) ++ (rdOf ByteArray.empty y157 ((rd_T61 ((rd_T58 l0 x4_1).f4) x6_2).f0))) ++ (⟨#[32]⟩ : ByteArray)).size + ((rd_T61 ((rd_T58 l0 x4_1).f4) x6_2).f1).size ≤ 9223372036854775807) = true := decide_eq_true c46
      try have c46b2 : (9223372036854775807 < (((x3_2 ++ (⟨#[32]⟩ : ByteArray)) ++ (rdOf ByteArray.empty y157 ((rd_T61 ((rd_T58 l0 x4_1).f4) x6_2).f0))) ++ (⟨#[32]⟩ : ByteArray)).size + ((rd_T61 ((rd_T58 l0 x4_1).f4) x6_2).f1).size) = False := eq_false (Nat.not_lt.2 c46)
      have H' := Aside0.mk H
      clear H
      have hcz47_0 : wr.cell? ⟨gb147, 0, none⟩ = some (.int .i64 ((rd_T58 l0 x4_1).f0)) := (blk_cell BK147.out 0).trans rfl
      have hcz47_1 : wr.cell? ⟨gb147, 1, none⟩ = some (.slice A146_1 ((rd_T58 l0 x4_1).f1).length c146_1) := (blk_cell BK147.out 1).trans rfl
      have hcz47_2 : wr.cell? ⟨gb147, 2, none⟩ = some (.slice A146_2 ((rd_T58 l0 x4_1).f2).length c146_2) := (blk_cell BK147.out 2).trans rfl
      have hcz47_3 : wr.cell? ⟨gb147, 3, none⟩ = some (.slice A146_3 ((rd_T58 l0 x4_1).f3).length c146_3) := (blk_cell BK147.out 3).trans rfl
      have hcz47_4 : wr.cell? ⟨gb147, 4, none⟩ = some (.slice A146_4 ((rd_T58 l0 x4_1).f4).length c146_4) := (blk_cell BK147.out 4).trans rfl
      have hfz47_0 := blk_frozen BK147.out 0
      have hfz47_1 := blk_frozen BK147.out 1
      have hfz47_2 := blk_frozen BK147.out 2
      have hfz47_3 := blk_frozen BK147.out 3
      have hfz47_4 := blk_frozen BK147.out 4
      have p155 : 0 ≤ (x6_2 : Int) := of_decide_eq_true (by first | (with_reducible assumption) | assumption)
      have q155 : x6_2 < (((rd_T58 l0 x4_1).f4).length : Int) := of_decide_eq_true (by first | (with_reducible assumption) | assumption)
      obtain ⟨ad155, e155, hx155_0, hx155_1, hx155_2⟩ := at_T61 HR146_4.out x6_2 p155 q155
      cases e155
      replace hx155_0 := Grow.bc HB.out hx155_0
      replace hx155_1 := Grow.bc HB.out hx155_1
      replace hx155_2 := Grow.bc HB.out hx155_2
      replace p155 := eq_true p155
      replace q155 := eq_true q155
      go_wp2_with (first | ((with_reducible refine gate_dst (N := 7) rfl ?_); refine box_event ?hg (N := 7) ?hd (cs := #[.int .i64 0, .string (⟨#[]⟩ : ByteArray), .int .i64 0]) (t := 61) ?hr ?_; (case hd => rfl); (case hg => rfl); (case hr => first | (go_simp; done) | (go_simp; rfl)); intro gb156 hg w48 hbox hb; have n0_ := Aside0.mk (blk_below (g := gb147) (o := .cells #[.int .i64 ((rd_T58 l0 x4_1).f0), .slice A146_1 ((rd_T58 l0 x4_1).f1).length c146_1, .slice A146_2 ((rd_T58 l0 x4_1).f2).length c146_2, .slice A146_3 ((rd_T58 l0 x4_1).f3).length c146_3, .slice (some ad155) ((rd_T58 l0 x4_1).f4).length c146_4] 58 (0, 0)) (by first | exact Grow.bk BK147.out | exact BK147.out) hb); have n1_ := Aside0.mk (below_step (by repeat (first | (with_reducible first | exact HB.out | apply below_alloc | apply pw_below_drewN | apply below_drew1 | refine below_set ?_ GE147.out) | exact HB.out)) hb); have n2_ := Aside0.mk (hbox); have n3_ := Aside0.mk ((by rw [hg]; exact (below_size (by repeat (first | (with_reducible first | exact HB.out | apply below_alloc | apply pw_below_drewN | apply below_drew1 | refine below_set ?_ GE147.out) | exact HB.out))) : w.heap.size ≤ gb156)); have n4_ := Aside0.mk ((by rw [hg]; exact (below_size (by repeat (first | (with_reducible first | exact HB.out | apply below_alloc | apply pw_below_drewN | apply below_drew1 | refine below_set ?_ GE147.out) | exact HB.out))) : w.heap.size ≤ gb156)); have n5_ := Aside0.mk ((by rw [hg]; exact Nat.ne_of_lt (blk_lt (g := gb147) (o := .cells #[.int .i64 ((rd_T58 l0 x4_1).f0), .slice A146_1 ((rd_T58 l0 x4_1).f1).length c146_1, .slice A146_2 ((rd_T58 l0 x4_1).f2).length c146_2, .slice A146_3 ((rd_T58 l0 x4_1).f3).length c146_3, .slice (some ad155) ((rd_T58 l0 x4_1).f4).length c146_4] 58 (0, 0)) (by first | exact Grow.bk BK147.out | exact BK147.out)) : gb147 ≠ gb156)); have n6_ := Aside0.mk ((by rw [hg]; exact Nat.ne_of_gt (blk_lt (g := gb147) (o := .cells #[.int .i64 ((rd_T58 l0 x4_1).f0), .slice A146_1 ((rd_T58 l0 x4_1).f1).length c146_1, .slice A146_2 ((rd_T58 l0 x4_1).f2).length c146_2, .slice A146_3 ((rd_T58 l0 x4_1).f3).length c146_3, .slice (some ad155) ((rd_T58 l0 x4_1).f4).length c146_4] 58 (0, 0)) (by first | exact Grow.bk BK147.out | exact BK147.out)) : gb156 ≠ gb147)); clear BK147; clear HB; have BK147 := n0_; have HB := n1_; have BK156 := n2_; have GW156 := n3_; have GE156 := n4_; have NB147_156 := n5_; have NB156_147 := n6_; clear n0_ n1_ n2_ n3_ n4_ n5_ n6_; clear hb hbox hg; have hnb49 := NB156_147.out; have hnc49 := NB147_156.out; have hcz50_0 : w48.cell? ⟨gb156, 0, none⟩ = some (.int .i64 0) := (blk_cell BK156.out 0).trans rfl; have hcz50_1 : w48.cell? ⟨gb156, 1, none⟩ = some (.string (⟨#[]⟩ : ByteArray)) := (blk_cell BK156.out 1).trans rfl; have hcz50_2 : w48.cell? ⟨gb156, 2, none⟩ = some (.int .i64 0) := (blk_cell BK156.out 2).trans rfl; have hfz50_0 := blk_frozen BK156.out 0; have hfz50_1 := blk_frozen BK156.out 1; have hfz50_2 := blk_frozen BK156.out 2) | ((with_reducible refine gate_dst (N := 57) rfl ?_); refine Kd.R_lit Kd.string _ 9 ?hg (N := 57) ?hd (xs := ([(⟨#[]⟩ : ByteArray), (⟨#[112, 114, 101, 102, 105, 120]⟩ : ByteArray), (⟨#[98, 101, 102, 111, 114, 101]⟩ : ByteArray), (⟨#[97, 102, 116, 101, 114]⟩ : ByteArray), (⟨#[102, 114, 111, 109]⟩ : ByteArray)] : List ByteArray)) (inner := [.string (⟨#[]⟩ : ByteArray), .string (⟨#[112, 114, 101, 102, 105, 120]⟩ : ByteArray), .string (⟨#[98, 101, 102, 111, 114, 101]⟩ : ByteArray), .string (⟨#[97, 102, 116, 101, 114]⟩ : ByteArray), .string (⟨#[102, 114, 111, 109]⟩ : ByteArray)]) (ok := fun _ => True) (okp := fun _ => True) ?hr ?hp (fun _ hk => hk) trivial (Below.refl _ _) (Nat.le_refl _) (by simp) ?_; (case hd => rfl); (case hg => rfl); (case hr => first | (go_simp; done) | (go_simp; rfl)); (case hp => exact (Reps.one (show Kd.M Kd.string _ _ _ (⟨#[]⟩ : ByteArray) [.string (⟨#[]⟩ : ByteArray)] from rfl) (Reps.one (show Kd.M Kd.string _ _ _ (⟨#[112, 114, 101, 102, 105, 120]⟩ : ByteArray) [.string (⟨#[112, 114, 101, 102, 105, 120]⟩ : ByteArray)] from rfl) (Reps.one (show Kd.M Kd.string _ _ _ (⟨#[98, 101, 102, 111, 114, 101]⟩ : ByteArray) [.string (⟨#[98, 101, 102, 111, 114, 101]⟩ : ByteArray)] from rfl) (Reps.one (show Kd.M Kd.string _ _ _ (⟨#[97, 102, 116, 101, 114]⟩ : ByteArray) [.string (⟨#[97, 102, 116, 101, 114]⟩ : ByteArray)] from rfl) (Reps.one (show Kd.M Kd.string _ _ _ (⟨#[102, 114, 111, 109]⟩ : ByteArray) [.string (⟨#[102, 114, 111, 109]⟩ : ByteArray)] from rfl) (Reps.none _ _))))))); intro v158 w51 ho52 hb hg_ hnew_; clear hg_ hnew_; (first | rw [← Ny157.out] at ho52 | (simp only [Int.reduceToNat] at ho52; rw [← Ny157.out] at ho52)); have n0_ := Aside0.mk (Kd.R_lower ho52 (below_size (by repeat (first | (with_reducible first | exact HB.out | apply below_alloc | apply pw_below_drewN | apply below_drew1 | refine below_set ?_ GE147.out | refine below_set ?_ GE156.out) | exact HB.out)))); have n1_ := Aside0.mk (blk_below (g := gb147) (o := .cells #[.int .i64 ((rd_T58 l0 x4_1).f0), .slice A146_1 ((rd_T58 l0 x4_1).f1).length c146_1, .slice A146_2 ((rd_T58 l0 x4_1).f2).length c146_2, .slice A146_3 ((rd_T58 l0 x4_1).f3).length c146_3, .slice (some ad155) ((rd_T58 l0 x4_1).f4).length c146_4] 58 (0, 0)) (by (with_reducible repeat (first | refine blk_drewN ?_ _ | refine blk_drew ?_ | refine blk_alloc ?_ _)); refine blk_far ?_ NB147_156.out _; (with_reducible repeat (first | refine blk_drewN ?_ _ | refine blk_drew ?_ | refine blk_alloc ?_ _)); refine blk_far ?_ NB147_156.out _; (with_reducible repeat (first | refine blk_drewN ?_ _ | refine blk_drew ?_ | refine blk_alloc ?_ _)); refine blk_far ?_ NB147_156.out _; (with_reducible repeat (first | refine blk_drewN ?_ _ | refine blk_drew ?_ | refine blk_alloc ?_ _)); exact BK147.out) hb); have n2_ := Aside0.mk (blk_below (g := gb156) (o := .cells #[.int .i64 ((rd_T61 ((rd_T58 l0 x4_1).f4) x6_2).f0), .string ((rd_T61 ((rd_T58 l0 x4_1).f4) x6_2).f1), .int .i64 ((rd_T61 ((rd_T58 l0 x4_1).f4) x6_2).f2)] 61 (0, 0)) (by (with_reducible repeat (first | refine blk_drewN ?_ _ | refine blk_drew ?_ | refine blk_alloc ?_ _)); refine blk_put (cs := #[.int .i64 ((rd_T61 ((rd_T58 l0 x4_1).f4) x6_2).f0), .string ((rd_T61 ((rd_T58 l0 x4_1).f4) x6_2).f1), .int .i64 0]) ?_ 2 _ rfl; (with_reducible repeat (first | refine blk_drewN ?_ _ | refine blk_drew ?_ | refine blk_alloc ?_ _)); refine blk_put (cs := #[.int .i64 ((rd_T61 ((rd_T58 l0 x4_1).f4) x6_2).f0), .string (⟨#[]⟩ : ByteArray), .int .i64 0]) ?_ 1 _ rfl; (with_reducible repeat (first | refine blk_drewN ?_ _ | refine blk_drew ?_ | refine blk_alloc ?_ _)); refine blk_put (cs := #[.int .i64 0, .string (⟨#[]⟩ : ByteArray), .int .i64 0]) ?_ 0 _ rfl; (with_reducible repeat (first | refine blk_drewN ?_ _ | refine blk_drew ?_ | refine blk_alloc ?_ _)); exact BK156.out) hb); have n3_ := Aside0.mk (below_step (by repeat (first | (with_reducible first | exact HB.out | apply below_alloc | apply pw_below_drewN | apply below_drew1 | refine below_set ?_ GE147.out | refine below_set ?_ GE156.out) | exact HB.out)) hb); clear BK147; clear BK156; clear HB; have HO159 := n0_; have BK147 := n1_; have BK156 := n2_; have HB := n3_; clear n0_ n1_ n2_ n3_; clear hb ho52; have hcz53_0 : w51.cell? ⟨gb156, 0, none⟩ = some (.int .i64 ((rd_T61 ((rd_T58 l0 x4_1).f4) x6_2).f0)) := (blk_cell BK156.out 0).trans rfl; have hcz53_1 : w51.cell? ⟨gb156, 1, none⟩ = some (.string ((rd_T61 ((rd_T58 l0 x4_1).f4) x6_2).f1)) := (blk_cell BK156.out 1).trans rfl; have hcz53_2 : w51.cell? ⟨gb156, 2, none⟩ = some (.int .i64 ((rd_T61 ((rd_T58 l0 x4_1).f4) x6_2).f2)) := (blk_cell BK156.out 2).trans rfl; have hfz53_0 := blk_frozen BK156.out 0; have hfz53_1 := blk_frozen BK156.out 1; have hfz53_2 := blk_frozen BK156.out 2; obtain ⟨Ao54, co54, eo54⟩ := Kd.R_slice HO159.out; subst eo54; have p160 : 0 ≤ (((rd_T61 ((rd_T58 l0 x4_1).f4) x6_2).f0) : Int) := of_decide_eq_true (by first | (with_reducible assumption) | assumption); have q160 : ((rd_T61 ((rd_T58 l0 x4_1).f4) x6_2).f0) < (y157.length : Int) := of_decide_eq_true (by first | (with_reducible assumption) | assumption); obtain ⟨ad160, e160, hx160_0⟩ := Kd.at_string (Kd.R_reads' HO159.out).2.2 ((rd_T61 ((rd_T58 l0 x4_1).f4) x6_2).f0) p160 q160; cases e160; replace p160 := eq_true p160; replace q160 := eq_true q160))
      go_roundg k2
      case measure => have := HK1.out; have := HK2.out; omega
      case rel => exact ⟨((((x3_2 ++ (⟨#[32]⟩ : ByteArray)) ++ (rdOf ByteArray.empty y157 ((rd_T61 ((rd_T58 l0 x4_1).f4) x6_2).f0))) ++ (⟨#[32]⟩ : ByteArray)) ++ ((rd_T61 ((rd_T58 l0 x4_1).f4) x6_2).f1)), (wrap64 (x6_2 + 1)), (by first | rfl | (simp; done) | (simp [*]; done)), (by first | rfl | (simp; done) | (simp [*]; done)), H', ⟨by have := HK1.out; have := HK2.out; omega⟩, ⟨by first | exact Grow.bk BK147.out | exact BK147.out⟩, ⟨by repeat (first | (with_reducible first | exact HB.out | apply below_alloc | apply pw_below_drewN | apply below_drew1 | refine below_set ?_ GE147.out | refine below_set ?_ GE156.out) | exact HB.out)⟩⟩
     rw [if_neg c45] at H
     have c45b0 : (((rd_T61 ((rd_T58 l0 x4_1).f4) x6_2).f0) == 4) = false := beq_eq_false_iff_ne.mpr c45
     have c45b1 : (((rd_T61 ((rd_T58 l0 x4_1).f4) x6_2).f0) != 4) = true := bne_iff_ne.mpr c45
     replace H := Option.bind_eq_some_iff.mp H
     obtain ⟨t161, A550, H⟩ := H
     replace H : (if (((x3_2 ++ (⟨#[32]⟩ : ByteArray)) ++ (rdOf ByteArray.empty y157 ((rd_T61 ((rd_T58 l0 x4_1).f4) x6_2).f0))) ++ (⟨#[32]⟩ : ByteArray)).size + t161.size ≤ 9223372036854775807 then (spec_WritePolicy.l1 k2 l0 ((((x3_2 ++ (⟨#[32]⟩ : ByteArray)) ++ (rdOf ByteArray.empty y157 ((rd_T61 ((rd_T58 l0 x4_1).f4) x6_2).f0))) ++ (⟨#[32]⟩ : ByteArray)) ++ t161) x4_1 (wrap64 (x6_2 + 1)) ((rd_T58 l0 x4_1).f0) ((rd_T58 l0 x4_1).f1) ((rd_T58 l0 x4_1).f2) ((rd_T58 l0 x4_1).f3) ((rd_T58 l0 x4_1).f4)) else (none)) = some r := H
     have A55 := Aside0.mk A550
     clear A550
     by_cases c56 : (((x3_2 ++ (⟨#[32]⟩ : ByteArray)) ++ (rdOf ByteArray.empty y157 ((rd_T61 ((rd_T58 l0 x4_1).f4) x6_2).f0))) ++ (⟨#[32]⟩ : ByteArray)).size + t161.size ≤ 9223372036854775807
     rotate_left
     ·
      rw [if_neg c56] at H
      exact absurd H (by simp)
     rw [if_pos c56] at H
     have c56b0 := eq_true c56
     have c56z := c56
     simp only [ByteArray.size_append, show (⟨#[32]⟩ : ByteArray).size = 1 from rfl] at c56z
     have c56z0 := eq_true c56z
     have c56z1 := decide_eq_true c56z
     try have c56z2 := eq_false (Nat.not_lt.2 c56z)
     have c56b1 : decide ((((x3_2 ++ (⟨#[32]⟩ : ByteArray)) ++ (rdOf ByteArray.empty y157 ((rd_T61 ((rd_T58 l0 x4_1).f4) x6_2).f0))) ++ (⟨#[32]⟩ : ByteArray)).size + t161.size ≤ 9223372036854775807) = true := decide_eq_true c56
     try have c56b2 : (9223372036854775807 < (((x3_2 ++ (⟨#[32]⟩ : ByteArray)) ++ (rdOf ByteArray.empty y157 ((rd_T61 ((rd_T58 l0 x4_1).f4) x6_2).f0))) ++ (⟨#[32]⟩ : ByteArray)).size + t161.size) = False := eq_false (Nat.not_lt.2 c56)
     have H' := Aside0.mk H
     clear H
     have hcz57_0 : wr.cell? ⟨gb147, 0, none⟩ = some (.int .i64 ((rd_T58 l0 x4_1).f0)) := (blk_cell BK147.out 0).trans rfl
     have hcz57_1 : wr.cell? ⟨gb147, 1, none⟩ = some (.slice A146_1 ((rd_T58 l0 x4_1).f1).length c146_1) := (blk_cell BK147.out 1).trans rfl
     have hcz57_2 : wr.cell? ⟨gb147, 2, none⟩ = some (.slice A146_2 ((rd_T58 l0 x4_1).f2).length c146_2) := (blk_cell BK147.out 2).trans rfl
     have hcz57_3 : wr.cell? ⟨gb147, 3, none⟩ = some (.slice A146_3 ((rd_T58 l0 x4_1).f3).length c146_3) := (blk_cell BK147.out 3).trans rfl
     have hcz57_4 : wr.cell? ⟨gb147, 4, none⟩ = some (.slice A146_4 ((rd_T58 l0 x4_1).f4).length c146_4) := (blk_cell BK147.out 4).trans rfl
     have hfz57_0 := blk_frozen BK147.out 0
     have hfz57_1 := blk_frozen BK147.out 1
     have hfz57_2 := blk_frozen BK147.out 2
     have hfz57_3 := blk_frozen BK147.out 3
     have hfz57_4 := blk_frozen BK147.out 4
     have p155 : 0 ≤ (x6_2 : Int) := of_decide_eq_true (by first | (with_reducible assumption) | assumption)
     have q155 : x6_2 < (((rd_T58 l0 x4_1).f4).length : Int) := of_decide_eq_true (by first | (with_reducible assumption) | assumption)
     obtain ⟨ad155, e155, hx155_0, hx155_1, hx155_2⟩ := at_T61 HR146_4.out x6_2 p155 q155
     cases e155
     replace hx155_0 := Grow.bc HB.out hx155_0
     replace hx155_1 := Grow.bc HB.out hx155_1
     replace hx155_2 := Grow.bc HB.out hx155_2
     replace p155 := eq_true p155
     replace q155 := eq_true q155
     go_wp2_with (first | ((with_reducible refine gate_dst (N := 7) rfl ?_); refine box_event ?hg (N := 7) ?hd (cs := #[.int .i64 0, .string (⟨#[]⟩ : ByteArray), .int .i64 0]) (t := 61) ?hr ?_; (case hd => rfl); (case hg => rfl); (case hr => first | (go_simp; done) | (go_simp; rfl)); intro gb156 hg w58 hbox hb; have n0_ := Aside0.mk (blk_below (g := gb147) (o := .cells #[.int .i64 ((rd_T58 l0 x4_1).f0), .slice A146_1 ((rd_T58 l0 x4_1).f1).length c146_1, .slice A146_2 ((rd_T58 l0 x4_1).f2).length c146_2, .slice A146_3 ((rd_T58 l0 x4_1).f3).length c146_3, .slice (some ad155) ((rd_T58 l0 x4_1).f4).length c146_4] 58 (0, 0)) (by first | exact Grow.bk BK147.out | exact BK147.out) hb); have n1_ := Aside0.mk (below_step (by repeat (first | (with_reducible first | exact HB.out | apply below_alloc | apply pw_below_drewN | apply below_drew1 | refine below_set ?_ GE147.out) | exact HB.out)) hb); have n2_ := Aside0.mk (hbox); have n3_ := Aside0.mk ((by rw [hg]; exact (below_size (by repeat (first | (with_reducible first | exact HB.out | apply below_alloc | apply pw_below_drewN | apply below_drew1 | refine below_set ?_ GE147.out) | exact HB.out))) : w.heap.size ≤ gb156)); have n4_ := Aside0.mk ((by rw [hg]; exact (below_size (by repeat (first | (with_reducible first | exact HB.out | apply below_alloc | apply pw_below_drewN | apply below_drew1 | refine below_set ?_ GE147.out) | exact HB.out))) : w.heap.size ≤ gb156)); have n5_ := Aside0.mk ((by rw [hg]; exact Nat.ne_of_lt (blk_lt (g := gb147) (o := .cells #[.int .i64 ((rd_T58 l0 x4_1).f0), .slice A146_1 ((rd_T58 l0 x4_1).f1).length c146_1, .slice A146_2 ((rd_T58 l0 x4_1).f2).length c146_2, .slice A146_3 ((rd_T58 l0 x4_1).f3).length c146_3, .slice (some ad155) ((rd_T58 l0 x4_1).f4).length c146_4] 58 (0, 0)) (by first | exact Grow.bk BK147.out | exact BK147.out)) : gb147 ≠ gb156)); have n6_ := Aside0.mk ((by rw [hg]; exact Nat.ne_of_gt (blk_lt (g := gb147) (o := .cells #[.int .i64 ((rd_T58 l0 x4_1).f0), .slice A146_1 ((rd_T58 l0 x4_1).f1).length c146_1, .slice A146_2 ((rd_T58 l0 x4_1).f2).length c146_2, .slice A146_3 ((rd_T58 l0 x4_1).f3).length c146_3, .slice (some ad155) ((rd_T58 l0 x4_1).f4).length c146_4] 58 (0, 0)) (by first | exact Grow.bk BK147.out | exact BK147.out)) : gb156 ≠ gb147)); clear BK147; clear HB; have BK147 := n0_; have HB := n1_; have BK156 := n2_; have GW156 := n3_; have GE156 := n4_; have NB147_156 := n5_; have NB156_147 := n6_; clear n0_ n1_ n2_ n3_ n4_ n5_ n6_; clear hb hbox hg; have hnb59 := NB156_147.out; have hnc59 := NB147_156.out; have hcz60_0 : w58.cell? ⟨gb156, 0, none⟩ = some (.int .i64 0) := (blk_cell BK156.out 0).trans rfl; have hcz60_1 : w58.cell? ⟨gb156, 1, none⟩ = some (.string (⟨#[]⟩ : ByteArray)) := (blk_cell BK156.out 1).trans rfl; have hcz60_2 : w58.cell? ⟨gb156, 2, none⟩ = some (.int .i64 0) := (blk_cell BK156.out 2).trans rfl; have hfz60_0 := blk_frozen BK156.out 0; have hfz60_1 := blk_frozen BK156.out 1; have hfz60_2 := blk_frozen BK156.out 2) | ((with_reducible refine gate_dst (N := 57) rfl ?_); refine Kd.R_lit Kd.string _ 9 ?hg (N := 57) ?hd (xs := ([(⟨#[]⟩ : ByteArray), (⟨#[112, 114, 101, 102, 105, 120]⟩ : ByteArray), (⟨#[98, 101, 102, 111, 114, 101]⟩ : ByteArray), (⟨#[97, 102, 116, 101, 114]⟩ : ByteArray), (⟨#[102, 114, 111, 109]⟩ : ByteArray)] : List ByteArray)) (inner := [.string (⟨#[]⟩ : ByteArray), .string (⟨#[112, 114, 101, 102, 105, 120]⟩ : ByteArray), .string (⟨#[98, 101, 102, 111, 114, 101]⟩ : ByteArray), .string (⟨#[97, 102, 116, 101, 114]⟩ : ByteArray), .string (⟨#[102, 114, 111, 109]⟩ : ByteArray)]) (ok := fun _ => True) (okp := fun _ => True) ?hr ?hp (fun _ hk => hk) trivial (Below.refl _ _) (Nat.le_refl _) (by simp) ?_; (case hd => rfl); (case hg => rfl); (case hr => first | (go_simp; done) | (go_simp; rfl)); (case hp => exact (Reps.one (show Kd.M Kd.string _ _ _ (⟨#[]⟩ : ByteArray) [.string (⟨#[]⟩ : ByteArray)] from rfl) (Reps.one (show Kd.M Kd.string _ _ _ (⟨#[112, 114, 101, 102, 105, 120]⟩ : ByteArray) [.string (⟨#[112, 114, 101, 102, 105, 120]⟩ : ByteArray)] from rfl) (Reps.one (show Kd.M Kd.string _ _ _ (⟨#[98, 101, 102, 111, 114, 101]⟩ : ByteArray) [.string (⟨#[98, 101, 102, 111, 114, 101]⟩ : ByteArray)] from rfl) (Reps.one (show Kd.M Kd.string _ _ _ (⟨#[97, 102, 116, 101, 114]⟩ : ByteArray) [.string (⟨#[97, 102, 116, 101, 114]⟩ : ByteArray)] from rfl) (Reps.one (show Kd.M Kd.string _ _ _ (⟨#[102, 114, 111, 109]⟩ : ByteArray) [.string (⟨#[102, 114, 111, 109]⟩ : ByteArray)] from rfl) (Reps.none _ _))))))); intro v158 w61 ho62 hb hg_ hnew_; clear hg_ hnew_; (first | rw [← Ny157.out] at ho62 | (simp only [Int.reduceToNat] at ho62; rw [← Ny157.out] at ho62)); have n0_ := Aside0.mk (Kd.R_lower ho62 (below_size (by repeat (first | (with_reducible first | exact HB.out | apply below_alloc | apply pw_below_drewN | apply below_drew1 | refine below_set ?_ GE147.out | refine below_set ?_ GE156.out) | exact HB.out)))); have n1_ := Aside0.mk (blk_below (g := gb147) (o := .cells #[.int .i64 ((rd_T58 l0 x4_1).f0), .slice A146_1 ((rd_T58 l0 x4_1).f1).length c146_1, .slice A146_2 ((rd_T58 l0 x4_1).f2).length c146_2, .slice A146_3 ((rd_T58 l0 x4_1).f3).length c146_3, .slice (some ad155) ((rd_T58 l0 x4_1).f4).length c146_4] 58 (0, 0)) (by (with_reducible repeat (first | refine blk_drewN ?_ _ | refine blk_drew ?_ | refine blk_alloc ?_ _)); refine blk_far ?_ NB147_156.out _; (with_reducible repeat (first | refine blk_drewN ?_ _ | refine blk_drew ?_ | refine blk_alloc ?_ _)); refine blk_far ?_ NB147_156.out _; (with_reducible repeat (first | refine blk_drewN ?_ _ | refine blk_drew ?_ | refine blk_alloc ?_ _)); refine blk_far ?_ NB147_156.out _; (with_reducible repeat (first | refine blk_drewN ?_ _ | refine blk_drew ?_ | refine blk_alloc ?_ _)); exact BK147.out) hb); have n2_ := Aside0.mk (blk_below (g := gb156) (o := .cells #[.int .i64 ((rd_T61 ((rd_T58 l0 x4_1).f4) x6_2).f0), .string ((rd_T61 ((rd_T58 l0 x4_1).f4) x6_2).f1), .int .i64 ((rd_T61 ((rd_T58 l0 x4_1).f4) x6_2).f2)] 61 (0, 0)) (by (with_reducible repeat (first | refine blk_drewN ?_ _ | refine blk_drew ?_ | refine blk_alloc ?_ _)); refine blk_put (cs := #[.int .i64 ((rd_T61 ((rd_T58 l0 x4_1).f4) x6_2).f0), .string ((rd_T61 ((rd_T58 l0 x4_1).f4) x6_2).f1), .int .i64 0]) ?_ 2 _ rfl; (with_reducible repeat (first | refine blk_drewN ?_ _ | refine blk_drew ?_ | refine blk_alloc ?_ _)); refine blk_put (cs := #[.int .i64 ((rd_T61 ((rd_T58 l0 x4_1).f4) x6_2).f0), .string (⟨#[]⟩ : ByteArray), .int .i64 0]) ?_ 1 _ rfl; (with_reducible repeat (first | refine blk_drewN ?_ _ | refine blk_drew ?_ | refine blk_alloc ?_ _)); refine blk_put (cs := #[.int .i64 0, .string (⟨#[]⟩ : ByteArray), .int .i64 0]) ?_ 0 _ rfl; (with_reducible repeat (first | refine blk_drewN ?_ _ | refine blk_drew ?_ | refine blk_alloc ?_ _)); exact BK156.out) hb); have n3_ := Aside0.mk (below_step (by repeat (first | (with_reducible first | exact HB.out | apply below_alloc | apply pw_below_drewN | apply below_drew1 | refine below_set ?_ GE147.out | refine below_set ?_ GE156.out) | exact HB.out)) hb); clear BK147; clear BK156; clear HB; have HO159 := n0_; have BK147 := n1_; have BK156 := n2_; have HB := n3_; clear n0_ n1_ n2_ n3_; clear hb ho62; have hcz63_0 : w61.cell? ⟨gb156, 0, none⟩ = some (.int .i64 ((rd_T61 ((rd_T58 l0 x4_1).f4) x6_2).f0)) := (blk_cell BK156.out 0).trans rfl; have hcz63_1 : w61.cell? ⟨gb156, 1, none⟩ = some (.string ((rd_T61 ((rd_T58 l0 x4_1).f4) x6_2).f1)) := (blk_cell BK156.out 1).trans rfl; have hcz63_2 : w61.cell? ⟨gb156, 2, none⟩ = some (.int .i64 ((rd_T61 ((rd_T58 l0 x4_1).f4) x6_2).f2)) := (blk_cell BK156.out 2).trans rfl; have hfz63_0 := blk_frozen BK156.out 0; have hfz63_1 := blk_frozen BK156.out 1; have hfz63_2 := blk_frozen BK156.out 2; obtain ⟨Ao64, co64, eo64⟩ := Kd.R_slice HO159.out; subst eo64; have p160 : 0 ≤ (((rd_T61 ((rd_T58 l0 x4_1).f4) x6_2).f0) : Int) := of_decide_eq_true (by first | (with_reducible assumption) | assumption); have q160 : ((rd_T61 ((rd_T58 l0 x4_1).f4) x6_2).f0) < (y157.length : Int) := of_decide_eq_true (by first | (with_reducible assumption) | assumption); obtain ⟨ad160, e160, hx160_0⟩ := Kd.at_string (Kd.R_reads' HO159.out).2.2 ((rd_T61 ((rd_T58 l0 x4_1).f4) x6_2).f0) p160 q160; cases e160; replace p160 := eq_true p160; replace q160 := eq_true q160) | ((with_reducible refine gate_callee (f := 33) rfl ?_); refine goesL_ (some 79) rfl rfl Tryd.func33 (by kernel_rfl) rfl #[.int .i64 ((rd_T61 ((rd_T58 l0 x4_1).f4) x6_2).f2)] rfl (by (try simp only [List.map_toArray, List.map_cons, List.map_nil]); first | done | rfl | (simp only [List.length_drop, List.length_take]; rfl)) ?_; (with_reducible refine (spec_l01Dec.calls k2 ((rd_T61 ((rd_T58 l0 x4_1).f4) x6_2).f2) t161 _ A55.out).mono ?_); rintro e w65 ⟨rfl, hb⟩; refine ⟨_, rfl, ?_⟩; have n0_ := Aside0.mk (Kd.R_below (by first | exact Grow.rg HO159.out | exact HO159.out) hb); have n1_ := Aside0.mk (blk_below (g := gb147) (o := .cells #[.int .i64 ((rd_T58 l0 x4_1).f0), .slice A146_1 ((rd_T58 l0 x4_1).f1).length c146_1, .slice A146_2 ((rd_T58 l0 x4_1).f2).length c146_2, .slice A146_3 ((rd_T58 l0 x4_1).f3).length c146_3, .slice (some ad155) ((rd_T58 l0 x4_1).f4).length c146_4] 58 (0, 0)) (by first | exact Grow.bk BK147.out | exact BK147.out) hb); have n2_ := Aside0.mk (blk_below (g := gb156) (o := .cells #[.int .i64 ((rd_T61 ((rd_T58 l0 x4_1).f4) x6_2).f0), .string ((rd_T61 ((rd_T58 l0 x4_1).f4) x6_2).f1), .int .i64 ((rd_T61 ((rd_T58 l0 x4_1).f4) x6_2).f2)] 61 (0, 0)) (by first | exact Grow.bk BK156.out | exact BK156.out) hb); have n3_ := Aside0.mk (below_step (by repeat (first | (with_reducible first | exact HB.out | apply below_alloc | apply pw_below_drewN | apply below_drew1 | refine below_set ?_ GE147.out | refine below_set ?_ GE156.out) | exact HB.out)) hb); clear HO159; clear BK147; clear BK156; clear HB; have HO159 := n0_; have BK147 := n1_; have BK156 := n2_; have HB := n3_; clear n0_ n1_ n2_ n3_; (try clear hb); (try clear hb2); (try clear hk); (try clear hi)))
     go_roundg k2
     case measure => have := HK1.out; have := HK2.out; omega
     case rel => exact ⟨((((x3_2 ++ (⟨#[32]⟩ : ByteArray)) ++ (rdOf ByteArray.empty y157 ((rd_T61 ((rd_T58 l0 x4_1).f4) x6_2).f0))) ++ (⟨#[32]⟩ : ByteArray)) ++ t161), (wrap64 (x6_2 + 1)), (by first | rfl | (simp; done) | (simp [*]; done)), (by first | rfl | (simp; done) | (simp [*]; done)), H', ⟨by have := HK1.out; have := HK2.out; omega⟩, ⟨by first | exact Grow.bk BK147.out | exact BK147.out⟩, ⟨by repeat (first | (with_reducible first | exact HB.out | apply below_alloc | apply pw_below_drewN | apply below_drew1 | refine below_set ?_ GE147.out | refine below_set ?_ GE156.out) | exact HB.out)⟩⟩

end Go.Proofs.YtepnjhmdcaolkaaDoor.QFnExactWritePolicy
