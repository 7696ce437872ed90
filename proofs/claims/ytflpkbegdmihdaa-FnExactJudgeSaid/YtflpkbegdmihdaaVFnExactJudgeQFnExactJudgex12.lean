-- A text of this session, printed by a program of its own (wip/tools: xpatch.py, xprint.sh, mkq.py). No condition.
import Derived.Test.YtflpkbegdmihdaaVFnExactJudgeQFnExactJudgex0
namespace Go.Proofs.Ytflpkbegdmihdaa.QFnExactJudge
open Go.RowKit Go.Proofs.YtflpkbegdmihdaaW.PrintWords Go.Proofs.YtflpkbegdmihdaaW.PrintLast Go.Proofs.YtflpkbegdmihdaaW.PrintMore
attribute [local go_sem] max2_int min2_int max_two min_two max_three min_three max_four min_four
set_option linter.unusedVariables false
set_option linter.unusedSimpArgs false
mutual
def impl_GlobFits.j0 : Nat → ByteArray → ByteArray → Bool → Option (Bool)
  | 0, _, _, _ => none
  | k + 1, x0, x1, x17 => if x17 = true then (some false) else (if 0 ≤ (wrap64 ((x1.size : Int) + 1)) then (if (wrap64 ((x1.size : Int) + 1) : Int).toNat ≤ 281474976710656 then ((some (List.replicate (wrap64 ((x1.size : Int) + 1) : Int).toNat false : List Bool)).bind fun y244 => (if 0 < (y244.length : Int) then (impl_GlobFits.l0 k x0 x1 (y244.set (0 : Int).toNat true) (x0.size : Int) 0) else (none))) else (none)) else (none))
def impl_GlobFits.l0 : Nat → ByteArray → ByteArray → List Bool → Int → Int → Option (Bool)
  | 0, _, _, _, _, _ => none
  | k + 1, x0, x1, x5, x25, x26 => if x26 < x25 then (if 0 ≤ (wrap64 ((x1.size : Int) + 1)) then (if (wrap64 ((x1.size : Int) + 1) : Int).toNat ≤ 281474976710656 then (impl_GlobFits.l1 k x0 x1 x5 x26 (List.replicate (wrap64 ((x1.size : Int) + 1) : Int).toNat false) false x25 x26 (x5.length : Int) 0) else (none)) else (none)) else (if 0 ≤ (x1.size : Int) then (if (x1.size : Int) < (x5.length : Int) then (some (rdOf false x5 (x1.size : Int))) else (none)) else (none))
def impl_GlobFits.l1 : Nat → ByteArray → ByteArray → List Bool → Int → List Bool → Bool → Int → Int → Int → Int → Option (Bool)
  | 0, _, _, _, _, _, _, _, _, _, _ => none
  | k + 1, x0, x1, x5, x6, x7, x8, x25, x26, x34, x35 => if x35 < x34 then (if 0 ≤ x6 then (if x6 < (x0.size : Int) then (if (bt x0 x6) = 42 then (if x8 = true then (if 0 ≤ x35 then (if x35 < (x7.length : Int) then (impl_GlobFits.l1 k x0 x1 x5 x6 (x7.set (x35 : Int).toNat true) true x25 x26 x34 (wrap64 (x35 + 1))) else (none)) else (none)) else (if 0 ≤ x35 then (if x35 < (x5.length : Int) then (if x35 < (x7.length : Int) then (impl_GlobFits.l1 k x0 x1 x5 x6 (x7.set (x35 : Int).toNat (rdOf false x5 x35)) (rdOf false x5 x35) x25 x26 x34 (wrap64 (x35 + 1))) else (none)) else (none)) else (none))) else (if x35 > 0 then (if 0 ≤ (wrap64 (x35 - 1)) then (if (wrap64 (x35 - 1)) < (x5.length : Int) then (if rdOf false x5 (wrap64 (x35 - 1)) = true then (if (bt x0 x6) = 63 then (if 0 ≤ x35 then (if x35 < (x7.length : Int) then (impl_GlobFits.l1 k x0 x1 x5 x6 (x7.set (x35 : Int).toNat true) x8 x25 x26 x34 (wrap64 (x35 + 1))) else (none)) else (none)) else (if (wrap64 (x35 - 1)) < (x1.size : Int) then (if 0 ≤ x35 then (if x35 < (x7.length : Int) then (impl_GlobFits.l1 k x0 x1 x5 x6 (x7.set (x35 : Int).toNat ((bt x0 x6) == (bt x1 (wrap64 (x35 - 1))))) x8 x25 x26 x34 (wrap64 (x35 + 1))) else (none)) else (none)) else (none))) else (if 0 ≤ x35 then (if x35 < (x7.length : Int) then (impl_GlobFits.l1 k x0 x1 x5 x6 (x7.set (x35 : Int).toNat false) x8 x25 x26 x34 (wrap64 (x35 + 1))) else (none)) else (none))) else (none)) else (none)) else (impl_GlobFits.l1 k x0 x1 x5 x6 x7 x8 x25 x26 x34 (wrap64 (x35 + 1))))) else (none)) else (none)) else (impl_GlobFits.l0 k x0 x1 x7 x25 (wrap64 (x26 + 1)))
end
def impl_GlobFits.f (k : Nat) (a0 : ByteArray) (a1 : ByteArray) : Option (Bool) := if (a0.size : Int) > 200 then (impl_GlobFits.j0 k a0 a1 true) else (impl_GlobFits.j0 k a0 a1 (decide ((a1.size : Int) > 2000)))
theorem impl_GlobFits.mono_l : ∀ k, (∀ y0 y1 y2, LeO (impl_GlobFits.j0 k y0 y1 y2) (impl_GlobFits.j0 (k + 1) y0 y1 y2)) ∧ (∀ y0 y1 y2 y3 y4, LeO (impl_GlobFits.l0 k y0 y1 y2 y3 y4) (impl_GlobFits.l0 (k + 1) y0 y1 y2 y3 y4)) ∧ (∀ y0 y1 y2 y3 y4 y5 y6 y7 y8 y9, LeO (impl_GlobFits.l1 k y0 y1 y2 y3 y4 y5 y6 y7 y8 y9) (impl_GlobFits.l1 (k + 1) y0 y1 y2 y3 y4 y5 y6 y7 y8 y9))
  | 0 => ⟨fun _ _ _ r h => by simp [impl_GlobFits.j0] at h, fun _ _ _ _ _ r h => by simp [impl_GlobFits.l0] at h, fun _ _ _ _ _ _ _ _ _ _ r h => by simp [impl_GlobFits.l1] at h⟩
  | k + 1 => by
    obtain ⟨ih0, ih1, ih2⟩ := impl_GlobFits.mono_l k
    refine ⟨?_, ?_, ?_⟩
    · intro y0 y1 y2
      unfold impl_GlobFits.j0
      repeat' first
      | (with_reducible exact ih0 _ _ _)
      | (with_reducible exact ih1 _ _ _ _ _)
      | (with_reducible exact ih2 _ _ _ _ _ _ _ _ _ _)
      | (with_reducible exact LeO.refl _)
      | (with_reducible exact LeO.none _)
      | (with_reducible refine LeO.ite ?_ ?_)
      | (with_reducible refine LeO.bind ?_ (fun _ => ?_))
      | exact ih0 _ _ _
      | exact ih1 _ _ _ _ _
      | exact ih2 _ _ _ _ _ _ _ _ _ _
      | exact LeO.none _
      | refine LeO.ite ?_ ?_
      | refine LeO.bind ?_ (fun _ => ?_)
    · intro y0 y1 y2 y3 y4
      unfold impl_GlobFits.l0
      repeat' first
      | (with_reducible exact ih0 _ _ _)
      | (with_reducible exact ih1 _ _ _ _ _)
      | (with_reducible exact ih2 _ _ _ _ _ _ _ _ _ _)
      | (with_reducible exact LeO.refl _)
      | (with_reducible exact LeO.none _)
      | (with_reducible refine LeO.ite ?_ ?_)
      | (with_reducible refine LeO.bind ?_ (fun _ => ?_))
      | exact ih0 _ _ _
      | exact ih1 _ _ _ _ _
      | exact ih2 _ _ _ _ _ _ _ _ _ _
      | exact LeO.none _
      | refine LeO.ite ?_ ?_
      | refine LeO.bind ?_ (fun _ => ?_)
    · intro y0 y1 y2 y3 y4 y5 y6 y7 y8 y9
      unfold impl_GlobFits.l1
      repeat' first
      | (with_reducible exact ih0 _ _ _)
      | (with_reducible exact ih1 _ _ _ _ _)
      | (with_reducible exact ih2 _ _ _ _ _ _ _ _ _ _)
      | (with_reducible exact LeO.refl _)
      | (with_reducible exact LeO.none _)
      | (with_reducible refine LeO.ite ?_ ?_)
      | (with_reducible refine LeO.bind ?_ (fun _ => ?_))
      | exact ih0 _ _ _
      | exact ih1 _ _ _ _ _
      | exact ih2 _ _ _ _ _ _ _ _ _ _
      | exact LeO.none _
      | refine LeO.ite ?_ ?_
      | refine LeO.bind ?_ (fun _ => ?_)
theorem impl_GlobFits.mono : ∀ a0 a1 k, LeO (impl_GlobFits.f k a0 a1) (impl_GlobFits.f (k + 1) a0 a1) := by
  intro a0 a1 k
  obtain ⟨ih0, ih1, ih2⟩ := impl_GlobFits.mono_l k
  unfold impl_GlobFits.f
  repeat' first
      | (with_reducible exact ih0 _ _ _)
      | (with_reducible exact ih1 _ _ _ _ _)
      | (with_reducible exact ih2 _ _ _ _ _ _ _ _ _ _)
      | (with_reducible exact LeO.refl _)
      | (with_reducible exact LeO.none _)
      | (with_reducible refine LeO.ite ?_ ?_)
      | (with_reducible refine LeO.bind ?_ (fun _ => ?_))
      | exact ih0 _ _ _
      | exact ih1 _ _ _ _ _
      | exact ih2 _ _ _ _ _ _ _ _ _ _
      | exact LeO.none _
      | refine LeO.ite ?_ ?_
      | refine LeO.bind ?_ (fun _ => ?_)
def impl_GlobFits.T17 : Bool × List (List Nat × List Nat) := (true, [([], []), ([], []), ([], []), ([], []), ([3], [3]), ([2, 4], [2, 4]), ([5], [5]), ([6], [6]), ([7], [7]), ([7], [7]), ([8, 9, 7], [7, 8, 9]), ([10, 7], [7, 10]), ([11, 7, 7], [7, 11]), ([12], [12]), ([12], [12]), ([13, 14, 12], [12, 13, 14]), ([12], [12]), ([12], [12]), ([17, 12], [12, 17]), ([16, 18, 12], [12, 16, 18]), ([15, 19, 12], [12, 15, 19]), ([12, 20, 7], [7, 12, 20]), ([7, 21], [7, 21]), ([0, 1, 0, 1, 2, 3, 4, 5, 6, 7, 8, 9, 10, 11, 12, 13, 14, 15, 16, 17, 18, 19, 20, 21, 22], [0, 1]), ([23, 22, 12, 0, 1, 2, 3, 4, 5, 6, 7, 8, 9, 10, 11, 12, 13, 14, 15, 16, 17, 18, 19, 20, 21, 22], [22, 23])])
def impl_GlobFits.B17 : List Nat := [0, 0, 0, 0, 8, 28, 60, 124, 252, 252, 1020, 2044, 4092, 8188, 8188, 32764, 8188, 8188, 139260, 466940, 1048572, 2097148, 4194300, 8388607, 16777215]
theorem impl_GlobFits.tab17 : rtab .any (opsOf Try.f144 17) = impl_GlobFits.T17 := by kernel_rfl
theorem impl_GlobFits.bits17 : waitsOk impl_GlobFits.T17.2 impl_GlobFits.B17 = true := by kernel_rfl
set_option maxHeartbeats 8000000 in
set_option maxRecDepth 100000 in
theorem impl_GlobFits.calls (k : Nat) (a0 : ByteArray) (a1 : ByteArray) (r : Bool) (w : World) (h : impl_GlobFits.f k a0 a1 = some r) :
  Calls Try.prog 144 #[.string a0, .string a1] w fun e w' => e = .returned (.bool r) ∧ Below w.heap.size w w' := by
 have HB := Aside0.mk (Below.refl w.heap.size w)
 have H : (if (a0.size : Int) > 200 then (impl_GlobFits.j0 k a0 a1 true) else (impl_GlobFits.j0 k a0 a1 (decide ((a1.size : Int) > 2000)))) = some r := h
 clear h
 have HC3 := Aside0.mk H
 clear H
 go_enter Try.func144, Try.ntmps144
 go_upto_region 1 with (fail)
 go_cut [17] (fun v17 wc => ∃ (kq : Nat) (x17_2 : Bool), v17 = .bool x17_2 ∧ Aside0 (impl_GlobFits.j0 kq a0 a1 x17_2 = some r) ∧ Aside0 (kq ≤ k) ∧ Aside0 (Below w.heap.size w wc))
 case first =>
  have H := HC3.out
  clear HC3
  by_cases c4 : (a0.size : Int) > 200
  ·
   rw [if_pos c4] at H
   have c4b0 : decide (200 < (a0.size : Int)) = true := decide_eq_true c4
   have c4b1 : decide (200 < a0.size) = true := decide_eq_true (by omega)
   clear c4
   (first | rw [c4b0] | (simp only [i64_w, i32_w]; rw [c4b0]) | skip)
   have H' := Aside0.mk H
   clear H
   go_wp2
   go_meet
   case rel => exact ⟨_, (true), (by first | rfl | (simp; done) | (simp [*]; done)), H', ⟨by first | omega | exact Nat.le_refl _⟩, ⟨by first | exact Grow.bl HB.out | exact HB.out⟩⟩
  ·
   rw [if_neg c4] at H
   have c4b0 : decide (200 < (a0.size : Int)) = false := decide_eq_false c4
   have c4b1 : decide (200 < a0.size) = false := decide_eq_false (by omega)
   clear c4
   (first | rw [c4b0] | (simp only [i64_w, i32_w]; rw [c4b0]) | skip)
   have H' := Aside0.mk H
   clear H
   go_wp2
   go_meet
   case rel => exact ⟨_, (decide ((a1.size : Int) > 2000)), (by first | rfl | (simp; done) | (simp [*]; done)), H', ⟨by first | omega | exact Nat.le_refl _⟩, ⟨by first | exact Grow.bl HB.out | exact HB.out⟩⟩
 case rest =>
  clear HC3
  try clear c1
  try clear p2
  try clear c4
  try clear c4b0
  try clear c4b1
  obtain ⟨kq, x17_2, rfl, HA, HJ2, HB⟩ := hcut
  cases kq with
  | zero => exact absurd HA.out (by simp [impl_GlobFits.j0])
  | succ kj2 =>
   have H := HA.out
   clear HA
   simp only [impl_GlobFits.j0] at H
   by_cases c5 : x17_2 = true
   ·
    subst c5
    have H1 : (some false) = some r := by rw [if_pos rfl] at H; exact H
    clear H
    have H := H1
    clear H1
    obtain rfl := Option.some.inj H
    go_wp2
    go_ret
    exact ⟨by first | rfl | (simp [errW_none, errW_some] <;> rfl) | (simp [*, errW_none, errW_some] <;> rfl), by first | exact Grow.bl HB.out | exact HB.out⟩
   ·
    replace c5 := Bool.eq_false_iff.mpr c5
    subst c5
    have H1 : (if 0 ≤ (wrap64 ((a1.size : Int) + 1)) then (if (wrap64 ((a1.size : Int) + 1) : Int).toNat ≤ 281474976710656 then ((some (List.replicate (wrap64 ((a1.size : Int) + 1) : Int).toNat false : List Bool)).bind fun y244 => (if 0 < (y244.length : Int) then (impl_GlobFits.l0 kj2 a0 a1 (y244.set (0 : Int).toNat true) (a0.size : Int) 0) else (none))) else (none)) else (none)) = some r := by rw [if_neg (show ¬ (false = true) by decide)] at H; exact H
    clear H
    have H := H1
    clear H1
    obtain ⟨ji6, hji6⟩ : ∃ j_ : Int, (wrap64 ((a1.size : Int) + 1)) = j_ := ⟨_, rfl⟩
    replace H : (if 0 ≤ (ji6) then (if (ji6 : Int).toNat ≤ 281474976710656 then ((some (List.replicate (ji6 : Int).toNat false : List Bool)).bind fun y244 => (if 0 < (y244.length : Int) then (impl_GlobFits.l0 kj2 a0 a1 (y244.set (0 : Int).toNat true) (a0.size : Int) 0) else (none))) else (none)) else (none)) = some r := by first | (rw [hji6] at H; exact H) | (simp only [hji6] at H ⊢; exact H)
    have hji6w : (IntKind.i64.wrap ((a1.size : Int) + 1)) = ji6 := (i64_w _).trans hji6
    by_cases c7 : 0 ≤ (ji6)
    ·
     rw [if_pos c7] at H
     have c7b0 := eq_true c7
     have c7b1 : decide (0 ≤ (ji6)) = true := decide_eq_true c7
     clear c7
     by_cases c8 : (ji6 : Int).toNat ≤ 281474976710656
     ·
      rw [if_pos c8] at H
      have c8b0 := eq_true c8
      have c8b1 : decide ((ji6 : Int).toNat ≤ 281474976710656) = true := decide_eq_true c8
      clear c8
      obtain ⟨y244, hy244⟩ : ∃ y_ : List Bool, y_ = (List.replicate (ji6 : Int).toNat false) := ⟨_, rfl⟩
      replace H : (if 0 < (y244.length : Int) then (impl_GlobFits.l0 kj2 a0 a1 (y244.set (0 : Int).toNat true) (a0.size : Int) 0) else (none)) = some r := by first | (rw [hy244]; with_reducible exact H) | (have H2_ := (Option.bind_some _ _).symm.trans H; rw [hy244]; with_reducible exact H2_) | (have H2_ := (Option.bind_some _ _).symm.trans H; with_reducible exact H2_) | with_reducible exact H | (rw [hy244]; exact H) | exact H
      have Ny244 := Aside0.mk hy244
      clear hy244
      by_cases c9 : 0 < (y244.length : Int)
      ·
       rw [if_pos c9] at H
       have c9b0 : decide (0 < (y244.length : Int)) = true := decide_eq_true c9
       have c9b1 : decide (0 < y244.length) = true := decide_eq_true (by omega)
       clear c9
       obtain ⟨y247, hy247⟩ : ∃ y_ : List Bool, y_ = (y244.set (0 : Int).toNat true) := ⟨_, rfl⟩
       replace H : (impl_GlobFits.l0 kj2 a0 a1 y247 (a0.size : Int) 0) = some r := by first | (rw [hy247]; with_reducible exact H) | (have H2_ := (Option.bind_some _ _).symm.trans H; rw [hy247]; with_reducible exact H2_) | (have H2_ := (Option.bind_some _ _).symm.trans H; with_reducible exact H2_) | with_reducible exact H | (rw [hy247]; exact H) | exact H
       have Ny247 := Aside0.mk hy247
       clear hy247
       have H' := Aside0.mk H
       clear H
       go_wp2_with (first | ((with_reducible refine gate_dst (N := 21) rfl ?_); (try (refine gate_guard (by rfl) ?_; dsimp only)); refine Kd.R_make Kd.bool _ 4 rfl (N := 21) rfl 81 _ _ rfl ji6 rfl rfl Try.underlying81 (.bool false) 1 info4 rfl (by decide) (by omega) false (ok := fun _ => True) (okp := fun _ => True) rfl (fun _ hk => hk) trivial (of_decide_eq_true (by first | (with_reducible assumption) | assumption)) (Nat.le_trans (Nat.mul_le_mul_right _ (of_decide_eq_true (by first | (with_reducible assumption) | assumption) : ji6.toNat ≤ 281474976710656)) (by omega)) (Below.refl _ _) (Nat.le_refl _) ?_; intro v245 w11 ho12 hb hg_ hnew_; clear hg_ hnew_; (first | rw [← Ny244.out] at ho12 | (simp only [Int.reduceToNat] at ho12; rw [← Ny244.out] at ho12)); have n0_ := Aside0.mk (Kd.R_lower ho12 (below_size (by first | exact Grow.bl HB.out | exact HB.out))); have n1_ := Aside0.mk (below_step (by first | exact Grow.bl HB.out | exact HB.out) hb); clear HB; have HO246 := n0_; have HB := n1_; clear n0_ n1_; clear hb ho12; have p10 : 0 ≤ (0 : Int) := (by omega); have q10 : (0 : Int) < ((y244.length : Int) : Int) := of_decide_eq_true (by first | (with_reducible assumption) | assumption); have qi10 : (0 < y244.length) = True := eq_true (by omega); obtain ⟨go10, co10, eo10, gb10, gl10, cl10, HG10⟩ := Kd.R_form HO246.out (by omega); (first | cases eo10 | (injection eo10 with ea_ en_ ec_; (first | subst ea_ | (injection ea_ with ea_; subst ea_)); subst ec_; clear en_)); have GB10 := Aside0.mk gb10; have GG10 := Aside0.mk HG10; clear gb10 gl10 HG10; obtain ⟨hx10_0, hf10_0⟩ := Kd.R_celln false HO246.out (0 : Int) p10 q10; (try rw [show ((0 : Int)).toNat = 0 from rfl] at hx10_0); (try simp only [Nat.reduceMul, Nat.zero_mul, Nat.zero_add, Nat.reduceAdd] at hx10_0); (try rw [show ((0 : Int)).toNat = 0 from rfl] at hf10_0); (try simp only [Nat.reduceMul, Nat.zero_mul, Nat.zero_add, Nat.reduceAdd] at hf10_0); replace p10 := eq_true p10; replace q10 := eq_true q10; obtain ⟨hy13_, hz13_⟩ := Kd.R_celln false HO246.out (0 : Int) (by omega) (of_decide_eq_true (by first | (with_reducible assumption) | assumption)); (try simp only [Int.reduceToNat, Int.toNat_zero, Int.toNat_ofNat, Nat.reduceMul, Nat.zero_mul, Nat.zero_add] at hy13_ hz13_); (try rw [show ((0 : Int)).toNat = 0 from rfl] at hy13_); (try rw [show ((0 : Int)).toNat = 0 from rfl] at hz13_); have HP13 := Kd.R_putg HO246.out (0 : Int) true) | ((with_reducible refine gate_store (t := 4) (p := 23) rfl ?_); refine store_event (t := 4) (p := 23) (v := ?vo_w14) (w1 := (w11.setCell ⟨go10, (0 : Int).toNat, none⟩ (.bool true))) ?hg ?ho ?hn ?hr ?_; (case ho => rfl); (case hg => rfl); (case hn => rfl); (case hr => first | (go_simp; done) | (go_simp; rfl)); intro w14 hw; have hg : w11.grownBy w14 (some go10) := (by rw [hw]; exact HP13.2); have hp_ : Kd.R Kd.bool 4 w14 w.heap.size (fun _ => True) (.slice (some ⟨go10, 0, none⟩) y244.length co10) y247 := (by rw [hw, Ny247.out]; exact HP13.1); clear HP13; have n0_ := Aside0.mk (hp_); have n1_ := Aside0.mk ((by rw [hw]; exact below_set (HB.out) GB10.out : Below w.heap.size w w14)); clear HO246; clear HB; have HO246 := n0_; have HB := n1_; clear n0_ n1_; clear hg hw hp_))
       go_loopg [5, 26] kj2 (fun kq v5 v26 w' => ∃ (x5_2 : List Bool) (x26_2 : Int), v26 = .int .i64 x26_2 ∧ Aside0 (impl_GlobFits.l0 kq a0 a1 x5_2 (a0.size : Int) x26_2 = some r) ∧ Aside0 (kq ≤ kj2) ∧ Aside0 (Kd.R Kd.bool 4 w' w.heap.size (fun _ => True) v5 x5_2) ∧ Aside0 (Below w.heap.size w w'))
       case atStart => exact ⟨(y247), (0), (by first | rfl | (simp; done) | (simp [*]; done)), H', ⟨Nat.le_refl _⟩, ⟨by first | exact Grow.rg HO246.out | exact HO246.out⟩, ⟨by first | exact Grow.bl HB.out | exact HB.out⟩⟩
       case round =>
        clear H'
        try clear c1
        try clear p1
        try clear q1
        try clear hx1
        try clear qi1
        try clear p2
        try clear c4
        try clear c4b0
        try clear c4b1
        try clear c5
        try clear p6
        try clear c7
        try clear c7b0
        try clear c7b1
        try clear c8
        try clear c8b0
        try clear c8b1
        try clear c9
        try clear c9b0
        try clear c9b1
        try clear p10
        try clear q10
        try clear hx10
        try clear qi10
        try clear hf10
        try clear c14
        try clear hx10_0
        try clear p10
        try clear p2
        try clear q10
        obtain ⟨x5_2, x26_2, rfl, HA, HK2, HO_5, HB⟩ := hrel
        cases gk with
        | zero => exact absurd HA.out (by simp [impl_GlobFits.l0])
        | succ k2 =>
         have H := HA.out
         clear HA
         simp only [impl_GlobFits.l0] at H
         by_cases c15 : x26_2 < (a0.size : Int)
         ·
          rw [if_pos c15] at H
          have c15b0 : decide (x26_2 < (a0.size : Int)) = true := decide_eq_true c15
          clear c15
          try clear hji6w
          try clear hji6
          obtain ⟨ji16, hji16⟩ : ∃ j_ : Int, (wrap64 ((a1.size : Int) + 1)) = j_ := ⟨_, rfl⟩
          replace H : (if 0 ≤ (ji16) then (if (ji16 : Int).toNat ≤ 281474976710656 then (impl_GlobFits.l1 k2 a0 a1 x5_2 x26_2 (List.replicate (ji16 : Int).toNat false) false (a0.size : Int) x26_2 (x5_2.length : Int) 0) else (none)) else (none)) = some r := by first | (rw [hji16] at H; exact H) | (simp only [hji16] at H ⊢; exact H)
          have hji16w : (IntKind.i64.wrap ((a1.size : Int) + 1)) = ji16 := (i64_w _).trans hji16
          by_cases c17 : 0 ≤ (ji16)
          ·
           rw [if_pos c17] at H
           have c17b0 := eq_true c17
           have c17b1 : decide (0 ≤ (ji16)) = true := decide_eq_true c17
           clear c17
           by_cases c18 : (ji16 : Int).toNat ≤ 281474976710656
           ·
            rw [if_pos c18] at H
            have c18b0 := eq_true c18
            have c18b1 : decide ((ji16 : Int).toNat ≤ 281474976710656) = true := decide_eq_true c18
            clear c18
            obtain ⟨y249, hy249⟩ : ∃ y_ : List Bool, y_ = (List.replicate (ji16 : Int).toNat false) := ⟨_, rfl⟩
            replace H : (impl_GlobFits.l1 k2 a0 a1 x5_2 x26_2 y249 false (a0.size : Int) x26_2 (x5_2.length : Int) 0) = some r := by first | (rw [hy249]; with_reducible exact H) | (have H2_ := (Option.bind_some _ _).symm.trans H; rw [hy249]; with_reducible exact H2_) | (have H2_ := (Option.bind_some _ _).symm.trans H; with_reducible exact H2_) | with_reducible exact H | (rw [hy249]; exact H) | exact H
            have Ny249 := Aside0.mk hy249
            clear hy249
            have H' := Aside0.mk H
            clear H
            go_wp2_with (first | ((with_reducible refine gate_dst (N := 32) rfl ?_); (try (refine gate_guard (by rfl) ?_; dsimp only)); refine Kd.R_make Kd.bool _ 4 rfl (N := 32) rfl 81 _ _ rfl ji16 rfl rfl Try.underlying81 (.bool false) 1 info4 rfl (by decide) (by omega) false (ok := fun _ => True) (okp := fun _ => True) rfl (fun _ hk => hk) trivial (of_decide_eq_true (by first | (with_reducible assumption) | assumption)) (Nat.le_trans (Nat.mul_le_mul_right _ (of_decide_eq_true (by first | (with_reducible assumption) | assumption) : ji16.toNat ≤ 281474976710656)) (by omega)) (Below.refl _ _) (Nat.le_refl _) ?_; intro v250 w19 ho20 hb hg_ hnew_; clear hg_ hnew_; (first | rw [← Ny249.out] at ho20 | (simp only [Int.reduceToNat] at ho20; rw [← Ny249.out] at ho20)); have n0_ := Aside0.mk (Kd.R_elder' (by first | exact Grow.rg HO_5.out | exact HO_5.out) (Kd.R_base ho20) hb); have n1_ := Aside0.mk (Kd.R_lower (Kd.R_new' ho20 (Kd.R_lt (by first | exact Grow.rg HO_5.out | exact HO_5.out))) (below_size (by first | exact Grow.bl HB.out | exact HB.out))); have n2_ := Aside0.mk (below_step (by first | exact Grow.bl HB.out | exact HB.out) hb); clear HO_5; clear HB; have HO_5 := n0_; have HO251 := n1_; have HB := n2_; clear n0_ n1_ n2_; clear hb ho20; obtain ⟨Ao21, co21, eo21⟩ := Kd.R_slice HO_5.out; subst eo21))
            go_loopg [8, 35] k2 (fun kq v8 v35 w' => ∃ (x7_3 : List Bool) (x8_3 : Bool) (x35_3 : Int), v8 = .bool x8_3 ∧ v35 = .int .i64 x35_3 ∧ Aside0 (impl_GlobFits.l1 kq a0 a1 x5_2 x26_2 x7_3 x8_3 (a0.size : Int) x26_2 (x5_2.length : Int) x35_3 = some r) ∧ Aside0 (kq ≤ k2) ∧ Aside0 (Kd.R Kd.bool 4 w' w.heap.size (fun k_ => some k_ ≠ (v250 : Value).ownBlock) (.slice Ao21 x5_2.length co21) x5_2) ∧ Aside0 (Kd.R Kd.bool 4 w' w.heap.size (fun k_ => some k_ ≠ ((.slice Ao21 x5_2.length co21) : Value).ownBlock) v250 x7_3) ∧ Aside0 (Below w.heap.size w w'))
            case atStart => exact ⟨(y249), (false), (0), (by first | rfl | (simp; done) | (simp [*]; done)), (by first | rfl | (simp; done) | (simp [*]; done)), H', ⟨Nat.le_refl _⟩, ⟨by (with_reducible repeat (first | apply Kd.R_alloc | apply Kd.R_drewN | apply Kd.R_drew)); exact Kd.R_mono HO_5.out (fun _ hk => hk.2)⟩, ⟨by (with_reducible repeat (first | apply Kd.R_alloc | apply Kd.R_drewN | apply Kd.R_drew)); exact Kd.R_mono HO251.out (fun _ hk => hk.2)⟩, ⟨by first | exact Grow.bl HB.out | exact HB.out⟩⟩
            case round =>
             clear H'
             try clear c1
             try clear p1
             try clear q1
             try clear hx1
             try clear qi1
             try clear p2
             try clear c4
             try clear c4b0
             try clear c4b1
             try clear c5
             try clear p6
             try clear c7
             try clear c7b0
             try clear c7b1
             try clear c8
             try clear c8b0
             try clear c8b1
             try clear c9
             try clear c9b0
             try clear c9b1
             try clear p10
             try clear q10
             try clear hx10
             try clear qi10
             try clear hf10
             try clear c14
             try clear c15
             try clear c15b0
             try clear c17
             try clear c17b0
             try clear c17b1
             try clear c18
             try clear c18b0
             try clear c18b1
             try clear hx10_0
             try clear p1
             try clear p10
             try clear p2
             try clear p6
             try clear q1
             try clear q10
             obtain ⟨x7_3, x8_3, x35_3, rfl, rfl, HA, HK3, HO_5, HO_7, HB⟩ := hrel
             cases gk with
             | zero => exact absurd HA.out (by simp [impl_GlobFits.l1])
             | succ k3 =>
              have H := HA.out
              clear HA
              simp only [impl_GlobFits.l1] at H
              by_cases c22 : x35_3 < (x5_2.length : Int)
              ·
               rw [if_pos c22] at H
               have c22b0 : decide (x35_3 < (x5_2.length : Int)) = true := decide_eq_true c22
               clear c22
               by_cases c23 : 0 ≤ x26_2
               ·
                rw [if_pos c23] at H
                have c23b0 : decide (0 ≤ x26_2) = true := decide_eq_true c23
                clear c23
                by_cases c24 : x26_2 < (a0.size : Int)
                ·
                 rw [if_pos c24] at H
                 have c24b0 : decide (x26_2 < (a0.size : Int)) = true := decide_eq_true c24
                 clear c24
                 by_cases c26 : (bt a0 x26_2) = 42
                 ·
                  rw [if_pos c26] at H
                  have c26b0 : ((bt a0 x26_2) == 42) = true := beq_iff_eq.mpr c26
                  have c26b1 : ((bt a0 x26_2) != 42) = false := bne_eq_false_iff_eq.mpr c26
                  clear c26
                  by_cases c27 : x8_3 = true
                  ·
                   subst c27
                   have H1 : (if 0 ≤ x35_3 then (if x35_3 < (x7_3.length : Int) then (impl_GlobFits.l1 k3 a0 a1 x5_2 x26_2 (x7_3.set (x35_3 : Int).toNat true) true (a0.size : Int) x26_2 (x5_2.length : Int) (wrap64 (x35_3 + 1))) else (none)) else (none)) = some r := by rw [if_pos rfl] at H; exact H
                   clear H
                   have H := H1
                   clear H1
                   by_cases c28 : 0 ≤ x35_3
                   ·
                    rw [if_pos c28] at H
                    have c28b0 : decide (0 ≤ x35_3) = true := decide_eq_true c28
                    clear c28
                    by_cases c29 : x35_3 < (x7_3.length : Int)
                    ·
                     rw [if_pos c29] at H
                     have c29b0 : decide (x35_3 < (x7_3.length : Int)) = true := decide_eq_true c29
                     clear c29
                     obtain ⟨y252, hy252⟩ : ∃ y_ : List Bool, y_ = (x7_3.set (x35_3 : Int).toNat true) := ⟨_, rfl⟩
                     replace H : (impl_GlobFits.l1 k3 a0 a1 x5_2 x26_2 y252 true (a0.size : Int) x26_2 (x5_2.length : Int) (wrap64 (x35_3 + 1))) = some r := by first | (rw [hy252]; with_reducible exact H) | (have H2_ := (Option.bind_some _ _).symm.trans H; rw [hy252]; with_reducible exact H2_) | (have H2_ := (Option.bind_some _ _).symm.trans H; with_reducible exact H2_) | with_reducible exact H | (rw [hy252]; exact H) | exact H
                     have Ny252 := Aside0.mk hy252
                     clear hy252
                     have H' := Aside0.mk H
                     clear H
                     have p25 : 0 ≤ (x26_2 : Int) := of_decide_eq_true (by first | (with_reducible assumption) | assumption)
                     have q25 : x26_2 < (a0.size : Int) := of_decide_eq_true (by first | (with_reducible assumption) | assumption)
                     have hx25 := bt_at a0 x26_2
                     replace p25 := eq_true p25
                     replace q25 := eq_true q25
                     have p30 : 0 ≤ (x35_3 : Int) := of_decide_eq_true (by first | (with_reducible assumption) | assumption)
                     have q30 : (x35_3 : Int) < ((x7_3.length : Int) : Int) := of_decide_eq_true (by first | (with_reducible assumption) | assumption)
                     obtain ⟨go30, co30, eo30, gb30, gl30, cl30, HG30⟩ := Kd.R_form HO_7.out (by omega)
                     (first | cases eo30 | (injection eo30 with ea_ en_ ec_; (first | subst ea_ | (injection ea_ with ea_; subst ea_)); subst ec_; clear en_))
                     have GB30 := Aside0.mk gb30
                     have GG30 := Aside0.mk HG30
                     clear gb30 gl30 HG30
                     obtain ⟨hx30_0, hf30_0⟩ := Kd.R_celln false HO_7.out (x35_3 : Int) p30 q30
                     replace p30 := eq_true p30
                     replace q30 := eq_true q30
                     have HP31 := Kd.R_putg HO_7.out (x35_3 : Int) true
                     go_wp2_with (first | ((with_reducible refine gate_store (t := 4) (p := 53) rfl ?_); refine store_event (t := 4) (p := 53) (v := ?vo_w32) (w1 := (wr.setCell ⟨go30, (x35_3 : Int).toNat, none⟩ (.bool true))) ?hg ?ho ?hn ?hr ?_; (case ho => rfl); (case hg => rfl); (case hn => rfl); (case hr => first | (go_simp; done) | (go_simp; rfl)); intro w32 hw; have hg : wr.grownBy w32 (some go30) := (by rw [hw]; exact HP31.2); have hp_ : Kd.R Kd.bool 4 w32 w.heap.size (fun k_ => some k_ ≠ (.slice Ao21 x5_2.length co21 : Value).ownBlock) (.slice (some ⟨go30, 0, none⟩) x7_3.length co30) y252 := (by rw [hw, Ny252.out]; exact HP31.1); clear HP31; have n0_ := Aside0.mk (Kd.R_after (v := (.slice (some ⟨go30, 0, none⟩) x7_3.length co30)) (v1 := (.slice (some ⟨go30, 0, none⟩) x7_3.length co30)) (ok := (fun _ => True)) (by (with_reducible repeat (first | apply Kd.R_alloc | apply Kd.R_drewN | apply Kd.R_drew)); exact Kd.R_mono HO_5.out (fun _ hk => ⟨trivial, hk⟩)) hg (.inl rfl)); have n1_ := Aside0.mk (hp_); have n2_ := Aside0.mk ((by rw [hw]; exact below_set (HB.out) GB30.out : Below w.heap.size w w32)); clear HO_5; clear HO_7; clear HB; have HO_5 := n0_; have HO_7 := n1_; have HB := n2_; clear n0_ n1_ n2_; clear hg hw hp_))
                     go_roundg k3
                     case measure => have := HJ2.out; have := HK2.out; have := HK3.out; omega
                     case rel => exact ⟨(y252), (true), (wrap64 (x35_3 + 1)), (by first | rfl | (simp; done) | (simp [*]; done)), (by first | rfl | (simp; done) | (simp [*]; done)), H', ⟨by have := HJ2.out; have := HK2.out; have := HK3.out; omega⟩, ⟨by (with_reducible repeat (first | apply Kd.R_alloc | apply Kd.R_drewN | apply Kd.R_drew)); exact Kd.R_mono HO_5.out (fun _ hk => hk.2)⟩, ⟨by first | exact Grow.rg HO_7.out | exact HO_7.out⟩, ⟨by first | exact Grow.bl HB.out | exact HB.out⟩⟩
                    ·
                     rw [if_neg c29] at H
                     exact absurd H (by simp)
                   ·
                    rw [if_neg c28] at H
                    exact absurd H (by simp)
                  ·
                   replace c27 := Bool.eq_false_iff.mpr c27
                   subst c27
                   have H1 : (if 0 ≤ x35_3 then (if x35_3 < (x5_2.length : Int) then (if x35_3 < (x7_3.length : Int) then (impl_GlobFits.l1 k3 a0 a1 x5_2 x26_2 (x7_3.set (x35_3 : Int).toNat (rdOf false x5_2 x35_3)) (rdOf false x5_2 x35_3) (a0.size : Int) x26_2 (x5_2.length : Int) (wrap64 (x35_3 + 1))) else (none)) else (none)) else (none)) = some r := by rw [if_neg (show ¬ (false = true) by decide)] at H; exact H
                   clear H
                   have H := H1
                   clear H1
                   by_cases c33 : 0 ≤ x35_3
                   ·
                    rw [if_pos c33] at H
                    have c33b0 : decide (0 ≤ x35_3) = true := decide_eq_true c33
                    clear c33
                    by_cases c34 : x35_3 < (x5_2.length : Int)
                    ·
                     rw [if_pos c34] at H
                     have c34b0 : decide (x35_3 < (x5_2.length : Int)) = true := decide_eq_true c34
                     clear c34
                     by_cases c35 : x35_3 < (x7_3.length : Int)
                     ·
                      rw [if_pos c35] at H
                      have c35b0 : decide (x35_3 < (x7_3.length : Int)) = true := decide_eq_true c35
                      clear c35
                      obtain ⟨y254, hy254⟩ : ∃ y_ : List Bool, y_ = (x7_3.set (x35_3 : Int).toNat (rdOf false x5_2 x35_3)) := ⟨_, rfl⟩
                      replace H : (impl_GlobFits.l1 k3 a0 a1 x5_2 x26_2 y254 (rdOf false x5_2 x35_3) (a0.size : Int) x26_2 (x5_2.length : Int) (wrap64 (x35_3 + 1))) = some r := by first | (rw [hy254]; with_reducible exact H) | (have H2_ := (Option.bind_some _ _).symm.trans H; rw [hy254]; with_reducible exact H2_) | (have H2_ := (Option.bind_some _ _).symm.trans H; with_reducible exact H2_) | with_reducible exact H | (rw [hy254]; exact H) | exact H
                      have Ny254 := Aside0.mk hy254
                      clear hy254
                      have H' := Aside0.mk H
                      clear H
                      have p25 : 0 ≤ (x26_2 : Int) := of_decide_eq_true (by first | (with_reducible assumption) | assumption)
                      have q25 : x26_2 < (a0.size : Int) := of_decide_eq_true (by first | (with_reducible assumption) | assumption)
                      have hx25 := bt_at a0 x26_2
                      replace p25 := eq_true p25
                      replace q25 := eq_true q25
                      have p253 : 0 ≤ (x35_3 : Int) := of_decide_eq_true (by first | (with_reducible assumption) | assumption)
                      have q253 : x35_3 < (x5_2.length : Int) := of_decide_eq_true (by first | (with_reducible assumption) | assumption)
                      obtain ⟨ad253, e253, hx253_0⟩ := Kd.at_bool (Kd.R_reads' HO_5.out).2.2 x35_3 p253 q253
                      cases e253
                      replace p253 := eq_true p253
                      replace q253 := eq_true q253
                      have p36 : 0 ≤ (x35_3 : Int) := of_decide_eq_true (by first | (with_reducible assumption) | assumption)
                      have q36 : (x35_3 : Int) < ((x7_3.length : Int) : Int) := of_decide_eq_true (by first | (with_reducible assumption) | assumption)
                      obtain ⟨go36, co36, eo36, gb36, gl36, cl36, HG36⟩ := Kd.R_form HO_7.out (by omega)
                      (first | cases eo36 | (injection eo36 with ea_ en_ ec_; (first | subst ea_ | (injection ea_ with ea_; subst ea_)); subst ec_; clear en_))
                      have GB36 := Aside0.mk gb36
                      have GG36 := Aside0.mk HG36
                      clear gb36 gl36 HG36
                      obtain ⟨hx36_0, hf36_0⟩ := Kd.R_celln false HO_7.out (x35_3 : Int) p36 q36
                      replace p36 := eq_true p36
                      replace q36 := eq_true q36
                      have HP37 := Kd.R_putg HO_7.out (x35_3 : Int) (rdOf false x5_2 x35_3)
                      go_wp2_with (first | ((with_reducible refine gate_store (t := 4) (p := 53) rfl ?_); refine store_event (t := 4) (p := 53) (v := ?vo_w38) (w1 := (wr.setCell ⟨go36, (x35_3 : Int).toNat, none⟩ (.bool (rdOf false x5_2 x35_3)))) ?hg ?ho ?hn ?hr ?_; (case ho => rfl); (case hg => rfl); (case hn => rfl); (case hr => first | (go_simp; done) | (go_simp; rfl)); intro w38 hw; have hg : wr.grownBy w38 (some go36) := (by rw [hw]; exact HP37.2); have hp_ : Kd.R Kd.bool 4 w38 w.heap.size (fun k_ => some k_ ≠ (.slice (some ad253) x5_2.length co21 : Value).ownBlock) (.slice (some ⟨go36, 0, none⟩) x7_3.length co36) y254 := (by rw [hw, Ny254.out]; exact HP37.1); clear HP37; have n0_ := Aside0.mk (Kd.R_after (v := (.slice (some ⟨go36, 0, none⟩) x7_3.length co36)) (v1 := (.slice (some ⟨go36, 0, none⟩) x7_3.length co36)) (ok := (fun _ => True)) (by (with_reducible repeat (first | apply Kd.R_alloc | apply Kd.R_drewN | apply Kd.R_drew)); exact Kd.R_mono HO_5.out (fun _ hk => ⟨trivial, hk⟩)) hg (.inl rfl)); have n1_ := Aside0.mk (hp_); have n2_ := Aside0.mk ((by rw [hw]; exact below_set (HB.out) GB36.out : Below w.heap.size w w38)); clear HO_5; clear HO_7; clear HB; have HO_5 := n0_; have HO_7 := n1_; have HB := n2_; clear n0_ n1_ n2_; clear hg hw hp_))
                      go_roundg k3
                      case measure => have := HJ2.out; have := HK2.out; have := HK3.out; omega
                      case rel => exact ⟨(y254), (rdOf false x5_2 x35_3), (wrap64 (x35_3 + 1)), (by first | rfl | (simp; done) | (simp [*]; done)), (by first | rfl | (simp; done) | (simp [*]; done)), H', ⟨by have := HJ2.out; have := HK2.out; have := HK3.out; omega⟩, ⟨by (with_reducible repeat (first | apply Kd.R_alloc | apply Kd.R_drewN | apply Kd.R_drew)); exact Kd.R_mono HO_5.out (fun _ hk => hk.2)⟩, ⟨by first | exact Grow.rg HO_7.out | exact HO_7.out⟩, ⟨by first | exact Grow.bl HB.out | exact HB.out⟩⟩
                     ·
                      rw [if_neg c35] at H
                      exact absurd H (by simp)
                    ·
                     exact absurd (of_decide_eq_true c22b0) c34
                   ·
                    rw [if_neg c33] at H
                    exact absurd H (by simp)
                 ·
                  rw [if_neg c26] at H
                  have c26b0 : ((bt a0 x26_2) == 42) = false := beq_eq_false_iff_ne.mpr c26
                  have c26b1 : ((bt a0 x26_2) != 42) = true := bne_iff_ne.mpr c26
                  by_cases c39 : x35_3 > 0
                  ·
                   rw [if_pos c39] at H
                   have c39b0 : decide (0 < x35_3) = true := decide_eq_true c39
                   clear c39
                   obtain ⟨ji40, hji40⟩ : ∃ j_ : Int, (wrap64 (x35_3 - 1)) = j_ := ⟨_, rfl⟩
                   replace H : (if 0 ≤ (ji40) then (if (ji40) < (x5_2.length : Int) then (if rdOf false x5_2 (ji40) = true then (if (bt a0 x26_2) = 63 then (if 0 ≤ x35_3 then (if x35_3 < (x7_3.length : Int) then (impl_GlobFits.l1 k3 a0 a1 x5_2 x26_2 (x7_3.set (x35_3 : Int).toNat true) x8_3 (a0.size : Int) x26_2 (x5_2.length : Int) (wrap64 (x35_3 + 1))) else (none)) else (none)) else (if (ji40) < (a1.size : Int) then (if 0 ≤ x35_3 then (if x35_3 < (x7_3.length : Int) then (impl_GlobFits.l1 k3 a0 a1 x5_2 x26_2 (x7_3.set (x35_3 : Int).toNat ((bt a0 x26_2) == (bt a1 (ji40)))) x8_3 (a0.size : Int) x26_2 (x5_2.length : Int) (wrap64 (x35_3 + 1))) else (none)) else (none)) else (none))) else (if 0 ≤ x35_3 then (if x35_3 < (x7_3.length : Int) then (impl_GlobFits.l1 k3 a0 a1 x5_2 x26_2 (x7_3.set (x35_3 : Int).toNat false) x8_3 (a0.size : Int) x26_2 (x5_2.length : Int) (wrap64 (x35_3 + 1))) else (none)) else (none))) else (none)) else (none)) = some r := by first | (rw [hji40] at H; exact H) | (simp only [hji40] at H ⊢; exact H)
                   have hji40w : (IntKind.i64.wrap (x35_3 - 1)) = ji40 := (i64_w _).trans hji40
                   by_cases c41 : 0 ≤ (ji40)
                   ·
                    rw [if_pos c41] at H
                    have c41b0 : decide (0 ≤ (ji40)) = true := decide_eq_true c41
                    clear c41
                    by_cases c42 : (ji40) < (x5_2.length : Int)
                    ·
                     rw [if_pos c42] at H
                     have c42b0 : decide ((ji40) < (x5_2.length : Int)) = true := decide_eq_true c42
                     clear c42
                     obtain ⟨bq43, hbq43⟩ : ∃ b_ : Bool, b_ = (rdOf false x5_2 (ji40)) := ⟨_, rfl⟩
                     replace H : (if bq43 = true then (if (bt a0 x26_2) = 63 then (if 0 ≤ x35_3 then (if x35_3 < (x7_3.length : Int) then (impl_GlobFits.l1 k3 a0 a1 x5_2 x26_2 (x7_3.set (x35_3 : Int).toNat true) x8_3 (a0.size : Int) x26_2 (x5_2.length : Int) (wrap64 (x35_3 + 1))) else (none)) else (none)) else (if (ji40) < (a1.size : Int) then (if 0 ≤ x35_3 then (if x35_3 < (x7_3.length : Int) then (impl_GlobFits.l1 k3 a0 a1 x5_2 x26_2 (x7_3.set (x35_3 : Int).toNat ((bt a0 x26_2) == (bt a1 (ji40)))) x8_3 (a0.size : Int) x26_2 (x5_2.length : Int) (wrap64 (x35_3 + 1))) else (none)) else (none)) else (none))) else (if 0 ≤ x35_3 then (if x35_3 < (x7_3.length : Int) then (impl_GlobFits.l1 k3 a0 a1 x5_2 x26_2 (x7_3.set (x35_3 : Int).toNat false) x8_3 (a0.size : Int) x26_2 (x5_2.length : Int) (wrap64 (x35_3 + 1))) else (none)) else (none))) = some r := by rw [← hbq43] at H; exact H
                     have Nbq43 := Aside0.mk hbq43
                     clear hbq43
                     by_cases c44 : bq43 = true
                     ·
                      subst c44
                      have H1 : (if (bt a0 x26_2) = 63 then (if 0 ≤ x35_3 then (if x35_3 < (x7_3.length : Int) then (impl_GlobFits.l1 k3 a0 a1 x5_2 x26_2 (x7_3.set (x35_3 : Int).toNat true) x8_3 (a0.size : Int) x26_2 (x5_2.length : Int) (wrap64 (x35_3 + 1))) else (none)) else (none)) else (if (ji40) < (a1.size : Int) then (if 0 ≤ x35_3 then (if x35_3 < (x7_3.length : Int) then (impl_GlobFits.l1 k3 a0 a1 x5_2 x26_2 (x7_3.set (x35_3 : Int).toNat ((bt a0 x26_2) == (bt a1 (ji40)))) x8_3 (a0.size : Int) x26_2 (x5_2.length : Int) (wrap64 (x35_3 + 1))) else (none)) else (none)) else (none))) = some r := by rw [if_pos rfl] at H; exact H
                      clear H
                      have H := H1
                      clear H1
                      by_cases c46 : (bt a0 x26_2) = 63
                      ·
                       rw [if_pos c46] at H
                       have c46b0 : ((bt a0 x26_2) == 63) = true := beq_iff_eq.mpr c46
                       have c46b1 : ((bt a0 x26_2) != 63) = false := bne_eq_false_iff_eq.mpr c46
                       clear c46
                       by_cases c47 : 0 ≤ x35_3
                       ·
                        rw [if_pos c47] at H
                        have c47b0 : decide (0 ≤ x35_3) = true := decide_eq_true c47
                        clear c47
                        by_cases c48 : x35_3 < (x7_3.length : Int)
                        ·
                         rw [if_pos c48] at H
                         have c48b0 : decide (x35_3 < (x7_3.length : Int)) = true := decide_eq_true c48
                         clear c48
                         obtain ⟨y256, hy256⟩ : ∃ y_ : List Bool, y_ = (x7_3.set (x35_3 : Int).toNat true) := ⟨_, rfl⟩
                         replace H : (impl_GlobFits.l1 k3 a0 a1 x5_2 x26_2 y256 x8_3 (a0.size : Int) x26_2 (x5_2.length : Int) (wrap64 (x35_3 + 1))) = some r := by first | (rw [hy256]; with_reducible exact H) | (have H2_ := (Option.bind_some _ _).symm.trans H; rw [hy256]; with_reducible exact H2_) | (have H2_ := (Option.bind_some _ _).symm.trans H; with_reducible exact H2_) | with_reducible exact H | (rw [hy256]; exact H) | exact H
                         have Ny256 := Aside0.mk hy256
                         clear hy256
                         have H' := Aside0.mk H
                         clear H
                         have p25 : 0 ≤ (x26_2 : Int) := of_decide_eq_true (by first | (with_reducible assumption) | assumption)
                         have q25 : x26_2 < (a0.size : Int) := of_decide_eq_true (by first | (with_reducible assumption) | assumption)
                         have hx25 := bt_at a0 x26_2
                         replace p25 := eq_true p25
                         replace q25 := eq_true q25
                         try go_wp2
                         have n0_ := Aside0.mk (Kd.R_drew HO_5.out)
                         have n1_ := Aside0.mk (Kd.R_drew HO_7.out)
                         have n2_ := Aside0.mk (below_drew1 HB.out)
                         clear HO_5
                         clear HO_7
                         clear HB
                         have HO_5 := n0_
                         have HO_7 := n1_
                         have HB := n2_
                         clear n0_ n1_ n2_
                         have p255 : 0 ≤ ((ji40) : Int) := of_decide_eq_true (by first | (with_reducible assumption) | assumption)
                         have q255 : (ji40) < (x5_2.length : Int) := of_decide_eq_true (by first | (with_reducible assumption) | assumption)
                         obtain ⟨ad255, e255, hx255_0⟩ := Kd.at_bool (Kd.R_reads' HO_5.out).2.2 (ji40) p255 q255
                         (try rw [← Nbq43.out] at hx255_0)
                         cases e255
                         replace p255 := eq_true p255
                         replace q255 := eq_true q255
                         have p45 : 0 ≤ (x26_2 : Int) := of_decide_eq_true (by first | (with_reducible assumption) | assumption)
                         have q45 : x26_2 < (a0.size : Int) := of_decide_eq_true (by first | (with_reducible assumption) | assumption)
                         have hx45 := bt_at a0 x26_2
                         replace p45 := eq_true p45
                         replace q45 := eq_true q45
                         have p49 : 0 ≤ (x35_3 : Int) := of_decide_eq_true (by first | (with_reducible assumption) | assumption)
                         have q49 : (x35_3 : Int) < ((x7_3.length : Int) : Int) := of_decide_eq_true (by first | (with_reducible assumption) | assumption)
                         obtain ⟨go49, co49, eo49, gb49, gl49, cl49, HG49⟩ := Kd.R_form HO_7.out (by omega)
                         (first | cases eo49 | (injection eo49 with ea_ en_ ec_; (first | subst ea_ | (injection ea_ with ea_; subst ea_)); subst ec_; clear en_))
                         have GB49 := Aside0.mk gb49
                         have GG49 := Aside0.mk HG49
                         clear gb49 gl49 HG49
                         obtain ⟨hx49_0, hf49_0⟩ := Kd.R_celln false HO_7.out (x35_3 : Int) p49 q49
                         replace p49 := eq_true p49
                         replace q49 := eq_true q49
                         have HP51 := Kd.R_putn HO_7.out (x35_3 : Int) true
                         rw [← Ny256.out] at HP51
                         have HQ51 := Aside0.mk HP51
                         clear HP51
                         refine start_ (n := 25) (S := fun w' => w'.cell? (ad255.add ((ji40)).toNat) = some (.bool true)) (ds := [24]) zf0 (by kernel_rfl) rfl rfl (hx255_0) (fun hHeld => ?_); refine with_tabW impl_GlobFits.tab17 impl_GlobFits.bits17 (fun HT_ HW_ => ?_)
                         generalize wr.drew = w50 at HO_5 HO_7 HB GG49 HQ51 hf49_0 hx255_0 hx49_0 hHeld ⊢
                         refine Cap.pu (v := ?_) (a' := ?_) 0 (some 57) zf1 HT_ rfl rfl (by kernel_rfl) (fun _ _ _ h => h) (Or.inl ⟨by rfl, ?_⟩) ?_ ?_; rotate_left; intro w'; go_simp; with_reducible rfl; rotate_left; simp only [Cap.pz]; rfl
                         refine Cap.pu (v := ?_) (a' := ?_) 1 (some 58) zf2 HT_ rfl rfl (by kernel_rfl) (fun _ _ _ h => h) (Or.inl ⟨by rfl, ?_⟩) ?_ ?_; rotate_left; intro w'; go_simp; with_reducible rfl; rotate_left; simp only [Cap.pz]; rfl
                         refine Cap.pu (v := ?_) (a' := ?_) 2 (some 59) zf3 HT_ rfl rfl (by kernel_rfl) (fun _ _ _ h => h) (Or.inl ⟨by rfl, ?_⟩) ?_ ?_; rotate_left; intro w'; go_simp; with_reducible rfl; rotate_left; simp only [Cap.pz]; rfl
                         refine Cap.pu (v := ?_) (a' := ?_) 3 (some 60) zf4 HT_ rfl rfl (by kernel_rfl) (fun _ _ _ h => h) (Or.inl ⟨by rfl, ?_⟩) ?_ ?_; rotate_left; intro w'; go_simp; with_reducible rfl; rotate_left; simp only [Cap.pz]; rfl
                         refine Cap.pu (v := ?_) (a' := ?_) 4 (some 61) zf5 HT_ rfl rfl (by kernel_rfl) (fun _ _ _ h => h) (Or.inl ⟨by rfl, ?_⟩) ?_ ?_; rotate_left; intro w'; go_simp; with_reducible rfl; rotate_left; simp only [Cap.pz]; rfl
                         refine Cap.pu (v := ?_) (a' := ?_) 5 (some 62) zf6 HT_ rfl rfl (by kernel_rfl) (fun _ _ _ h => h) (Or.inl ⟨by rfl, ?_⟩) ?_ ?_; rotate_left; intro w'; go_simp; with_reducible rfl; rotate_left; simp only [Cap.pz]; rfl
                         refine take_ (i := 6) (N := some 63) (v := ?_) (a' := ?_) zf7 rfl rfl (take_ofW HT_.out HW_.out (by kernel_rfl)) (fun _ _ _ h => h) (Or.inl ⟨by rfl, ?_⟩) hHeld ?_ ?_
                         rotate_left
                         ·
                          intro w' s0
                          go_simp
                          with_reducible rfl
                         rotate_left
                         ·
                          simp only [Cap.pz]
                          rfl
                         refine Cap.pu (v := ?_) (a' := ?_) 7 (some 64) zf8 HT_ rfl rfl (by kernel_rfl) (fun _ _ _ h => h) (Or.inl ⟨by rfl, ?_⟩) ?_ ?_; rotate_left; intro w'; go_simp; with_reducible rfl; rotate_left; simp only [Cap.pz]; rfl
                         refine Cap.pu (v := ?_) (a' := ?_) 8 (some 65) zf9 HT_ rfl rfl (by kernel_rfl) (fun _ _ _ h => h) (Or.inl ⟨by rfl, ?_⟩) ?_ ?_; rotate_left; intro w'; go_simp; with_reducible rfl; rotate_left; simp only [Cap.pz]; rfl
                         refine Cap.pu (v := ?_) (a' := ?_) 9 (some 66) zf10 HT_ rfl rfl (by kernel_rfl) (fun _ _ _ h => h) (Or.inl ⟨by rfl, ?_⟩) ?_ ?_; rotate_left; intro w'; go_simp; with_reducible rfl; rotate_left; simp only [Cap.pz]; rfl
                         refine take_ (i := 10) (N := some 67) (v := ?_) (a' := ?_) zf11 rfl rfl (take_ofW HT_.out HW_.out (by kernel_rfl)) (fun _ _ _ h => h) (Or.inl ⟨by rfl, ?_⟩) hHeld ?_ ?_
                         rotate_left
                         ·
                          intro w' s0
                          go_simp
                          with_reducible rfl
                         rotate_left
                         ·
                          simp only [Cap.pz]
                          rfl
                         refine Cap.pu (v := ?_) (a' := ?_) 11 (some 68) zf12 HT_ rfl rfl (by kernel_rfl) (fun _ _ _ h => h) (Or.inl ⟨by rfl, ?_⟩) ?_ ?_; rotate_left; intro w'; go_simp; with_reducible rfl; rotate_left; simp only [Cap.pz]; rfl
                         refine Cap.pu (v := ?_) (a' := ?_) 12 (some 69) zf13 HT_ rfl rfl (by kernel_rfl) (fun _ _ _ h => h) (Or.inl ⟨by rfl, ?_⟩) ?_ ?_; rotate_left; intro w'; go_simp; with_reducible rfl; rotate_left; simp only [Cap.pz]; rfl
                         refine Cap.pu (v := undef) (a' := ?_) 13 (some 70) zf14 HT_ rfl rfl (by kernel_rfl) (fun _ _ _ h => h) (Or.inr ⟨by rfl, rfl⟩) ?_ ?_; rotate_left; simp only [Cap.pz]; rfl
                         refine Cap.pu (v := undef) (a' := ?_) 14 (some 71) zf15 HT_ rfl rfl (by kernel_rfl) (fun _ _ _ h => h) (Or.inr ⟨by rfl, rfl⟩) ?_ ?_; rotate_left; simp only [Cap.pz]; rfl
                         refine Cap.pu (v := undef) (a' := ?_) 15 (some 72) zf16 HT_ rfl rfl (by kernel_rfl) (fun _ _ _ h => h) (Or.inr ⟨by rfl, rfl⟩) ?_ ?_; rotate_left; simp only [Cap.pz]; rfl
                         refine Cap.pu (v := undef) (a' := ?_) 16 (some 73) zf17 HT_ rfl rfl (by kernel_rfl) (fun _ _ _ h => h) (Or.inr ⟨by rfl, rfl⟩) ?_ ?_; rotate_left; simp only [Cap.pz]; rfl
                         refine Cap.pu (v := undef) (a' := ?_) 17 (some 74) zf18 HT_ rfl rfl (by kernel_rfl) (fun _ _ _ h => h) (Or.inr ⟨by rfl, rfl⟩) ?_ ?_; rotate_left; simp only [Cap.pz]; rfl
                         refine Cap.pu (v := undef) (a' := ?_) 18 (some 75) zf19 HT_ rfl rfl (by kernel_rfl) (fun _ _ _ h => h) (Or.inr ⟨by rfl, rfl⟩) ?_ ?_; rotate_left; simp only [Cap.pz]; rfl
                         refine Cap.pu (v := undef) (a' := ?_) 19 (some 76) zf20 HT_ rfl rfl (by kernel_rfl) (fun _ _ _ h => h) (Or.inr ⟨by rfl, rfl⟩) ?_ ?_; rotate_left; simp only [Cap.pz]; rfl
                         refine Cap.pu (v := undef) (a' := ?_) 20 (some 77) zf21 HT_ rfl rfl (by kernel_rfl) (fun _ _ _ h => h) (Or.inr ⟨by rfl, rfl⟩) ?_ ?_; rotate_left; simp only [Cap.pz]; rfl
                         refine Cap.pu (v := ?_) (a' := ?_) 21 (some 78) zf22 HT_ rfl rfl (by kernel_rfl) (fun _ _ _ h => h) (Or.inl ⟨by rfl, ?_⟩) ?_ ?_; rotate_left; intro w'; go_simp; with_reducible rfl; rotate_left; simp only [Cap.pz]; rfl
                         refine Cap.pu (v := ?_) (a' := ?_) 22 (some 79) zf23 HT_ rfl rfl (by kernel_rfl) (fun _ _ _ h => h) (Or.inl ⟨by rfl, ?_⟩) ?_ ?_; rotate_left; intro w'; go_simp; with_reducible rfl; rotate_left; simp only [Cap.pz]; rfl
                         refine Cap.pu (v := ?_) (a' := ?_) 23 (some 80) zf24 HT_ rfl rfl (by kernel_rfl) (fun _ _ _ h => h) (Or.inl ⟨by rfl, ?_⟩) ?_ ?_; rotate_left; intro w'; go_simp; with_reducible rfl; rotate_left; simp only [Cap.pz]; rfl
                         refine last_ (i := 24) (N := none) zf25 rfl rfl (one_of HT_.out (by kernel_rfl)) (by decide) (fun K hK => ?_)
                         refine skip_ (w1 := ?_) (by rfl) rfl ?_ ?_
                         rotate_left
                         ·
                          go_simp
                          rfl
                         refine hK.out _ _ ?_
                         clear hK K
                         refine done_ (done_of HT_.out (by kernel_rfl)) ?_
                         try go_wp2
                         go_roundg k3
                         case measure => have := HJ2.out; have := HK2.out; have := HK3.out; omega
                         case rel => exact ⟨(y256), (x8_3), (wrap64 (x35_3 + 1)), (by first | rfl | (simp; done) | (simp [*]; done)), (by first | rfl | (simp; done) | (simp [*]; done)), H', ⟨by have := HJ2.out; have := HK2.out; have := HK3.out; omega⟩, ⟨by (with_reducible repeat (first | apply Kd.R_alloc | apply Kd.R_drewN | apply Kd.R_drew)); exact Kd.R_mono (Kd.R_far (p := ⟨go49, (x35_3 : Int).toNat, none⟩) (Kd.R_mono HO_5.out (fun k_ hk => (⟨hk, fun e_ => hk (by rw [e_]; rfl)⟩ : _ ∧ k_ ≠ go49))) (fun _ hk => hk.2) (.bool true)) (fun _ hk => hk.1)⟩, ⟨by (with_reducible repeat (first | apply Kd.R_alloc | apply Kd.R_drewN | apply Kd.R_drew)); exact HQ51.out⟩, ⟨by repeat (first | (with_reducible first | exact HB.out | apply below_alloc | apply pw_below_drewN | apply below_drew1 | refine below_set ?_ GB49.out) | exact HB.out)⟩⟩
                        ·
                         rw [if_neg c48] at H
                         exact absurd H (by simp)
                       ·
                        rw [if_neg c47] at H
                        exact absurd H (by simp)
                      ·
                       rw [if_neg c46] at H
                       have c46b0 : ((bt a0 x26_2) == 63) = false := beq_eq_false_iff_ne.mpr c46
                       have c46b1 : ((bt a0 x26_2) != 63) = true := bne_iff_ne.mpr c46
                       by_cases c53 : (ji40) < (a1.size : Int)
                       ·
                        rw [if_pos c53] at H
                        have c53b0 : decide ((ji40) < (a1.size : Int)) = true := decide_eq_true c53
                        clear c53
                        by_cases c55 : 0 ≤ x35_3
                        ·
                         rw [if_pos c55] at H
                         have c55b0 : decide (0 ≤ x35_3) = true := decide_eq_true c55
                         clear c55
                         by_cases c56 : x35_3 < (x7_3.length : Int)
                         ·
                          rw [if_pos c56] at H
                          have c56b0 : decide (x35_3 < (x7_3.length : Int)) = true := decide_eq_true c56
                          clear c56
                          obtain ⟨y257, hy257⟩ : ∃ y_ : List Bool, y_ = (x7_3.set (x35_3 : Int).toNat ((bt a0 x26_2) == (bt a1 (ji40)))) := ⟨_, rfl⟩
                          replace H : (impl_GlobFits.l1 k3 a0 a1 x5_2 x26_2 y257 x8_3 (a0.size : Int) x26_2 (x5_2.length : Int) (wrap64 (x35_3 + 1))) = some r := by first | (rw [hy257]; with_reducible exact H) | (have H2_ := (Option.bind_some _ _).symm.trans H; rw [hy257]; with_reducible exact H2_) | (have H2_ := (Option.bind_some _ _).symm.trans H; with_reducible exact H2_) | with_reducible exact H | (rw [hy257]; exact H) | exact H
                          have Ny257 := Aside0.mk hy257
                          clear hy257
                          have H' := Aside0.mk H
                          clear H
                          have p25 : 0 ≤ (x26_2 : Int) := of_decide_eq_true (by first | (with_reducible assumption) | assumption)
                          have q25 : x26_2 < (a0.size : Int) := of_decide_eq_true (by first | (with_reducible assumption) | assumption)
                          have hx25 := bt_at a0 x26_2
                          replace p25 := eq_true p25
                          replace q25 := eq_true q25
                          try go_wp2
                          have n0_ := Aside0.mk (Kd.R_drew HO_5.out)
                          have n1_ := Aside0.mk (Kd.R_drew HO_7.out)
                          have n2_ := Aside0.mk (below_drew1 HB.out)
                          clear HO_5
                          clear HO_7
                          clear HB
                          have HO_5 := n0_
                          have HO_7 := n1_
                          have HB := n2_
                          clear n0_ n1_ n2_
                          have p255 : 0 ≤ ((ji40) : Int) := of_decide_eq_true (by first | (with_reducible assumption) | assumption)
                          have q255 : (ji40) < (x5_2.length : Int) := of_decide_eq_true (by first | (with_reducible assumption) | assumption)
                          obtain ⟨ad255, e255, hx255_0⟩ := Kd.at_bool (Kd.R_reads' HO_5.out).2.2 (ji40) p255 q255
                          (try rw [← Nbq43.out] at hx255_0)
                          cases e255
                          replace p255 := eq_true p255
                          replace q255 := eq_true q255
                          have p45 : 0 ≤ (x26_2 : Int) := of_decide_eq_true (by first | (with_reducible assumption) | assumption)
                          have q45 : x26_2 < (a0.size : Int) := of_decide_eq_true (by first | (with_reducible assumption) | assumption)
                          have hx45 := bt_at a0 x26_2
                          replace p45 := eq_true p45
                          replace q45 := eq_true q45
                          have p52 : 0 ≤ (x26_2 : Int) := of_decide_eq_true (by first | (with_reducible assumption) | assumption)
                          have q52 : x26_2 < (a0.size : Int) := of_decide_eq_true (by first | (with_reducible assumption) | assumption)
                          have hx52 := bt_at a0 x26_2
                          replace p52 := eq_true p52
                          replace q52 := eq_true q52
                          have p54 : 0 ≤ ((ji40) : Int) := of_decide_eq_true (by first | (with_reducible assumption) | assumption)
                          have q54 : (ji40) < (a1.size : Int) := of_decide_eq_true (by first | (with_reducible assumption) | assumption)
                          have hx54 := bt_at a1 (ji40)
                          replace p54 := eq_true p54
                          replace q54 := eq_true q54
                          have p57 : 0 ≤ (x35_3 : Int) := of_decide_eq_true (by first | (with_reducible assumption) | assumption)
                          have q57 : (x35_3 : Int) < ((x7_3.length : Int) : Int) := of_decide_eq_true (by first | (with_reducible assumption) | assumption)
                          obtain ⟨go57, co57, eo57, gb57, gl57, cl57, HG57⟩ := Kd.R_form HO_7.out (by omega)
                          (first | cases eo57 | (injection eo57 with ea_ en_ ec_; (first | subst ea_ | (injection ea_ with ea_; subst ea_)); subst ec_; clear en_))
                          have GB57 := Aside0.mk gb57
                          have GG57 := Aside0.mk HG57
                          clear gb57 gl57 HG57
                          obtain ⟨hx57_0, hf57_0⟩ := Kd.R_celln false HO_7.out (x35_3 : Int) p57 q57
                          replace p57 := eq_true p57
                          replace q57 := eq_true q57
                          have HP59 := Kd.R_putn HO_7.out (x35_3 : Int) ((bt a0 x26_2) == (bt a1 (ji40)))
                          rw [← Ny257.out] at HP59
                          have HQ59 := Aside0.mk HP59
                          clear HP59
                          refine start_ (n := 25) (S := fun w' => w'.cell? (ad255.add ((ji40)).toNat) = some (.bool true)) (ds := [24]) zf0 (by kernel_rfl) rfl rfl (hx255_0) (fun hHeld => ?_); refine with_tabW impl_GlobFits.tab17 impl_GlobFits.bits17 (fun HT_ HW_ => ?_)
                          generalize wr.drew = w58 at HO_5 HO_7 HB GG57 HQ59 hf57_0 hx255_0 hx57_0 hHeld ⊢
                          refine Cap.pu (v := ?_) (a' := ?_) 0 (some 57) zf1 HT_ rfl rfl (by kernel_rfl) (fun _ _ _ h => h) (Or.inl ⟨by rfl, ?_⟩) ?_ ?_; rotate_left; intro w'; go_simp; with_reducible rfl; rotate_left; simp only [Cap.pz]; rfl
                          refine Cap.pu (v := ?_) (a' := ?_) 1 (some 58) zf2 HT_ rfl rfl (by kernel_rfl) (fun _ _ _ h => h) (Or.inl ⟨by rfl, ?_⟩) ?_ ?_; rotate_left; intro w'; go_simp; with_reducible rfl; rotate_left; simp only [Cap.pz]; rfl
                          refine Cap.pu (v := ?_) (a' := ?_) 2 (some 59) zf3 HT_ rfl rfl (by kernel_rfl) (fun _ _ _ h => h) (Or.inl ⟨by rfl, ?_⟩) ?_ ?_; rotate_left; intro w'; go_simp; with_reducible rfl; rotate_left; simp only [Cap.pz]; rfl
                          refine Cap.pu (v := ?_) (a' := ?_) 3 (some 60) zf4 HT_ rfl rfl (by kernel_rfl) (fun _ _ _ h => h) (Or.inl ⟨by rfl, ?_⟩) ?_ ?_; rotate_left; intro w'; go_simp; with_reducible rfl; rotate_left; simp only [Cap.pz]; rfl
                          refine Cap.pu (v := ?_) (a' := ?_) 4 (some 61) zf5 HT_ rfl rfl (by kernel_rfl) (fun _ _ _ h => h) (Or.inl ⟨by rfl, ?_⟩) ?_ ?_; rotate_left; intro w'; go_simp; with_reducible rfl; rotate_left; simp only [Cap.pz]; rfl
                          refine Cap.pu (v := ?_) (a' := ?_) 5 (some 62) zf6 HT_ rfl rfl (by kernel_rfl) (fun _ _ _ h => h) (Or.inl ⟨by rfl, ?_⟩) ?_ ?_; rotate_left; intro w'; go_simp; with_reducible rfl; rotate_left; simp only [Cap.pz]; rfl
                          refine take_ (i := 6) (N := some 63) (v := ?_) (a' := ?_) zf7 rfl rfl (take_ofW HT_.out HW_.out (by kernel_rfl)) (fun _ _ _ h => h) (Or.inl ⟨by rfl, ?_⟩) hHeld ?_ ?_
                          rotate_left
                          ·
                           intro w' s0
                           go_simp
                           with_reducible rfl
                          rotate_left
                          ·
                           simp only [Cap.pz]
                           rfl
                          refine Cap.pu (v := ?_) (a' := ?_) 7 (some 64) zf8 HT_ rfl rfl (by kernel_rfl) (fun _ _ _ h => h) (Or.inl ⟨by rfl, ?_⟩) ?_ ?_; rotate_left; intro w'; go_simp; with_reducible rfl; rotate_left; simp only [Cap.pz]; rfl
                          refine Cap.pu (v := ?_) (a' := ?_) 8 (some 65) zf9 HT_ rfl rfl (by kernel_rfl) (fun _ _ _ h => h) (Or.inl ⟨by rfl, ?_⟩) ?_ ?_; rotate_left; intro w'; go_simp; with_reducible rfl; rotate_left; simp only [Cap.pz]; rfl
                          refine Cap.pu (v := ?_) (a' := ?_) 9 (some 66) zf10 HT_ rfl rfl (by kernel_rfl) (fun _ _ _ h => h) (Or.inl ⟨by rfl, ?_⟩) ?_ ?_; rotate_left; intro w'; go_simp; with_reducible rfl; rotate_left; simp only [Cap.pz]; rfl
                          refine take_ (i := 10) (N := some 67) (v := ?_) (a' := ?_) zf11 rfl rfl (take_ofW HT_.out HW_.out (by kernel_rfl)) (fun _ _ _ h => h) (Or.inl ⟨by rfl, ?_⟩) hHeld ?_ ?_
                          rotate_left
                          ·
                           intro w' s0
                           go_simp
                           with_reducible rfl
                          rotate_left
                          ·
                           simp only [Cap.pz]
                           rfl
                          refine Cap.pu (v := ?_) (a' := ?_) 11 (some 68) zf12 HT_ rfl rfl (by kernel_rfl) (fun _ _ _ h => h) (Or.inl ⟨by rfl, ?_⟩) ?_ ?_; rotate_left; intro w'; go_simp; with_reducible rfl; rotate_left; simp only [Cap.pz]; rfl
                          refine Cap.pu (v := ?_) (a' := ?_) 12 (some 69) zf13 HT_ rfl rfl (by kernel_rfl) (fun _ _ _ h => h) (Or.inl ⟨by rfl, ?_⟩) ?_ ?_; rotate_left; intro w'; go_simp; with_reducible rfl; rotate_left; simp only [Cap.pz]; rfl
                          refine Cap.pu (v := ?_) (a' := ?_) 13 (some 70) zf14 HT_ rfl rfl (by kernel_rfl) (fun _ _ _ h => h) (Or.inl ⟨by rfl, ?_⟩) ?_ ?_; rotate_left; intro w'; go_simp; with_reducible rfl; rotate_left; simp only [Cap.pz]; rfl
                          refine Cap.pu (v := ?_) (a' := ?_) 14 (some 71) zf15 HT_ rfl rfl (by kernel_rfl) (fun _ _ _ h => h) (Or.inl ⟨by rfl, ?_⟩) ?_ ?_; rotate_left; intro w'; go_simp; with_reducible rfl; rotate_left; simp only [Cap.pz]; rfl
                          refine Cap.pu (v := ?_) (a' := ?_) 16 (some 73) zf26 HT_ rfl rfl (by kernel_rfl) (fun _ _ _ h => h) (Or.inl ⟨by rfl, ?_⟩) ?_ ?_; rotate_left; intro w'; go_simp; with_reducible rfl; rotate_left; simp only [Cap.pz]; rfl
                          refine Cap.pu (v := ?_) (a' := ?_) 17 (some 74) zf27 HT_ rfl rfl (by kernel_rfl) (fun _ _ _ h => h) (Or.inl ⟨by rfl, ?_⟩) ?_ ?_; rotate_left; intro w'; go_simp; with_reducible rfl; rotate_left; simp only [Cap.pz]; rfl
                          refine Cap.pu (v := ?_) (a' := ?_) 18 (some 75) zf28 HT_ rfl rfl (by kernel_rfl) (fun _ _ _ h => h) (Or.inl ⟨by rfl, ?_⟩) ?_ ?_; rotate_left; intro w'; go_simp; with_reducible rfl; rotate_left; simp only [Cap.pz]; rfl
                          refine take_ (i := 15) (N := some 72) (v := ?_) (a' := ?_) zf19 rfl rfl (take_ofW HT_.out HW_.out (by kernel_rfl)) (fun _ _ _ h => h) (Or.inl ⟨by rfl, ?_⟩) hHeld ?_ ?_
                          rotate_left
                          ·
                           intro w' s0
                           go_simp
                           with_reducible rfl
                          rotate_left
                          ·
                           simp only [Cap.pz]
                           rfl
                          refine take_ (i := 19) (N := some 76) (v := ?_) (a' := ?_) zf20 rfl rfl (take_ofW HT_.out HW_.out (by kernel_rfl)) (fun _ _ _ h => h) (Or.inl ⟨by rfl, ?_⟩) hHeld ?_ ?_
                          rotate_left
                          ·
                           intro w' s0
                           go_simp
                           with_reducible rfl
                          rotate_left
                          ·
                           simp only [Cap.pz]
                           rfl
                          refine Cap.pu (v := ?_) (a' := ?_) 20 (some 77) zf21 HT_ rfl rfl (by kernel_rfl) (fun _ _ _ h => h) (Or.inl ⟨by rfl, ?_⟩) ?_ ?_; rotate_left; intro w'; go_simp; with_reducible rfl; rotate_left; simp only [Cap.pz]; rfl
                          refine Cap.pu (v := ?_) (a' := ?_) 21 (some 78) zf22 HT_ rfl rfl (by kernel_rfl) (fun _ _ _ h => h) (Or.inl ⟨by rfl, ?_⟩) ?_ ?_; rotate_left; intro w'; go_simp; with_reducible rfl; rotate_left; simp only [Cap.pz]; rfl
                          refine Cap.pu (v := ?_) (a' := ?_) 22 (some 79) zf23 HT_ rfl rfl (by kernel_rfl) (fun _ _ _ h => h) (Or.inl ⟨by rfl, ?_⟩) ?_ ?_; rotate_left; intro w'; go_simp; with_reducible rfl; rotate_left; simp only [Cap.pz]; rfl
                          refine Cap.pu (v := ?_) (a' := ?_) 23 (some 80) zf24 HT_ rfl rfl (by kernel_rfl) (fun _ _ _ h => h) (Or.inl ⟨by rfl, ?_⟩) ?_ ?_; rotate_left; intro w'; go_simp; with_reducible rfl; rotate_left; simp only [Cap.pz]; rfl
                          refine last_ (i := 24) (N := none) zf25 rfl rfl (one_of HT_.out (by kernel_rfl)) (by decide) (fun K hK => ?_)
                          refine skip_ (w1 := ?_) (by rfl) rfl ?_ ?_
                          rotate_left
                          ·
                           go_simp
                           rfl
                          refine hK.out _ _ ?_
                          clear hK K
                          refine done_ (done_of HT_.out (by kernel_rfl)) ?_
                          try go_wp2
                          go_roundg k3
                          case measure => have := HJ2.out; have := HK2.out; have := HK3.out; omega
                          case rel => exact ⟨(y257), (x8_3), (wrap64 (x35_3 + 1)), (by first | rfl | (simp; done) | (simp [*]; done)), (by first | rfl | (simp; done) | (simp [*]; done)), H', ⟨by have := HJ2.out; have := HK2.out; have := HK3.out; omega⟩, ⟨by (with_reducible repeat (first | apply Kd.R_alloc | apply Kd.R_drewN | apply Kd.R_drew)); exact Kd.R_mono (Kd.R_far (p := ⟨go57, (x35_3 : Int).toNat, none⟩) (Kd.R_mono HO_5.out (fun k_ hk => (⟨hk, fun e_ => hk (by rw [e_]; rfl)⟩ : _ ∧ k_ ≠ go57))) (fun _ hk => hk.2) (.bool ((bt a0 x26_2) == (bt a1 (ji40))))) (fun _ hk => hk.1)⟩, ⟨by (with_reducible repeat (first | apply Kd.R_alloc | apply Kd.R_drewN | apply Kd.R_drew)); exact HQ59.out⟩, ⟨by repeat (first | (with_reducible first | exact HB.out | apply below_alloc | apply pw_below_drewN | apply below_drew1 | refine below_set ?_ GB57.out) | exact HB.out)⟩⟩
                         ·
                          rw [if_neg c56] at H
                          exact absurd H (by simp)
                        ·
                         rw [if_neg c55] at H
                         exact absurd H (by simp)
                       ·
                        rw [if_neg c53] at H
                        exact absurd H (by simp)
                     ·
                      replace c44 := Bool.eq_false_iff.mpr c44
                      subst c44
                      have H1 : (if 0 ≤ x35_3 then (if x35_3 < (x7_3.length : Int) then (impl_GlobFits.l1 k3 a0 a1 x5_2 x26_2 (x7_3.set (x35_3 : Int).toNat false) x8_3 (a0.size : Int) x26_2 (x5_2.length : Int) (wrap64 (x35_3 + 1))) else (none)) else (none)) = some r := by rw [if_neg (show ¬ (false = true) by decide)] at H; exact H
                      clear H
                      have H := H1
                      clear H1
                      by_cases c60 : 0 ≤ x35_3
                      ·
                       rw [if_pos c60] at H
                       have c60b0 : decide (0 ≤ x35_3) = true := decide_eq_true c60
                       clear c60
                       by_cases c61 : x35_3 < (x7_3.length : Int)
                       ·
                        rw [if_pos c61] at H
                        have c61b0 : decide (x35_3 < (x7_3.length : Int)) = true := decide_eq_true c61
                        clear c61
                        obtain ⟨y258, hy258⟩ : ∃ y_ : List Bool, y_ = (x7_3.set (x35_3 : Int).toNat false) := ⟨_, rfl⟩
                        replace H : (impl_GlobFits.l1 k3 a0 a1 x5_2 x26_2 y258 x8_3 (a0.size : Int) x26_2 (x5_2.length : Int) (wrap64 (x35_3 + 1))) = some r := by first | (rw [hy258]; with_reducible exact H) | (have H2_ := (Option.bind_some _ _).symm.trans H; rw [hy258]; with_reducible exact H2_) | (have H2_ := (Option.bind_some _ _).symm.trans H; with_reducible exact H2_) | with_reducible exact H | (rw [hy258]; exact H) | exact H
                        have Ny258 := Aside0.mk hy258
                        clear hy258
                        have H' := Aside0.mk H
                        clear H
                        have p25 : 0 ≤ (x26_2 : Int) := of_decide_eq_true (by first | (with_reducible assumption) | assumption)
                        have q25 : x26_2 < (a0.size : Int) := of_decide_eq_true (by first | (with_reducible assumption) | assumption)
                        have hx25 := bt_at a0 x26_2
                        replace p25 := eq_true p25
                        replace q25 := eq_true q25
                        try go_wp2
                        have n0_ := Aside0.mk (Kd.R_drew HO_5.out)
                        have n1_ := Aside0.mk (Kd.R_drew HO_7.out)
                        have n2_ := Aside0.mk (below_drew1 HB.out)
                        clear HO_5
                        clear HO_7
                        clear HB
                        have HO_5 := n0_
                        have HO_7 := n1_
                        have HB := n2_
                        clear n0_ n1_ n2_
                        have p255 : 0 ≤ ((ji40) : Int) := of_decide_eq_true (by first | (with_reducible assumption) | assumption)
                        have q255 : (ji40) < (x5_2.length : Int) := of_decide_eq_true (by first | (with_reducible assumption) | assumption)
                        obtain ⟨ad255, e255, hx255_0⟩ := Kd.at_bool (Kd.R_reads' HO_5.out).2.2 (ji40) p255 q255
                        (try rw [← Nbq43.out] at hx255_0)
                        cases e255
                        replace p255 := eq_true p255
                        replace q255 := eq_true q255
                        have p62 : 0 ≤ (x35_3 : Int) := of_decide_eq_true (by first | (with_reducible assumption) | assumption)
                        have q62 : (x35_3 : Int) < ((x7_3.length : Int) : Int) := of_decide_eq_true (by first | (with_reducible assumption) | assumption)
                        obtain ⟨go62, co62, eo62, gb62, gl62, cl62, HG62⟩ := Kd.R_form HO_7.out (by omega)
                        (first | cases eo62 | (injection eo62 with ea_ en_ ec_; (first | subst ea_ | (injection ea_ with ea_; subst ea_)); subst ec_; clear en_))
                        have GB62 := Aside0.mk gb62
                        have GG62 := Aside0.mk HG62
                        clear gb62 gl62 HG62
                        obtain ⟨hx62_0, hf62_0⟩ := Kd.R_celln false HO_7.out (x35_3 : Int) p62 q62
                        replace p62 := eq_true p62
                        replace q62 := eq_true q62
                        have HP64 := Kd.R_putn HO_7.out (x35_3 : Int) false
                        rw [← Ny258.out] at HP64
                        have HQ64 := Aside0.mk HP64
                        clear HP64
                        refine start_ (n := 25) (S := fun w' => w'.cell? (ad255.add ((ji40)).toNat) = some (.bool false)) (ds := [24]) zf0 (by kernel_rfl) rfl rfl (hx255_0) (fun hHeld => ?_); refine with_tabW impl_GlobFits.tab17 impl_GlobFits.bits17 (fun HT_ HW_ => ?_)
                        generalize wr.drew = w63 at HO_5 HO_7 HB GG62 HQ64 hf62_0 hx255_0 hx62_0 hHeld ⊢
                        refine Cap.pu (v := ?_) (a' := ?_) 0 (some 57) zf1 HT_ rfl rfl (by kernel_rfl) (fun _ _ _ h => h) (Or.inl ⟨by rfl, ?_⟩) ?_ ?_; rotate_left; intro w'; go_simp; with_reducible rfl; rotate_left; simp only [Cap.pz]; rfl
                        refine Cap.pu (v := ?_) (a' := ?_) 1 (some 58) zf2 HT_ rfl rfl (by kernel_rfl) (fun _ _ _ h => h) (Or.inl ⟨by rfl, ?_⟩) ?_ ?_; rotate_left; intro w'; go_simp; with_reducible rfl; rotate_left; simp only [Cap.pz]; rfl
                        refine Cap.pu (v := ?_) (a' := ?_) 2 (some 59) zf3 HT_ rfl rfl (by kernel_rfl) (fun _ _ _ h => h) (Or.inl ⟨by rfl, ?_⟩) ?_ ?_; rotate_left; intro w'; go_simp; with_reducible rfl; rotate_left; simp only [Cap.pz]; rfl
                        refine Cap.pu (v := ?_) (a' := ?_) 3 (some 60) zf4 HT_ rfl rfl (by kernel_rfl) (fun _ _ _ h => h) (Or.inl ⟨by rfl, ?_⟩) ?_ ?_; rotate_left; intro w'; go_simp; with_reducible rfl; rotate_left; simp only [Cap.pz]; rfl
                        refine Cap.pu (v := ?_) (a' := ?_) 4 (some 61) zf5 HT_ rfl rfl (by kernel_rfl) (fun _ _ _ h => h) (Or.inl ⟨by rfl, ?_⟩) ?_ ?_; rotate_left; intro w'; go_simp; with_reducible rfl; rotate_left; simp only [Cap.pz]; rfl
                        refine Cap.pu (v := ?_) (a' := ?_) 5 (some 62) zf6 HT_ rfl rfl (by kernel_rfl) (fun _ _ _ h => h) (Or.inl ⟨by rfl, ?_⟩) ?_ ?_; rotate_left; intro w'; go_simp; with_reducible rfl; rotate_left; simp only [Cap.pz]; rfl
                        refine take_ (i := 6) (N := some 63) (v := ?_) (a' := ?_) zf7 rfl rfl (take_ofW HT_.out HW_.out (by kernel_rfl)) (fun _ _ _ h => h) (Or.inl ⟨by rfl, ?_⟩) hHeld ?_ ?_
                        rotate_left
                        ·
                         intro w' s0
                         go_simp
                         with_reducible rfl
                        rotate_left
                        ·
                         simp only [Cap.pz]
                         rfl
                        refine Cap.pu (v := ?_) (a' := ?_) 7 (some 64) zf8 HT_ rfl rfl (by kernel_rfl) (fun _ _ _ h => h) (Or.inl ⟨by rfl, ?_⟩) ?_ ?_; rotate_left; intro w'; go_simp; with_reducible rfl; rotate_left; simp only [Cap.pz]; rfl
                        refine Cap.pu (v := undef) (a' := ?_) 8 (some 65) zf9 HT_ rfl rfl (by kernel_rfl) (fun _ _ _ h => h) (Or.inr ⟨by rfl, rfl⟩) ?_ ?_; rotate_left; simp only [Cap.pz]; rfl
                        refine Cap.pu (v := undef) (a' := ?_) 9 (some 66) zf10 HT_ rfl rfl (by kernel_rfl) (fun _ _ _ h => h) (Or.inr ⟨by rfl, rfl⟩) ?_ ?_; rotate_left; simp only [Cap.pz]; rfl
                        refine Cap.pu (v := undef) (a' := ?_) 10 (some 67) zf11 HT_ rfl rfl (by kernel_rfl) (fun _ _ _ h => h) (Or.inr ⟨by rfl, rfl⟩) ?_ ?_; rotate_left; simp only [Cap.pz]; rfl
                        refine Cap.pu (v := undef) (a' := ?_) 11 (some 68) zf12 HT_ rfl rfl (by kernel_rfl) (fun _ _ _ h => h) (Or.inr ⟨by rfl, rfl⟩) ?_ ?_; rotate_left; simp only [Cap.pz]; rfl
                        refine Cap.pu (v := undef) (a' := ?_) 12 (some 69) zf13 HT_ rfl rfl (by kernel_rfl) (fun _ _ _ h => h) (Or.inr ⟨by rfl, rfl⟩) ?_ ?_; rotate_left; simp only [Cap.pz]; rfl
                        refine Cap.pu (v := undef) (a' := ?_) 13 (some 70) zf14 HT_ rfl rfl (by kernel_rfl) (fun _ _ _ h => h) (Or.inr ⟨by rfl, rfl⟩) ?_ ?_; rotate_left; simp only [Cap.pz]; rfl
                        refine Cap.pu (v := undef) (a' := ?_) 14 (some 71) zf15 HT_ rfl rfl (by kernel_rfl) (fun _ _ _ h => h) (Or.inr ⟨by rfl, rfl⟩) ?_ ?_; rotate_left; simp only [Cap.pz]; rfl
                        refine Cap.pu (v := undef) (a' := ?_) 15 (some 72) zf16 HT_ rfl rfl (by kernel_rfl) (fun _ _ _ h => h) (Or.inr ⟨by rfl, rfl⟩) ?_ ?_; rotate_left; simp only [Cap.pz]; rfl
                        refine Cap.pu (v := undef) (a' := ?_) 16 (some 73) zf17 HT_ rfl rfl (by kernel_rfl) (fun _ _ _ h => h) (Or.inr ⟨by rfl, rfl⟩) ?_ ?_; rotate_left; simp only [Cap.pz]; rfl
                        refine Cap.pu (v := undef) (a' := ?_) 17 (some 74) zf18 HT_ rfl rfl (by kernel_rfl) (fun _ _ _ h => h) (Or.inr ⟨by rfl, rfl⟩) ?_ ?_; rotate_left; simp only [Cap.pz]; rfl
                        refine Cap.pu (v := undef) (a' := ?_) 18 (some 75) zf19 HT_ rfl rfl (by kernel_rfl) (fun _ _ _ h => h) (Or.inr ⟨by rfl, rfl⟩) ?_ ?_; rotate_left; simp only [Cap.pz]; rfl
                        refine Cap.pu (v := undef) (a' := ?_) 19 (some 76) zf20 HT_ rfl rfl (by kernel_rfl) (fun _ _ _ h => h) (Or.inr ⟨by rfl, rfl⟩) ?_ ?_; rotate_left; simp only [Cap.pz]; rfl
                        refine Cap.pu (v := undef) (a' := ?_) 20 (some 77) zf21 HT_ rfl rfl (by kernel_rfl) (fun _ _ _ h => h) (Or.inr ⟨by rfl, rfl⟩) ?_ ?_; rotate_left; simp only [Cap.pz]; rfl
                        refine Cap.pu (v := undef) (a' := ?_) 21 (some 78) zf22 HT_ rfl rfl (by kernel_rfl) (fun _ _ _ h => h) (Or.inr ⟨by rfl, rfl⟩) ?_ ?_; rotate_left; simp only [Cap.pz]; rfl
                        refine Cap.pu (v := ?_) (a' := ?_) 22 (some 79) zf23 HT_ rfl rfl (by kernel_rfl) (fun _ _ _ h => h) (Or.inl ⟨by rfl, ?_⟩) ?_ ?_; rotate_left; intro w'; go_simp; with_reducible rfl; rotate_left; simp only [Cap.pz]; rfl
                        refine Cap.pu (v := ?_) (a' := ?_) 23 (some 80) zf24 HT_ rfl rfl (by kernel_rfl) (fun _ _ _ h => h) (Or.inl ⟨by rfl, ?_⟩) ?_ ?_; rotate_left; intro w'; go_simp; with_reducible rfl; rotate_left; simp only [Cap.pz]; rfl
                        refine last_ (i := 24) (N := none) zf25 rfl rfl (one_of HT_.out (by kernel_rfl)) (by decide) (fun K hK => ?_)
                        refine skip_ (w1 := ?_) (by rfl) rfl ?_ ?_
                        rotate_left
                        ·
                         go_simp
                         rfl
                        refine hK.out _ _ ?_
                        clear hK K
                        refine done_ (done_of HT_.out (by kernel_rfl)) ?_
                        try go_wp2
                        go_roundg k3
                        case measure => have := HJ2.out; have := HK2.out; have := HK3.out; omega
                        case rel => exact ⟨(y258), (x8_3), (wrap64 (x35_3 + 1)), (by first | rfl | (simp; done) | (simp [*]; done)), (by first | rfl | (simp; done) | (simp [*]; done)), H', ⟨by have := HJ2.out; have := HK2.out; have := HK3.out; omega⟩, ⟨by (with_reducible repeat (first | apply Kd.R_alloc | apply Kd.R_drewN | apply Kd.R_drew)); exact Kd.R_mono (Kd.R_far (p := ⟨go62, (x35_3 : Int).toNat, none⟩) (Kd.R_mono HO_5.out (fun k_ hk => (⟨hk, fun e_ => hk (by rw [e_]; rfl)⟩ : _ ∧ k_ ≠ go62))) (fun _ hk => hk.2) (.bool false)) (fun _ hk => hk.1)⟩, ⟨by (with_reducible repeat (first | apply Kd.R_alloc | apply Kd.R_drewN | apply Kd.R_drew)); exact HQ64.out⟩, ⟨by repeat (first | (with_reducible first | exact HB.out | apply below_alloc | apply pw_below_drewN | apply below_drew1 | refine below_set ?_ GB62.out) | exact HB.out)⟩⟩
                       ·
                        rw [if_neg c61] at H
                        exact absurd H (by simp)
                      ·
                       rw [if_neg c60] at H
                       exact absurd H (by simp)
                    ·
                     rw [if_neg c42] at H
                     exact absurd H (by simp)
                   ·
                    rw [if_neg c41] at H
                    exact absurd H (by simp)
                  ·
                   rw [if_neg c39] at H
                   have c39b0 : decide (0 < x35_3) = false := decide_eq_false c39
                   clear c39
                   have H' := Aside0.mk H
                   clear H
                   have p25 : 0 ≤ (x26_2 : Int) := of_decide_eq_true (by first | (with_reducible assumption) | assumption)
                   have q25 : x26_2 < (a0.size : Int) := of_decide_eq_true (by first | (with_reducible assumption) | assumption)
                   have hx25 := bt_at a0 x26_2
                   replace p25 := eq_true p25
                   replace q25 := eq_true q25
                   go_wp2
                   go_roundg k3
                   case measure => have := HJ2.out; have := HK2.out; have := HK3.out; omega
                   case rel => exact ⟨(x7_3), (x8_3), (wrap64 (x35_3 + 1)), (by first | rfl | (simp; done) | (simp [*]; done)), (by first | rfl | (simp; done) | (simp [*]; done)), H', ⟨by have := HJ2.out; have := HK2.out; have := HK3.out; omega⟩, ⟨by first | exact Grow.rg HO_5.out | exact HO_5.out⟩, ⟨by first | exact Grow.rg HO_7.out | exact HO_7.out⟩, ⟨by first | exact Grow.bl HB.out | exact HB.out⟩⟩
                ·
                 rw [if_neg c24] at H
                 exact absurd H (by simp)
               ·
                rw [if_neg c23] at H
                exact absurd H (by simp)
              ·
               rw [if_neg c22] at H
               have c22b0 : decide (x35_3 < (x5_2.length : Int)) = false := decide_eq_false c22
               clear c22
               have H' := Aside0.mk H
               clear H
               go_wp2
               go_roundg k3
               case measure => have := HJ2.out; have := HK2.out; have := HK3.out; omega
               case rel => exact ⟨(x7_3), (wrap64 (x26_2 + 1)), (by first | rfl | (simp; done) | (simp [*]; done)), H', ⟨by have := HJ2.out; have := HK2.out; have := HK3.out; omega⟩, ⟨by (with_reducible repeat (first | apply Kd.R_alloc | apply Kd.R_drewN | apply Kd.R_drew)); exact Kd.R_mono HO_7.out (fun _ hk => trivial)⟩, ⟨by first | exact Grow.bl HB.out | exact HB.out⟩⟩
           ·
            rw [if_neg c18] at H
            exact absurd H (by simp)
          ·
           rw [if_neg c17] at H
           exact absurd H (by simp)
         ·
          rw [if_neg c15] at H
          have c15b0 : decide (x26_2 < (a0.size : Int)) = false := decide_eq_false c15
          clear c15
          by_cases c65 : 0 ≤ (a1.size : Int)
          ·
           rw [if_pos c65] at H
           have c65b0 : decide (0 ≤ (a1.size : Int)) = true := decide_eq_true c65
           have c65b1 : decide (0 ≤ a1.size) = true := decide_eq_true (by omega)
           clear c65
           by_cases c66 : (a1.size : Int) < (x5_2.length : Int)
           ·
            rw [if_pos c66] at H
            have c66b0 : decide ((a1.size : Int) < (x5_2.length : Int)) = true := decide_eq_true c66
            have c66b1 : decide (a1.size < x5_2.length) = true := decide_eq_true (Int.ofNat_lt.mp c66)
            clear c66
            obtain rfl := Option.some.inj H
            obtain ⟨Ao67, co67, eo67⟩ := Kd.R_slice HO_5.out
            subst eo67
            have p248 : 0 ≤ ((a1.size : Int) : Int) := of_decide_eq_true (by first | (with_reducible assumption) | assumption)
            have q248 : (a1.size : Int) < (x5_2.length : Int) := of_decide_eq_true (by first | (with_reducible assumption) | assumption)
            obtain ⟨ad248, e248, hx248_0⟩ := Kd.at_bool (Kd.R_reads' HO_5.out).2.2 (a1.size : Int) p248 q248
            have hx248_0z := hx248_0
            try simp only [Int.toNat_natCast] at hx248_0z
            cases e248
            replace p248 := eq_true p248
            replace q248 := eq_true q248
            go_wp2
            go_ret
            exact ⟨by first | rfl | (simp [errW_none, errW_some] <;> rfl) | (simp only [← hji6]; first | rfl | (simp [errW_none, errW_some] <;> rfl)) | (simp [*, errW_none, errW_some] <;> rfl), by first | exact Grow.bl HB.out | exact HB.out⟩
           ·
            rw [if_neg c66] at H
            exact absurd H (by simp)
          ·
           rw [if_neg c65] at H
           exact absurd H (by simp)
      ·
       rw [if_neg c9] at H
       exact absurd H (by simp)
     ·
      rw [if_neg c8] at H
      exact absurd H (by simp)
    ·
     rw [if_neg c7] at H
     exact absurd H (by simp)
end Go.Proofs.Ytflpkbegdmihdaa.QFnExactJudge
