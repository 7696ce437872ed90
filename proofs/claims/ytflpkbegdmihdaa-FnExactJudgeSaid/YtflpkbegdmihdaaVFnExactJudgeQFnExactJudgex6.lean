-- A text of this session, printed by a program of its own (wip/tools: xpatch.py, xprint.sh, mkq.py). No condition.
import Derived.Test.YtflpkbegdmihdaaVFnExactJudgeQFnExactJudgex0
namespace Go.Proofs.Ytflpkbegdmihdaa.QFnExactJudge
open Go.RowKit Go.Proofs.YtflpkbegdmihdaaW.PrintWords Go.Proofs.YtflpkbegdmihdaaW.PrintLast Go.Proofs.YtflpkbegdmihdaaW.PrintMore
attribute [local go_sem] max2_int min2_int max_two min_two max_three min_three max_four min_four
set_option linter.unusedVariables false
set_option linter.unusedSimpArgs false
mutual
def spec_GlobFits.j0 : Nat → ByteArray → ByteArray → Bool → Option (Bool)
  | 0, _, _, _ => none
  | k + 1, x0, x1, x17 => if x17 = true then (some false) else (if 0 ≤ (wrap64 ((x1.size : Int) + 1)) then (if (wrap64 ((x1.size : Int) + 1) : Int).toNat ≤ 281474976710656 then ((some (List.replicate (wrap64 ((x1.size : Int) + 1) : Int).toNat false : List Bool)).bind fun y197 => (if 0 < (y197.length : Int) then (spec_GlobFits.l0 k x0 x1 (y197.set (0 : Int).toNat true) 0) else (none))) else (none)) else (none))
def spec_GlobFits.l0 : Nat → ByteArray → ByteArray → List Bool → Int → Option (Bool)
  | 0, _, _, _, _ => none
  | k + 1, x0, x1, x5, x6 => if x6 < (x0.size : Int) then (if 0 ≤ (wrap64 ((x1.size : Int) + 1)) then (if (wrap64 ((x1.size : Int) + 1) : Int).toNat ≤ 281474976710656 then (spec_GlobFits.l1 k x0 x1 x5 x6 (List.replicate (wrap64 ((x1.size : Int) + 1) : Int).toNat false) false 0) else (none)) else (none)) else (if 0 ≤ (x1.size : Int) then (if (x1.size : Int) < (x5.length : Int) then (some (rdOf false x5 (x1.size : Int))) else (none)) else (none))
def spec_GlobFits.l1 : Nat → ByteArray → ByteArray → List Bool → Int → List Bool → Bool → Int → Option (Bool)
  | 0, _, _, _, _, _, _, _ => none
  | k + 1, x0, x1, x5, x6, x7, x8, x9 => if x9 ≤ (x1.size : Int) then (if x8 = true then (spec_GlobFits.j3 k x0 x1 x5 x6 x7 true x9) else (if 0 ≤ x9 then (if x9 < (x5.length : Int) then (spec_GlobFits.j3 k x0 x1 x5 x6 x7 (rdOf false x5 x9) x9) else (none)) else (none))) else (spec_GlobFits.l0 k x0 x1 x7 (wrap64 (x6 + 1)))
def spec_GlobFits.j3 : Nat → ByteArray → ByteArray → List Bool → Int → List Bool → Bool → Int → Option (Bool)
  | 0, _, _, _, _, _, _, _ => none
  | k + 1, x0, x1, x5, x6, x7, x8, x9 => if 0 ≤ x6 then (if x6 < (x0.size : Int) then (if (bt x0 x6) = 42 then (if 0 ≤ x9 then (if x9 < (x7.length : Int) then (spec_GlobFits.l1 k x0 x1 x5 x6 (x7.set (x9 : Int).toNat x8) x8 (wrap64 (x9 + 1))) else (none)) else (none)) else (if x9 < (x1.size : Int) then (if 0 ≤ x9 then (if x9 < (x5.length : Int) then (if rdOf false x5 x9 = true then (if (bt x0 x6) = 63 then (if 0 ≤ (wrap64 (x9 + 1)) then (if (wrap64 (x9 + 1)) < (x7.length : Int) then (spec_GlobFits.l1 k x0 x1 x5 x6 (x7.set ((wrap64 (x9 + 1)) : Int).toNat true) x8 (wrap64 (x9 + 1))) else (none)) else (none)) else (if (bt x0 x6) = (bt x1 x9) then (if 0 ≤ (wrap64 (x9 + 1)) then (if (wrap64 (x9 + 1)) < (x7.length : Int) then (spec_GlobFits.l1 k x0 x1 x5 x6 (x7.set ((wrap64 (x9 + 1)) : Int).toNat true) x8 (wrap64 (x9 + 1))) else (none)) else (none)) else (spec_GlobFits.l1 k x0 x1 x5 x6 x7 x8 (wrap64 (x9 + 1))))) else (spec_GlobFits.l1 k x0 x1 x5 x6 x7 x8 (wrap64 (x9 + 1)))) else (none)) else (none)) else (spec_GlobFits.l1 k x0 x1 x5 x6 x7 x8 (wrap64 (x9 + 1))))) else (none)) else (none)
end
def spec_GlobFits.f (k : Nat) (a0 : ByteArray) (a1 : ByteArray) : Option (Bool) := if (a0.size : Int) > 200 then (spec_GlobFits.j0 k a0 a1 true) else (spec_GlobFits.j0 k a0 a1 (decide ((a1.size : Int) > 2000)))
theorem spec_GlobFits.mono_l : ∀ k, (∀ y0 y1 y2, LeO (spec_GlobFits.j0 k y0 y1 y2) (spec_GlobFits.j0 (k + 1) y0 y1 y2)) ∧ (∀ y0 y1 y2 y3, LeO (spec_GlobFits.l0 k y0 y1 y2 y3) (spec_GlobFits.l0 (k + 1) y0 y1 y2 y3)) ∧ (∀ y0 y1 y2 y3 y4 y5 y6, LeO (spec_GlobFits.l1 k y0 y1 y2 y3 y4 y5 y6) (spec_GlobFits.l1 (k + 1) y0 y1 y2 y3 y4 y5 y6)) ∧ (∀ y0 y1 y2 y3 y4 y5 y6, LeO (spec_GlobFits.j3 k y0 y1 y2 y3 y4 y5 y6) (spec_GlobFits.j3 (k + 1) y0 y1 y2 y3 y4 y5 y6))
  | 0 => ⟨fun _ _ _ r h => by simp [spec_GlobFits.j0] at h, fun _ _ _ _ r h => by simp [spec_GlobFits.l0] at h, fun _ _ _ _ _ _ _ r h => by simp [spec_GlobFits.l1] at h, fun _ _ _ _ _ _ _ r h => by simp [spec_GlobFits.j3] at h⟩
  | k + 1 => by
    obtain ⟨ih0, ih1, ih2, ih3⟩ := spec_GlobFits.mono_l k
    refine ⟨?_, ?_, ?_, ?_⟩
    · intro y0 y1 y2
      unfold spec_GlobFits.j0
      repeat' first
      | (with_reducible exact ih0 _ _ _)
      | (with_reducible exact ih1 _ _ _ _)
      | (with_reducible exact ih2 _ _ _ _ _ _ _)
      | (with_reducible exact ih3 _ _ _ _ _ _ _)
      | (with_reducible exact LeO.refl _)
      | (with_reducible exact LeO.none _)
      | (with_reducible refine LeO.ite ?_ ?_)
      | (with_reducible refine LeO.bind ?_ (fun _ => ?_))
      | exact ih0 _ _ _
      | exact ih1 _ _ _ _
      | exact ih2 _ _ _ _ _ _ _
      | exact ih3 _ _ _ _ _ _ _
      | exact LeO.none _
      | refine LeO.ite ?_ ?_
      | refine LeO.bind ?_ (fun _ => ?_)
    · intro y0 y1 y2 y3
      unfold spec_GlobFits.l0
      repeat' first
      | (with_reducible exact ih0 _ _ _)
      | (with_reducible exact ih1 _ _ _ _)
      | (with_reducible exact ih2 _ _ _ _ _ _ _)
      | (with_reducible exact ih3 _ _ _ _ _ _ _)
      | (with_reducible exact LeO.refl _)
      | (with_reducible exact LeO.none _)
      | (with_reducible refine LeO.ite ?_ ?_)
      | (with_reducible refine LeO.bind ?_ (fun _ => ?_))
      | exact ih0 _ _ _
      | exact ih1 _ _ _ _
      | exact ih2 _ _ _ _ _ _ _
      | exact ih3 _ _ _ _ _ _ _
      | exact LeO.none _
      | refine LeO.ite ?_ ?_
      | refine LeO.bind ?_ (fun _ => ?_)
    · intro y0 y1 y2 y3 y4 y5 y6
      unfold spec_GlobFits.l1
      repeat' first
      | (with_reducible exact ih0 _ _ _)
      | (with_reducible exact ih1 _ _ _ _)
      | (with_reducible exact ih2 _ _ _ _ _ _ _)
      | (with_reducible exact ih3 _ _ _ _ _ _ _)
      | (with_reducible exact LeO.refl _)
      | (with_reducible exact LeO.none _)
      | (with_reducible refine LeO.ite ?_ ?_)
      | (with_reducible refine LeO.bind ?_ (fun _ => ?_))
      | exact ih0 _ _ _
      | exact ih1 _ _ _ _
      | exact ih2 _ _ _ _ _ _ _
      | exact ih3 _ _ _ _ _ _ _
      | exact LeO.none _
      | refine LeO.ite ?_ ?_
      | refine LeO.bind ?_ (fun _ => ?_)
    · intro y0 y1 y2 y3 y4 y5 y6
      unfold spec_GlobFits.j3
      repeat' first
      | (with_reducible exact ih0 _ _ _)
      | (with_reducible exact ih1 _ _ _ _)
      | (with_reducible exact ih2 _ _ _ _ _ _ _)
      | (with_reducible exact ih3 _ _ _ _ _ _ _)
      | (with_reducible exact LeO.refl _)
      | (with_reducible exact LeO.none _)
      | (with_reducible refine LeO.ite ?_ ?_)
      | (with_reducible refine LeO.bind ?_ (fun _ => ?_))
      | exact ih0 _ _ _
      | exact ih1 _ _ _ _
      | exact ih2 _ _ _ _ _ _ _
      | exact ih3 _ _ _ _ _ _ _
      | exact LeO.none _
      | refine LeO.ite ?_ ?_
      | refine LeO.bind ?_ (fun _ => ?_)
theorem spec_GlobFits.mono : ∀ a0 a1 k, LeO (spec_GlobFits.f k a0 a1) (spec_GlobFits.f (k + 1) a0 a1) := by
  intro a0 a1 k
  obtain ⟨ih0, ih1, ih2, ih3⟩ := spec_GlobFits.mono_l k
  unfold spec_GlobFits.f
  repeat' first
      | (with_reducible exact ih0 _ _ _)
      | (with_reducible exact ih1 _ _ _ _)
      | (with_reducible exact ih2 _ _ _ _ _ _ _)
      | (with_reducible exact ih3 _ _ _ _ _ _ _)
      | (with_reducible exact LeO.refl _)
      | (with_reducible exact LeO.none _)
      | (with_reducible refine LeO.ite ?_ ?_)
      | (with_reducible refine LeO.bind ?_ (fun _ => ?_))
      | exact ih0 _ _ _
      | exact ih1 _ _ _ _
      | exact ih2 _ _ _ _ _ _ _
      | exact ih3 _ _ _ _ _ _ _
      | exact LeO.none _
      | refine LeO.ite ?_ ?_
      | refine LeO.bind ?_ (fun _ => ?_)
set_option maxHeartbeats 8000000 in
set_option maxRecDepth 100000 in
theorem spec_GlobFits.calls (k : Nat) (a0 : ByteArray) (a1 : ByteArray) (r : Bool) (w : World) (h : spec_GlobFits.f k a0 a1 = some r) :
  Calls Try.prog 123 #[.string a0, .string a1] w fun e w' => e = .returned (.bool r) ∧ Below w.heap.size w w' := by
 have HB := Aside0.mk (Below.refl w.heap.size w)
 have H : (if (a0.size : Int) > 200 then (spec_GlobFits.j0 k a0 a1 true) else (spec_GlobFits.j0 k a0 a1 (decide ((a1.size : Int) > 2000)))) = some r := h
 clear h
 have HC3 := Aside0.mk H
 clear H
 go_enter Try.func123, Try.ntmps123
 go_upto_region 1 with (fail)
 repeat (go_quiet (fail); go_upto_region 1 with (fail))
 go_cut [17] (fun v17 wc => ∃ (kq : Nat) (x17_2 : Bool), v17 = .bool x17_2 ∧ Aside0 (spec_GlobFits.j0 kq a0 a1 x17_2 = some r) ∧ Aside0 (kq ≤ k) ∧ Aside0 (Below w.heap.size w wc))
 case first =>
  have H := HC3.out
  clear HC3
  by_cases c4 : (a0.size : Int) > 200
  ·
   rw [if_pos c4] at H
   have c4b0 : decide (200 < (a0.size : Int)) = true := decide_eq_true c4
   have c4b1 : decide (200 < a0.size) = true := decide_eq_true (by omega)
   clear c4
   (first | rw [c4b0] | (simp only [i64_w, i32_w]; rw [c4b0]) | skip)
   have H' := Aside0.mk H
   clear H
   go_wp2
   repeat (go_quiet (fail); try go_wp2)
   go_meet
   case rel => exact ⟨_, (true), (by first | rfl | (simp; done) | (simp [*]; done)), H', ⟨by first | omega | exact Nat.le_refl _⟩, ⟨by first | exact Grow.bl HB.out | exact HB.out⟩⟩
  ·
   rw [if_neg c4] at H
   have c4b0 : decide (200 < (a0.size : Int)) = false := decide_eq_false c4
   have c4b1 : decide (200 < a0.size) = false := decide_eq_false (by omega)
   clear c4
   (first | rw [c4b0] | (simp only [i64_w, i32_w]; rw [c4b0]) | skip)
   have H' := Aside0.mk H
   clear H
   go_wp2
   repeat (go_quiet (fail); try go_wp2)
   go_meet
   case rel => exact ⟨_, (decide ((a1.size : Int) > 2000)), (by first | rfl | (simp; done) | (simp [*]; done)), H', ⟨by first | omega | exact Nat.le_refl _⟩, ⟨by first | exact Grow.bl HB.out | exact HB.out⟩⟩
 case rest =>
  clear HC3
  try clear c1
  try clear p2
  try clear c4
  try clear c4b0
  try clear c4b1
  obtain ⟨kq, x17_2, rfl, HA, HJ2, HB⟩ := hcut
  cases kq with
  | zero => exact absurd HA.out (by simp [spec_GlobFits.j0])
  | succ kj2 =>
   have H := HA.out
   clear HA
   simp only [spec_GlobFits.j0] at H
   by_cases c5 : x17_2 = true
   ·
    subst c5
    have H1 : (some false) = some r := by rw [if_pos rfl] at H; exact H
    clear H
    have H := H1
    clear H1
    obtain rfl := Option.some.inj H
    go_wp2
    repeat (go_quiet (fail); try go_wp2)
    go_ret
    exact ⟨by first | rfl | (simp [errW_none, errW_some] <;> rfl) | (simp [*, errW_none, errW_some] <;> rfl), by first | exact Grow.bl HB.out | exact HB.out⟩
   ·
    replace c5 := Bool.eq_false_iff.mpr c5
    subst c5
    have H1 : (if 0 ≤ (wrap64 ((a1.size : Int) + 1)) then (if (wrap64 ((a1.size : Int) + 1) : Int).toNat ≤ 281474976710656 then ((some (List.replicate (wrap64 ((a1.size : Int) + 1) : Int).toNat false : List Bool)).bind fun y197 => (if 0 < (y197.length : Int) then (spec_GlobFits.l0 kj2 a0 a1 (y197.set (0 : Int).toNat true) 0) else (none))) else (none)) else (none)) = some r := by rw [if_neg (show ¬ (false = true) by decide)] at H; exact H
    clear H
    have H := H1
    clear H1
    obtain ⟨ji6, hji6⟩ : ∃ j_ : Int, (wrap64 ((a1.size : Int) + 1)) = j_ := ⟨_, rfl⟩
    replace H : (if 0 ≤ (ji6) then (if (ji6 : Int).toNat ≤ 281474976710656 then ((some (List.replicate (ji6 : Int).toNat false : List Bool)).bind fun y197 => (if 0 < (y197.length : Int) then (spec_GlobFits.l0 kj2 a0 a1 (y197.set (0 : Int).toNat true) 0) else (none))) else (none)) else (none)) = some r := by first | (rw [hji6] at H; exact H) | (simp only [hji6] at H ⊢; exact H)
    have hji6w : (IntKind.i64.wrap ((a1.size : Int) + 1)) = ji6 := (i64_w _).trans hji6
    by_cases c7 : 0 ≤ (ji6)
    ·
     rw [if_pos c7] at H
     have c7b0 := eq_true c7
     have c7b1 : decide (0 ≤ (ji6)) = true := decide_eq_true c7
     clear c7
     by_cases c8 : (ji6 : Int).toNat ≤ 281474976710656
     ·
      rw [if_pos c8] at H
      have c8b0 := eq_true c8
      have c8b1 : decide ((ji6 : Int).toNat ≤ 281474976710656) = true := decide_eq_true c8
      clear c8
      obtain ⟨y197, hy197⟩ : ∃ y_ : List Bool, y_ = (List.replicate (ji6 : Int).toNat false) := ⟨_, rfl⟩
      replace H : (if 0 < (y197.length : Int) then (spec_GlobFits.l0 kj2 a0 a1 (y197.set (0 : Int).toNat true) 0) else (none)) = some r := by first | (rw [hy197]; with_reducible exact H) | (have H2_ := (Option.bind_some _ _).symm.trans H; rw [hy197]; with_reducible exact H2_) | (have H2_ := (Option.bind_some _ _).symm.trans H; with_reducible exact H2_) | with_reducible exact H | (rw [hy197]; exact H) | exact H
      have Ny197 := Aside0.mk hy197
      clear hy197
      by_cases c9 : 0 < (y197.length : Int)
      ·
       rw [if_pos c9] at H
       have c9b0 : decide (0 < (y197.length : Int)) = true := decide_eq_true c9
       have c9b1 : decide (0 < y197.length) = true := decide_eq_true (by omega)
       clear c9
       obtain ⟨y200, hy200⟩ : ∃ y_ : List Bool, y_ = (y197.set (0 : Int).toNat true) := ⟨_, rfl⟩
       replace H : (spec_GlobFits.l0 kj2 a0 a1 y200 0) = some r := by first | (rw [hy200]; with_reducible exact H) | (have H2_ := (Option.bind_some _ _).symm.trans H; rw [hy200]; with_reducible exact H2_) | (have H2_ := (Option.bind_some _ _).symm.trans H; with_reducible exact H2_) | with_reducible exact H | (rw [hy200]; exact H) | exact H
       have Ny200 := Aside0.mk hy200
       clear hy200
       have H' := Aside0.mk H
       clear H
       go_wp2_with (first | ((with_reducible refine gate_dst (N := 21) rfl ?_); (try (refine gate_guard (by rfl) ?_; dsimp only)); refine Kd.R_make Kd.bool _ 4 rfl (N := 21) rfl 81 _ _ rfl ji6 rfl rfl Try.underlying81 (.bool false) 1 info4 rfl (by decide) (by omega) false (ok := fun _ => True) (okp := fun _ => True) rfl (fun _ hk => hk) trivial (of_decide_eq_true (by first | (with_reducible assumption) | assumption)) (Nat.le_trans (Nat.mul_le_mul_right _ (of_decide_eq_true (by first | (with_reducible assumption) | assumption) : ji6.toNat ≤ 281474976710656)) (by omega)) (Below.refl _ _) (Nat.le_refl _) ?_; intro v198 w11 ho12 hb hg_ hnew_; clear hg_ hnew_; (first | rw [← Ny197.out] at ho12 | (simp only [Int.reduceToNat] at ho12; rw [← Ny197.out] at ho12)); have n0_ := Aside0.mk (Kd.R_lower ho12 (below_size (by first | exact Grow.bl HB.out | exact HB.out))); have n1_ := Aside0.mk (below_step (by first | exact Grow.bl HB.out | exact HB.out) hb); clear HB; have HO199 := n0_; have HB := n1_; clear n0_ n1_; clear hb ho12; have p10 : 0 ≤ (0 : Int) := (by omega); have q10 : (0 : Int) < ((y197.length : Int) : Int) := of_decide_eq_true (by first | (with_reducible assumption) | assumption); have qi10 : (0 < y197.length) = True := eq_true (by omega); obtain ⟨go10, co10, eo10, gb10, gl10, cl10, HG10⟩ := Kd.R_form HO199.out (by omega); (first | cases eo10 | (injection eo10 with ea_ en_ ec_; (first | subst ea_ | (injection ea_ with ea_; subst ea_)); subst ec_; clear en_)); have GB10 := Aside0.mk gb10; have GG10 := Aside0.mk HG10; clear gb10 gl10 HG10; obtain ⟨hx10_0, hf10_0⟩ := Kd.R_celln false HO199.out (0 : Int) p10 q10; (try rw [show ((0 : Int)).toNat = 0 from rfl] at hx10_0); (try simp only [Nat.reduceMul, Nat.zero_mul, Nat.zero_add, Nat.reduceAdd] at hx10_0); (try rw [show ((0 : Int)).toNat = 0 from rfl] at hf10_0); (try simp only [Nat.reduceMul, Nat.zero_mul, Nat.zero_add, Nat.reduceAdd] at hf10_0); replace p10 := eq_true p10; replace q10 := eq_true q10; obtain ⟨hy13_, hz13_⟩ := Kd.R_celln false HO199.out (0 : Int) (by omega) (of_decide_eq_true (by first | (with_reducible assumption) | assumption)); (try simp only [Int.reduceToNat, Int.toNat_zero, Int.toNat_ofNat, Nat.reduceMul, Nat.zero_mul, Nat.zero_add] at hy13_ hz13_); (try rw [show ((0 : Int)).toNat = 0 from rfl] at hy13_); (try rw [show ((0 : Int)).toNat = 0 from rfl] at hz13_); have HP13 := Kd.R_putg HO199.out (0 : Int) true) | ((with_reducible refine gate_store (t := 4) (p := 23) rfl ?_); (try (rw [drewN_self w11]; generalize hq_ : World.drewN w11 _ = w11; have n0_ := Aside0.mk (Kd.R_at hq_ HO199.out); have n1_ := Aside0.mk (below_at hq_ HB.out); clear hq_ HO199 HB; have HO199 := n0_; have HB := n1_; clear n0_ n1_; (try (obtain ⟨hy13_, hz13_⟩ := Kd.R_celln false HO199.out (0 : Int) (by omega) (of_decide_eq_true (by first | (with_reducible assumption) | assumption)))); (try (try simp only [Int.reduceToNat, Int.toNat_zero, Int.toNat_ofNat, Nat.reduceMul, Nat.zero_mul, Nat.zero_add] at hy13_ hz13_)); (try (try rw [show ((0 : Int)).toNat = 0 from rfl] at hy13_)); (try (try rw [show ((0 : Int)).toNat = 0 from rfl] at hz13_)); (try (have HP13 := Kd.R_putg HO199.out (0 : Int) true)))); refine store_event (t := 4) (p := 23) (v := ?vo_w14) (w1 := (w11.setCell ⟨go10, (0 : Int).toNat, none⟩ (.bool true))) ?hg ?ho ?hn ?hr ?_; (case ho => rfl); (case hg => rfl); (case hn => rfl); (case hr => first | (go_simp; done) | (go_simp; rfl)); intro w14 hw; have hg : w11.grownBy w14 (some go10) := (by rw [hw]; exact HP13.2); have hp_ : Kd.R Kd.bool 4 w14 w.heap.size (fun _ => True) (.slice (some ⟨go10, 0, none⟩) y197.length co10) y200 := (by rw [hw, Ny200.out]; exact HP13.1); clear HP13; have n0_ := Aside0.mk (hp_); have n1_ := Aside0.mk ((by rw [hw]; exact below_set (HB.out) GB10.out : Below w.heap.size w w14)); clear HO199; clear HB; have HO199 := n0_; have HB := n1_; clear n0_ n1_; clear hg hw hp_))
       repeat (go_quiet (first | ((with_reducible refine gate_dst (N := 21) rfl ?_); (try (refine gate_guard (by rfl) ?_; dsimp only)); refine Kd.R_make Kd.bool _ 4 rfl (N := 21) rfl 81 _ _ rfl ji6 rfl rfl Try.underlying81 (.bool false) 1 info4 rfl (by decide) (by omega) false (ok := fun _ => True) (okp := fun _ => True) rfl (fun _ hk => hk) trivial (of_decide_eq_true (by first | (with_reducible assumption) | assumption)) (Nat.le_trans (Nat.mul_le_mul_right _ (of_decide_eq_true (by first | (with_reducible assumption) | assumption) : ji6.toNat ≤ 281474976710656)) (by omega)) (Below.refl _ _) (Nat.le_refl _) ?_; intro v198 w11 ho12 hb hg_ hnew_; clear hg_ hnew_; (first | rw [← Ny197.out] at ho12 | (simp only [Int.reduceToNat] at ho12; rw [← Ny197.out] at ho12)); have n0_ := Aside0.mk (Kd.R_lower ho12 (below_size (by first | exact Grow.bl HB.out | exact HB.out))); have n1_ := Aside0.mk (below_step (by first | exact Grow.bl HB.out | exact HB.out) hb); clear HB; have HO199 := n0_; have HB := n1_; clear n0_ n1_; clear hb ho12; have p10 : 0 ≤ (0 : Int) := (by omega); have q10 : (0 : Int) < ((y197.length : Int) : Int) := of_decide_eq_true (by first | (with_reducible assumption) | assumption); have qi10 : (0 < y197.length) = True := eq_true (by omega); obtain ⟨go10, co10, eo10, gb10, gl10, cl10, HG10⟩ := Kd.R_form HO199.out (by omega); (first | cases eo10 | (injection eo10 with ea_ en_ ec_; (first | subst ea_ | (injection ea_ with ea_; subst ea_)); subst ec_; clear en_)); have GB10 := Aside0.mk gb10; have GG10 := Aside0.mk HG10; clear gb10 gl10 HG10; obtain ⟨hx10_0, hf10_0⟩ := Kd.R_celln false HO199.out (0 : Int) p10 q10; (try rw [show ((0 : Int)).toNat = 0 from rfl] at hx10_0); (try simp only [Nat.reduceMul, Nat.zero_mul, Nat.zero_add, Nat.reduceAdd] at hx10_0); (try rw [show ((0 : Int)).toNat = 0 from rfl] at hf10_0); (try simp only [Nat.reduceMul, Nat.zero_mul, Nat.zero_add, Nat.reduceAdd] at hf10_0); replace p10 := eq_true p10; replace q10 := eq_true q10; obtain ⟨hy13_, hz13_⟩ := Kd.R_celln false HO199.out (0 : Int) (by omega) (of_decide_eq_true (by first | (with_reducible assumption) | assumption)); (try simp only [Int.reduceToNat, Int.toNat_zero, Int.toNat_ofNat, Nat.reduceMul, Nat.zero_mul, Nat.zero_add] at hy13_ hz13_); (try rw [show ((0 : Int)).toNat = 0 from rfl] at hy13_); (try rw [show ((0 : Int)).toNat = 0 from rfl] at hz13_); have HP13 := Kd.R_putg HO199.out (0 : Int) true) | ((with_reducible refine gate_store (t := 4) (p := 23) rfl ?_); (try (rw [drewN_self w11]; generalize hq_ : World.drewN w11 _ = w11; have n0_ := Aside0.mk (Kd.R_at hq_ HO199.out); have n1_ := Aside0.mk (below_at hq_ HB.out); clear hq_ HO199 HB; have HO199 := n0_; have HB := n1_; clear n0_ n1_; (try (obtain ⟨hy13_, hz13_⟩ := Kd.R_celln false HO199.out (0 : Int) (by omega) (of_decide_eq_true (by first | (with_reducible assumption) | assumption)))); (try (try simp only [Int.reduceToNat, Int.toNat_zero, Int.toNat_ofNat, Nat.reduceMul, Nat.zero_mul, Nat.zero_add] at hy13_ hz13_)); (try (try rw [show ((0 : Int)).toNat = 0 from rfl] at hy13_)); (try (try rw [show ((0 : Int)).toNat = 0 from rfl] at hz13_)); (try (have HP13 := Kd.R_putg HO199.out (0 : Int) true)))); refine store_event (t := 4) (p := 23) (v := ?vo_w14) (w1 := (w11.setCell ⟨go10, (0 : Int).toNat, none⟩ (.bool true))) ?hg ?ho ?hn ?hr ?_; (case ho => rfl); (case hg => rfl); (case hn => rfl); (case hr => first | (go_simp; done) | (go_simp; rfl)); intro w14 hw; have hg : w11.grownBy w14 (some go10) := (by rw [hw]; exact HP13.2); have hp_ : Kd.R Kd.bool 4 w14 w.heap.size (fun _ => True) (.slice (some ⟨go10, 0, none⟩) y197.length co10) y200 := (by rw [hw, Ny200.out]; exact HP13.1); clear HP13; have n0_ := Aside0.mk (hp_); have n1_ := Aside0.mk ((by rw [hw]; exact below_set (HB.out) GB10.out : Below w.heap.size w w14)); clear HO199; clear HB; have HO199 := n0_; have HB := n1_; clear n0_ n1_; clear hg hw hp_)); try go_wp2_with (first | ((with_reducible refine gate_dst (N := 21) rfl ?_); (try (refine gate_guard (by rfl) ?_; dsimp only)); refine Kd.R_make Kd.bool _ 4 rfl (N := 21) rfl 81 _ _ rfl ji6 rfl rfl Try.underlying81 (.bool false) 1 info4 rfl (by decide) (by omega) false (ok := fun _ => True) (okp := fun _ => True) rfl (fun _ hk => hk) trivial (of_decide_eq_true (by first | (with_reducible assumption) | assumption)) (Nat.le_trans (Nat.mul_le_mul_right _ (of_decide_eq_true (by first | (with_reducible assumption) | assumption) : ji6.toNat ≤ 281474976710656)) (by omega)) (Below.refl _ _) (Nat.le_refl _) ?_; intro v198 w11 ho12 hb hg_ hnew_; clear hg_ hnew_; (first | rw [← Ny197.out] at ho12 | (simp only [Int.reduceToNat] at ho12; rw [← Ny197.out] at ho12)); have n0_ := Aside0.mk (Kd.R_lower ho12 (below_size (by first | exact Grow.bl HB.out | exact HB.out))); have n1_ := Aside0.mk (below_step (by first | exact Grow.bl HB.out | exact HB.out) hb); clear HB; have HO199 := n0_; have HB := n1_; clear n0_ n1_; clear hb ho12; have p10 : 0 ≤ (0 : Int) := (by omega); have q10 : (0 : Int) < ((y197.length : Int) : Int) := of_decide_eq_true (by first | (with_reducible assumption) | assumption); have qi10 : (0 < y197.length) = True := eq_true (by omega); obtain ⟨go10, co10, eo10, gb10, gl10, cl10, HG10⟩ := Kd.R_form HO199.out (by omega); (first | cases eo10 | (injection eo10 with ea_ en_ ec_; (first | subst ea_ | (injection ea_ with ea_; subst ea_)); subst ec_; clear en_)); have GB10 := Aside0.mk gb10; have GG10 := Aside0.mk HG10; clear gb10 gl10 HG10; obtain ⟨hx10_0, hf10_0⟩ := Kd.R_celln false HO199.out (0 : Int) p10 q10; (try rw [show ((0 : Int)).toNat = 0 from rfl] at hx10_0); (try simp only [Nat.reduceMul, Nat.zero_mul, Nat.zero_add, Nat.reduceAdd] at hx10_0); (try rw [show ((0 : Int)).toNat = 0 from rfl] at hf10_0); (try simp only [Nat.reduceMul, Nat.zero_mul, Nat.zero_add, Nat.reduceAdd] at hf10_0); replace p10 := eq_true p10; replace q10 := eq_true q10; obtain ⟨hy13_, hz13_⟩ := Kd.R_celln false HO199.out (0 : Int) (by omega) (of_decide_eq_true (by first | (with_reducible assumption) | assumption)); (try simp only [Int.reduceToNat, Int.toNat_zero, Int.toNat_ofNat, Nat.reduceMul, Nat.zero_mul, Nat.zero_add] at hy13_ hz13_); (try rw [show ((0 : Int)).toNat = 0 from rfl] at hy13_); (try rw [show ((0 : Int)).toNat = 0 from rfl] at hz13_); have HP13 := Kd.R_putg HO199.out (0 : Int) true) | ((with_reducible refine gate_store (t := 4) (p := 23) rfl ?_); (try (rw [drewN_self w11]; generalize hq_ : World.drewN w11 _ = w11; have n0_ := Aside0.mk (Kd.R_at hq_ HO199.out); have n1_ := Aside0.mk (below_at hq_ HB.out); clear hq_ HO199 HB; have HO199 := n0_; have HB := n1_; clear n0_ n1_; (try (obtain ⟨hy13_, hz13_⟩ := Kd.R_celln false HO199.out (0 : Int) (by omega) (of_decide_eq_true (by first | (with_reducible assumption) | assumption)))); (try (try simp only [Int.reduceToNat, Int.toNat_zero, Int.toNat_ofNat, Nat.reduceMul, Nat.zero_mul, Nat.zero_add] at hy13_ hz13_)); (try (try rw [show ((0 : Int)).toNat = 0 from rfl] at hy13_)); (try (try rw [show ((0 : Int)).toNat = 0 from rfl] at hz13_)); (try (have HP13 := Kd.R_putg HO199.out (0 : Int) true)))); refine store_event (t := 4) (p := 23) (v := ?vo_w14) (w1 := (w11.setCell ⟨go10, (0 : Int).toNat, none⟩ (.bool true))) ?hg ?ho ?hn ?hr ?_; (case ho => rfl); (case hg => rfl); (case hn => rfl); (case hr => first | (go_simp; done) | (go_simp; rfl)); intro w14 hw; have hg : w11.grownBy w14 (some go10) := (by rw [hw]; exact HP13.2); have hp_ : Kd.R Kd.bool 4 w14 w.heap.size (fun _ => True) (.slice (some ⟨go10, 0, none⟩) y197.length co10) y200 := (by rw [hw, Ny200.out]; exact HP13.1); clear HP13; have n0_ := Aside0.mk (hp_); have n1_ := Aside0.mk ((by rw [hw]; exact below_set (HB.out) GB10.out : Below w.heap.size w w14)); clear HO199; clear HB; have HO199 := n0_; have HB := n1_; clear n0_ n1_; clear hg hw hp_)))
       go_loopg [5, 6] kj2 (fun kq v5 v6 w' => ∃ (x5_2 : List Bool) (x6_2 : Int), v6 = .int .i64 x6_2 ∧ Aside0 (spec_GlobFits.l0 kq a0 a1 x5_2 x6_2 = some r) ∧ Aside0 (kq ≤ kj2) ∧ Aside0 (Kd.R Kd.bool 4 w' w.heap.size (fun _ => True) v5 x5_2) ∧ Aside0 (Below w.heap.size w w'))
       case atStart => exact ⟨(y200), (0), (by first | rfl | (simp; done) | (simp [*]; done)), H', ⟨Nat.le_refl _⟩, ⟨by first | exact Grow.rg HO199.out | exact HO199.out⟩, ⟨by first | exact Grow.bl HB.out | exact HB.out⟩⟩
       case round =>
        clear H'
        try clear c1
        try clear p1
        try clear q1
        try clear hx1
        try clear qi1
        try clear p2
        try clear c4
        try clear c4b0
        try clear c4b1
        try clear c5
        try clear p6
        try clear c7
        try clear c7b0
        try clear c7b1
        try clear c8
        try clear c8b0
        try clear c8b1
        try clear c9
        try clear c9b0
        try clear c9b1
        try clear p10
        try clear q10
        try clear hx10
        try clear qi10
        try clear hf10
        try clear c12
        try clear hx10_0
        try clear p10
        try clear p2
        try clear q10
        obtain ⟨x5_2, x6_2, rfl, HA, HK2, HO_5, HB⟩ := hrel
        cases gk with
        | zero => exact absurd HA.out (by simp [spec_GlobFits.l0])
        | succ k2 =>
         have H := HA.out
         clear HA
         simp only [spec_GlobFits.l0] at H
         by_cases c15 : x6_2 < (a0.size : Int)
         ·
          rw [if_pos c15] at H
          have c15b0 : decide (x6_2 < (a0.size : Int)) = true := decide_eq_true c15
          clear c15
          try clear hji6w
          try clear hji6
          obtain ⟨ji16, hji16⟩ : ∃ j_ : Int, (wrap64 ((a1.size : Int) + 1)) = j_ := ⟨_, rfl⟩
          replace H : (if 0 ≤ (ji16) then (if (ji16 : Int).toNat ≤ 281474976710656 then (spec_GlobFits.l1 k2 a0 a1 x5_2 x6_2 (List.replicate (ji16 : Int).toNat false) false 0) else (none)) else (none)) = some r := by first | (rw [hji16] at H; exact H) | (simp only [hji16] at H ⊢; exact H)
          have hji16w : (IntKind.i64.wrap ((a1.size : Int) + 1)) = ji16 := (i64_w _).trans hji16
          by_cases c17 : 0 ≤ (ji16)
          ·
           rw [if_pos c17] at H
           have c17b0 := eq_true c17
           have c17b1 : decide (0 ≤ (ji16)) = true := decide_eq_true c17
           clear c17
           by_cases c18 : (ji16 : Int).toNat ≤ 281474976710656
           ·
            rw [if_pos c18] at H
            have c18b0 := eq_true c18
            have c18b1 : decide ((ji16 : Int).toNat ≤ 281474976710656) = true := decide_eq_true c18
            clear c18
            obtain ⟨y202, hy202⟩ : ∃ y_ : List Bool, y_ = (List.replicate (ji16 : Int).toNat false) := ⟨_, rfl⟩
            replace H : (spec_GlobFits.l1 k2 a0 a1 x5_2 x6_2 y202 false 0) = some r := by first | (rw [hy202]; with_reducible exact H) | (have H2_ := (Option.bind_some _ _).symm.trans H; rw [hy202]; with_reducible exact H2_) | (have H2_ := (Option.bind_some _ _).symm.trans H; with_reducible exact H2_) | with_reducible exact H | (rw [hy202]; exact H) | exact H
            have Ny202 := Aside0.mk hy202
            clear hy202
            have H' := Aside0.mk H
            clear H
            go_wp2_with (first | ((with_reducible refine gate_dst (N := 33) rfl ?_); (try (refine gate_guard (by rfl) ?_; dsimp only)); refine Kd.R_make Kd.bool _ 4 rfl (N := 33) rfl 81 _ _ rfl ji16 rfl rfl Try.underlying81 (.bool false) 1 info4 rfl (by decide) (by omega) false (ok := fun _ => True) (okp := fun _ => True) rfl (fun _ hk => hk) trivial (of_decide_eq_true (by first | (with_reducible assumption) | assumption)) (Nat.le_trans (Nat.mul_le_mul_right _ (of_decide_eq_true (by first | (with_reducible assumption) | assumption) : ji16.toNat ≤ 281474976710656)) (by omega)) (Below.refl _ _) (Nat.le_refl _) ?_; intro v203 w19 ho20 hb hg_ hnew_; clear hg_ hnew_; (first | rw [← Ny202.out] at ho20 | (simp only [Int.reduceToNat] at ho20; rw [← Ny202.out] at ho20)); have n0_ := Aside0.mk (Kd.R_elder' (by first | exact Grow.rg HO_5.out | exact HO_5.out) (Kd.R_base ho20) hb); have n1_ := Aside0.mk (Kd.R_lower (Kd.R_new' ho20 (Kd.R_lt (by first | exact Grow.rg HO_5.out | exact HO_5.out))) (below_size (by first | exact Grow.bl HB.out | exact HB.out))); have n2_ := Aside0.mk (below_step (by first | exact Grow.bl HB.out | exact HB.out) hb); clear HO_5; clear HB; have HO_5 := n0_; have HO204 := n1_; have HB := n2_; clear n0_ n1_ n2_; clear hb ho20))
            repeat (go_quiet (first | ((with_reducible refine gate_dst (N := 33) rfl ?_); (try (refine gate_guard (by rfl) ?_; dsimp only)); refine Kd.R_make Kd.bool _ 4 rfl (N := 33) rfl 81 _ _ rfl ji16 rfl rfl Try.underlying81 (.bool false) 1 info4 rfl (by decide) (by omega) false (ok := fun _ => True) (okp := fun _ => True) rfl (fun _ hk => hk) trivial (of_decide_eq_true (by first | (with_reducible assumption) | assumption)) (Nat.le_trans (Nat.mul_le_mul_right _ (of_decide_eq_true (by first | (with_reducible assumption) | assumption) : ji16.toNat ≤ 281474976710656)) (by omega)) (Below.refl _ _) (Nat.le_refl _) ?_; intro v203 w19 ho20 hb hg_ hnew_; clear hg_ hnew_; (first | rw [← Ny202.out] at ho20 | (simp only [Int.reduceToNat] at ho20; rw [← Ny202.out] at ho20)); have n0_ := Aside0.mk (Kd.R_elder' (by first | exact Grow.rg HO_5.out | exact HO_5.out) (Kd.R_base ho20) hb); have n1_ := Aside0.mk (Kd.R_lower (Kd.R_new' ho20 (Kd.R_lt (by first | exact Grow.rg HO_5.out | exact HO_5.out))) (below_size (by first | exact Grow.bl HB.out | exact HB.out))); have n2_ := Aside0.mk (below_step (by first | exact Grow.bl HB.out | exact HB.out) hb); clear HO_5; clear HB; have HO_5 := n0_; have HO204 := n1_; have HB := n2_; clear n0_ n1_ n2_; clear hb ho20)); try go_wp2_with (first | ((with_reducible refine gate_dst (N := 33) rfl ?_); (try (refine gate_guard (by rfl) ?_; dsimp only)); refine Kd.R_make Kd.bool _ 4 rfl (N := 33) rfl 81 _ _ rfl ji16 rfl rfl Try.underlying81 (.bool false) 1 info4 rfl (by decide) (by omega) false (ok := fun _ => True) (okp := fun _ => True) rfl (fun _ hk => hk) trivial (of_decide_eq_true (by first | (with_reducible assumption) | assumption)) (Nat.le_trans (Nat.mul_le_mul_right _ (of_decide_eq_true (by first | (with_reducible assumption) | assumption) : ji16.toNat ≤ 281474976710656)) (by omega)) (Below.refl _ _) (Nat.le_refl _) ?_; intro v203 w19 ho20 hb hg_ hnew_; clear hg_ hnew_; (first | rw [← Ny202.out] at ho20 | (simp only [Int.reduceToNat] at ho20; rw [← Ny202.out] at ho20)); have n0_ := Aside0.mk (Kd.R_elder' (by first | exact Grow.rg HO_5.out | exact HO_5.out) (Kd.R_base ho20) hb); have n1_ := Aside0.mk (Kd.R_lower (Kd.R_new' ho20 (Kd.R_lt (by first | exact Grow.rg HO_5.out | exact HO_5.out))) (below_size (by first | exact Grow.bl HB.out | exact HB.out))); have n2_ := Aside0.mk (below_step (by first | exact Grow.bl HB.out | exact HB.out) hb); clear HO_5; clear HB; have HO_5 := n0_; have HO204 := n1_; have HB := n2_; clear n0_ n1_ n2_; clear hb ho20)))
            go_loopg [8, 9] k2 (fun kq v8 v9 w' => ∃ (x7_3 : List Bool) (x8_3 : Bool) (x9_3 : Int), v8 = .bool x8_3 ∧ v9 = .int .i64 x9_3 ∧ Aside0 (spec_GlobFits.l1 kq a0 a1 x5_2 x6_2 x7_3 x8_3 x9_3 = some r) ∧ Aside0 (kq ≤ k2) ∧ Aside0 (Kd.R Kd.bool 4 w' w.heap.size (fun k_ => some k_ ≠ (v203 : Value).ownBlock) u5 x5_2) ∧ Aside0 (Kd.R Kd.bool 4 w' w.heap.size (fun k_ => some k_ ≠ (u5 : Value).ownBlock) v203 x7_3) ∧ Aside0 (Below w.heap.size w w'))
            case atStart => exact ⟨(y202), (false), (0), (by first | rfl | (simp; done) | (simp [*]; done)), (by first | rfl | (simp; done) | (simp [*]; done)), H', ⟨Nat.le_refl _⟩, ⟨by (with_reducible repeat (first | apply Kd.R_alloc | apply Kd.R_drewN | apply Kd.R_drew)); exact Kd.R_mono HO_5.out (fun _ hk => hk.2)⟩, ⟨by (with_reducible repeat (first | apply Kd.R_alloc | apply Kd.R_drewN | apply Kd.R_drew)); exact Kd.R_mono HO204.out (fun _ hk => hk.2)⟩, ⟨by first | exact Grow.bl HB.out | exact HB.out⟩⟩
            case round =>
             clear H'
             try clear c1
             try clear p1
             try clear q1
             try clear hx1
             try clear qi1
             try clear p2
             try clear c4
             try clear c4b0
             try clear c4b1
             try clear c5
             try clear p6
             try clear c7
             try clear c7b0
             try clear c7b1
             try clear c8
             try clear c8b0
             try clear c8b1
             try clear c9
             try clear c9b0
             try clear c9b1
             try clear p10
             try clear q10
             try clear hx10
             try clear qi10
             try clear hf10
             try clear c12
             try clear c15
             try clear c15b0
             try clear c17
             try clear c17b0
             try clear c17b1
             try clear c18
             try clear c18b0
             try clear c18b1
             try clear hx10_0
             try clear p1
             try clear p10
             try clear p2
             try clear p6
             try clear q1
             try clear q10
             obtain ⟨x7_3, x8_3, x9_3, rfl, rfl, HA, HK3, HO_5, HO_7, HB⟩ := hrel
             cases gk with
             | zero => exact absurd HA.out (by simp [spec_GlobFits.l1])
             | succ k3 =>
              have H := HA.out
              clear HA
              simp only [spec_GlobFits.l1] at H
              by_cases c21 : x9_3 ≤ (a1.size : Int)
              ·
               rw [if_pos c21] at H
               have c21b0 : decide (x9_3 ≤ (a1.size : Int)) = true := decide_eq_true c21
               clear c21
               have HC22 := Aside0.mk H
               clear H
               go_upto_region 13 with (fail)
               repeat (go_quiet (fail); go_upto_region 13 with (fail))
               go_cut [8] (fun v8 wc => ∃ (kq : Nat) (x8_21 : Bool), v8 = .bool x8_21 ∧ Aside0 (spec_GlobFits.j3 kq a0 a1 x5_2 x6_2 x7_3 x8_21 x9_3 = some r) ∧ Aside0 (kq ≤ k3) ∧ Aside0 (Kd.R Kd.bool 4 wc w.heap.size (fun k_ => some k_ ≠ (v203 : Value).ownBlock) u5 x5_2) ∧ Aside0 (Kd.R Kd.bool 4 wc w.heap.size (fun k_ => some k_ ≠ (u5 : Value).ownBlock) v203 x7_3) ∧ Aside0 (Below w.heap.size w wc))
               case first =>
                have H := HC22.out
                clear HC22
                by_cases c23 : x8_3 = true
                ·
                 subst c23
                 have H1 : (spec_GlobFits.j3 k3 a0 a1 x5_2 x6_2 x7_3 true x9_3) = some r := by rw [if_pos rfl] at H; exact H
                 clear H
                 have H := H1
                 clear H1
                 have H' := Aside0.mk H
                 clear H
                 go_wp2
                 repeat (go_quiet (fail); try go_wp2)
                 go_meet
                 case rel => exact ⟨_, (true), (by first | rfl | (simp; done) | (simp [*]; done)), H', ⟨by have := HJ2.out; have := HK2.out; have := HK3.out; first | omega | exact Nat.le_refl _⟩, ⟨by first | exact Grow.rg HO_5.out | exact HO_5.out⟩, ⟨by first | exact Grow.rg HO_7.out | exact HO_7.out⟩, ⟨by first | exact Grow.bl HB.out | exact HB.out⟩⟩
                ·
                 replace c23 := Bool.eq_false_iff.mpr c23
                 subst c23
                 have H1 : (if 0 ≤ x9_3 then (if x9_3 < (x5_2.length : Int) then (spec_GlobFits.j3 k3 a0 a1 x5_2 x6_2 x7_3 (rdOf false x5_2 x9_3) x9_3) else (none)) else (none)) = some r := by rw [if_neg (show ¬ (false = true) by decide)] at H; exact H
                 clear H
                 have H := H1
                 clear H1
                 by_cases c24 : 0 ≤ x9_3
                 ·
                  rw [if_pos c24] at H
                  have c24b0 : decide (0 ≤ x9_3) = true := decide_eq_true c24
                  clear c24
                  (first | rw [c24b0] | (simp only [i64_w, i32_w]; rw [c24b0]) | skip)
                  by_cases c25 : x9_3 < (x5_2.length : Int)
                  ·
                   rw [if_pos c25] at H
                   have c25b0 : decide (x9_3 < (x5_2.length : Int)) = true := decide_eq_true c25
                   clear c25
                   have H' := Aside0.mk H
                   clear H
                   obtain ⟨Ao26, co26, eo26⟩ := Kd.R_slice HO_5.out
                   subst eo26
                   have p205 : 0 ≤ (x9_3 : Int) := of_decide_eq_true (by first | (with_reducible assumption) | assumption)
                   have q205 : x9_3 < (x5_2.length : Int) := of_decide_eq_true (by first | (with_reducible assumption) | assumption)
                   obtain ⟨ad205, e205, hx205_0⟩ := Kd.at_bool (Kd.R_reads' HO_5.out).2.2 x9_3 p205 q205
                   cases e205
                   replace p205 := eq_true p205
                   replace q205 := eq_true q205
                   go_wp2
                   repeat (go_quiet (fail); try go_wp2)
                   go_meet
                   case rel => exact ⟨_, (rdOf false x5_2 x9_3), (by first | rfl | (simp; done) | (simp [*]; done)), H', ⟨by have := HJ2.out; have := HK2.out; have := HK3.out; first | omega | exact Nat.le_refl _⟩, ⟨by first | exact Grow.rg HO_5.out | exact HO_5.out⟩, ⟨by first | exact Grow.rg HO_7.out | exact HO_7.out⟩, ⟨by first | exact Grow.bl HB.out | exact HB.out⟩⟩
                  ·
                   rw [if_neg c25] at H
                   exact absurd H (by simp)
                 ·
                  rw [if_neg c24] at H
                  exact absurd H (by simp)
               case rest =>
                clear HC22
                try clear c1
                try clear p1
                try clear q1
                try clear hx1
                try clear qi1
                try clear c2
                try clear p2
                try clear q2
                try clear hx2
                try clear c4
                try clear c4b0
                try clear c4b1
                try clear c5
                try clear p6
                try clear c7
                try clear c7b0
                try clear c7b1
                try clear c8
                try clear c8b0
                try clear c8b1
                try clear c9
                try clear c9b0
                try clear c9b1
                try clear p10
                try clear q10
                try clear hx10
                try clear qi10
                try clear hf10
                try clear c12
                try clear c15
                try clear c15b0
                try clear c17
                try clear c17b0
                try clear c17b1
                try clear c18
                try clear c18b0
                try clear c18b1
                try clear p20
                try clear q20
                try clear hx20
                try clear c21
                try clear c21b0
                try clear c23
                try clear c24
                try clear c24b0
                try clear c25
                try clear c25b0
                try clear hx10_0
                try clear hx205_0
                try clear p1
                try clear p10
                try clear p2
                try clear p205
                try clear p6
                try clear q1
                try clear q10
                try clear q205
                obtain ⟨kq, x8_21, rfl, HA, HJ21, HO_5, HO_7, HB⟩ := hcut
                cases kq with
                | zero => exact absurd HA.out (by simp [spec_GlobFits.j3])
                | succ kj21 =>
                 have H := HA.out
                 clear HA
                 simp only [spec_GlobFits.j3] at H
                 by_cases c27 : 0 ≤ x6_2
                 ·
                  rw [if_pos c27] at H
                  have c27b0 : decide (0 ≤ x6_2) = true := decide_eq_true c27
                  clear c27
                  by_cases c28 : x6_2 < (a0.size : Int)
                  ·
                   rw [if_pos c28] at H
                   have c28b0 : decide (x6_2 < (a0.size : Int)) = true := decide_eq_true c28
                   clear c28
                   by_cases c30 : (bt a0 x6_2) = 42
                   ·
                    rw [if_pos c30] at H
                    have c30b0 : ((bt a0 x6_2) == 42) = true := beq_iff_eq.mpr c30
                    have c30b1 : ((bt a0 x6_2) != 42) = false := bne_eq_false_iff_eq.mpr c30
                    clear c30
                    by_cases c31 : 0 ≤ x9_3
                    ·
                     rw [if_pos c31] at H
                     have c31b0 : decide (0 ≤ x9_3) = true := decide_eq_true c31
                     clear c31
                     by_cases c32 : x9_3 < (x7_3.length : Int)
                     ·
                      rw [if_pos c32] at H
                      have c32b0 : decide (x9_3 < (x7_3.length : Int)) = true := decide_eq_true c32
                      clear c32
                      obtain ⟨y206, hy206⟩ : ∃ y_ : List Bool, y_ = (x7_3.set (x9_3 : Int).toNat x8_21) := ⟨_, rfl⟩
                      replace H : (spec_GlobFits.l1 kj21 a0 a1 x5_2 x6_2 y206 x8_21 (wrap64 (x9_3 + 1))) = some r := by first | (rw [hy206]; with_reducible exact H) | (have H2_ := (Option.bind_some _ _).symm.trans H; rw [hy206]; with_reducible exact H2_) | (have H2_ := (Option.bind_some _ _).symm.trans H; with_reducible exact H2_) | with_reducible exact H | (rw [hy206]; exact H) | exact H
                      have Ny206 := Aside0.mk hy206
                      clear hy206
                      have H' := Aside0.mk H
                      clear H
                      have p29 : 0 ≤ (x6_2 : Int) := of_decide_eq_true (by first | (with_reducible assumption) | assumption)
                      have q29 : x6_2 < (a0.size : Int) := of_decide_eq_true (by first | (with_reducible assumption) | assumption)
                      have hx29 := bt_at a0 x6_2
                      replace p29 := eq_true p29
                      replace q29 := eq_true q29
                      have p33 : 0 ≤ (x9_3 : Int) := of_decide_eq_true (by first | (with_reducible assumption) | assumption)
                      have q33 : (x9_3 : Int) < ((x7_3.length : Int) : Int) := of_decide_eq_true (by first | (with_reducible assumption) | assumption)
                      obtain ⟨go33, co33, eo33, gb33, gl33, cl33, HG33⟩ := Kd.R_form HO_7.out (by omega)
                      (first | cases eo33 | (injection eo33 with ea_ en_ ec_; (first | subst ea_ | (injection ea_ with ea_; subst ea_)); subst ec_; clear en_))
                      have GB33 := Aside0.mk gb33
                      have GG33 := Aside0.mk HG33
                      clear gb33 gl33 HG33
                      obtain ⟨hx33_0, hf33_0⟩ := Kd.R_celln false HO_7.out (x9_3 : Int) p33 q33
                      replace p33 := eq_true p33
                      replace q33 := eq_true q33
                      have HP34 := Kd.R_putg HO_7.out (x9_3 : Int) x8_21
                      go_wp2_with (first | ((with_reducible refine gate_store (t := 4) (p := 54) rfl ?_); (try (rw [drewN_self wc]; generalize hq_ : World.drewN wc _ = wc; have n0_ := Aside0.mk (Kd.R_at hq_ HO_5.out); have n1_ := Aside0.mk (Kd.R_at hq_ HO_7.out); have n2_ := Aside0.mk (below_at hq_ HB.out); clear hq_ HO_5 HO_7 HB; have HO_5 := n0_; have HO_7 := n1_; have HB := n2_; clear n0_ n1_ n2_; (try (have HP34 := Kd.R_putg HO_7.out (x9_3 : Int) x8_21)); (try (have z_ := Kd.R_celln false HO_7.out (x9_3 : Int) (of_eq_true p33) (of_eq_true q33); clear hx33_0 hf33_0; have hx33_0 := z_.1; have hf33_0 := z_.2; clear z_)))); refine store_event (t := 4) (p := 54) (v := ?vo_w35) (w1 := (wc.setCell ⟨go33, (x9_3 : Int).toNat, none⟩ (.bool x8_21))) ?hg ?ho ?hn ?hr ?_; (case ho => rfl); (case hg => rfl); (case hn => rfl); (case hr => first | (go_simp; done) | (go_simp; rfl)); intro w35 hw; have hg : wc.grownBy w35 (some go33) := (by rw [hw]; exact HP34.2); have hp_ : Kd.R Kd.bool 4 w35 w.heap.size (fun k_ => some k_ ≠ (u5 : Value).ownBlock) (.slice (some ⟨go33, 0, none⟩) x7_3.length co33) y206 := (by rw [hw, Ny206.out]; exact HP34.1); clear HP34; have n0_ := Aside0.mk (Kd.R_after (v := (.slice (some ⟨go33, 0, none⟩) x7_3.length co33)) (v1 := (.slice (some ⟨go33, 0, none⟩) x7_3.length co33)) (ok := (fun _ => True)) (by (with_reducible repeat (first | apply Kd.R_alloc | apply Kd.R_drewN | apply Kd.R_drew)); exact Kd.R_mono HO_5.out (fun _ hk => ⟨trivial, hk⟩)) hg (.inl rfl)); have n1_ := Aside0.mk (hp_); have n2_ := Aside0.mk ((by rw [hw]; exact below_set (HB.out) GB33.out : Below w.heap.size w w35)); clear HO_5; clear HO_7; clear HB; have HO_5 := n0_; have HO_7 := n1_; have HB := n2_; clear n0_ n1_ n2_; clear hg hw hp_))
                      repeat (go_quiet (first | ((with_reducible refine gate_store (t := 4) (p := 54) rfl ?_); (try (rw [drewN_self wc]; generalize hq_ : World.drewN wc _ = wc; have n0_ := Aside0.mk (Kd.R_at hq_ HO_5.out); have n1_ := Aside0.mk (Kd.R_at hq_ HO_7.out); have n2_ := Aside0.mk (below_at hq_ HB.out); clear hq_ HO_5 HO_7 HB; have HO_5 := n0_; have HO_7 := n1_; have HB := n2_; clear n0_ n1_ n2_; (try (have HP34 := Kd.R_putg HO_7.out (x9_3 : Int) x8_21)); (try (have z_ := Kd.R_celln false HO_7.out (x9_3 : Int) (of_eq_true p33) (of_eq_true q33); clear hx33_0 hf33_0; have hx33_0 := z_.1; have hf33_0 := z_.2; clear z_)))); refine store_event (t := 4) (p := 54) (v := ?vo_w35) (w1 := (wc.setCell ⟨go33, (x9_3 : Int).toNat, none⟩ (.bool x8_21))) ?hg ?ho ?hn ?hr ?_; (case ho => rfl); (case hg => rfl); (case hn => rfl); (case hr => first | (go_simp; done) | (go_simp; rfl)); intro w35 hw; have hg : wc.grownBy w35 (some go33) := (by rw [hw]; exact HP34.2); have hp_ : Kd.R Kd.bool 4 w35 w.heap.size (fun k_ => some k_ ≠ (u5 : Value).ownBlock) (.slice (some ⟨go33, 0, none⟩) x7_3.length co33) y206 := (by rw [hw, Ny206.out]; exact HP34.1); clear HP34; have n0_ := Aside0.mk (Kd.R_after (v := (.slice (some ⟨go33, 0, none⟩) x7_3.length co33)) (v1 := (.slice (some ⟨go33, 0, none⟩) x7_3.length co33)) (ok := (fun _ => True)) (by (with_reducible repeat (first | apply Kd.R_alloc | apply Kd.R_drewN | apply Kd.R_drew)); exact Kd.R_mono HO_5.out (fun _ hk => ⟨trivial, hk⟩)) hg (.inl rfl)); have n1_ := Aside0.mk (hp_); have n2_ := Aside0.mk ((by rw [hw]; exact below_set (HB.out) GB33.out : Below w.heap.size w w35)); clear HO_5; clear HO_7; clear HB; have HO_5 := n0_; have HO_7 := n1_; have HB := n2_; clear n0_ n1_ n2_; clear hg hw hp_)); try go_wp2_with (first | ((with_reducible refine gate_store (t := 4) (p := 54) rfl ?_); (try (rw [drewN_self wc]; generalize hq_ : World.drewN wc _ = wc; have n0_ := Aside0.mk (Kd.R_at hq_ HO_5.out); have n1_ := Aside0.mk (Kd.R_at hq_ HO_7.out); have n2_ := Aside0.mk (below_at hq_ HB.out); clear hq_ HO_5 HO_7 HB; have HO_5 := n0_; have HO_7 := n1_; have HB := n2_; clear n0_ n1_ n2_; (try (have HP34 := Kd.R_putg HO_7.out (x9_3 : Int) x8_21)); (try (have z_ := Kd.R_celln false HO_7.out (x9_3 : Int) (of_eq_true p33) (of_eq_true q33); clear hx33_0 hf33_0; have hx33_0 := z_.1; have hf33_0 := z_.2; clear z_)))); refine store_event (t := 4) (p := 54) (v := ?vo_w35) (w1 := (wc.setCell ⟨go33, (x9_3 : Int).toNat, none⟩ (.bool x8_21))) ?hg ?ho ?hn ?hr ?_; (case ho => rfl); (case hg => rfl); (case hn => rfl); (case hr => first | (go_simp; done) | (go_simp; rfl)); intro w35 hw; have hg : wc.grownBy w35 (some go33) := (by rw [hw]; exact HP34.2); have hp_ : Kd.R Kd.bool 4 w35 w.heap.size (fun k_ => some k_ ≠ (u5 : Value).ownBlock) (.slice (some ⟨go33, 0, none⟩) x7_3.length co33) y206 := (by rw [hw, Ny206.out]; exact HP34.1); clear HP34; have n0_ := Aside0.mk (Kd.R_after (v := (.slice (some ⟨go33, 0, none⟩) x7_3.length co33)) (v1 := (.slice (some ⟨go33, 0, none⟩) x7_3.length co33)) (ok := (fun _ => True)) (by (with_reducible repeat (first | apply Kd.R_alloc | apply Kd.R_drewN | apply Kd.R_drew)); exact Kd.R_mono HO_5.out (fun _ hk => ⟨trivial, hk⟩)) hg (.inl rfl)); have n1_ := Aside0.mk (hp_); have n2_ := Aside0.mk ((by rw [hw]; exact below_set (HB.out) GB33.out : Below w.heap.size w w35)); clear HO_5; clear HO_7; clear HB; have HO_5 := n0_; have HO_7 := n1_; have HB := n2_; clear n0_ n1_ n2_; clear hg hw hp_)))
                      go_roundg kj21
                      case measure => have := HJ2.out; have := HK2.out; have := HK3.out; have := HJ21.out; omega
                      case rel => exact ⟨(y206), (x8_21), (wrap64 (x9_3 + 1)), (by first | rfl | (simp; done) | (simp [*]; done)), (by first | rfl | (simp; done) | (simp [*]; done)), H', ⟨by have := HJ2.out; have := HK2.out; have := HK3.out; have := HJ21.out; omega⟩, ⟨by (with_reducible repeat (first | apply Kd.R_alloc | apply Kd.R_drewN | apply Kd.R_drew)); exact Kd.R_mono HO_5.out (fun _ hk => hk.2)⟩, ⟨by first | exact Grow.rg HO_7.out | exact HO_7.out⟩, ⟨by first | exact Grow.bl HB.out | exact HB.out⟩⟩
                     ·
                      rw [if_neg c32] at H
                      exact absurd H (by simp)
                    ·
                     rw [if_neg c31] at H
                     exact absurd H (by simp)
                   ·
                    rw [if_neg c30] at H
                    have c30b0 : ((bt a0 x6_2) == 42) = false := beq_eq_false_iff_ne.mpr c30
                    have c30b1 : ((bt a0 x6_2) != 42) = true := bne_iff_ne.mpr c30
                    by_cases c36 : x9_3 < (a1.size : Int)
                    ·
                     rw [if_pos c36] at H
                     have c36b0 : decide (x9_3 < (a1.size : Int)) = true := decide_eq_true c36
                     clear c36
                     by_cases c37 : 0 ≤ x9_3
                     ·
                      rw [if_pos c37] at H
                      have c37b0 : decide (0 ≤ x9_3) = true := decide_eq_true c37
                      clear c37
                      by_cases c38 : x9_3 < (x5_2.length : Int)
                      ·
                       rw [if_pos c38] at H
                       have c38b0 : decide (x9_3 < (x5_2.length : Int)) = true := decide_eq_true c38
                       clear c38
                       obtain ⟨bq39, hbq39⟩ : ∃ b_ : Bool, b_ = (rdOf false x5_2 x9_3) := ⟨_, rfl⟩
                       replace H : (if bq39 = true then (if (bt a0 x6_2) = 63 then (if 0 ≤ (wrap64 (x9_3 + 1)) then (if (wrap64 (x9_3 + 1)) < (x7_3.length : Int) then (spec_GlobFits.l1 kj21 a0 a1 x5_2 x6_2 (x7_3.set ((wrap64 (x9_3 + 1)) : Int).toNat true) x8_21 (wrap64 (x9_3 + 1))) else (none)) else (none)) else (if (bt a0 x6_2) = (bt a1 x9_3) then (if 0 ≤ (wrap64 (x9_3 + 1)) then (if (wrap64 (x9_3 + 1)) < (x7_3.length : Int) then (spec_GlobFits.l1 kj21 a0 a1 x5_2 x6_2 (x7_3.set ((wrap64 (x9_3 + 1)) : Int).toNat true) x8_21 (wrap64 (x9_3 + 1))) else (none)) else (none)) else (spec_GlobFits.l1 kj21 a0 a1 x5_2 x6_2 x7_3 x8_21 (wrap64 (x9_3 + 1))))) else (spec_GlobFits.l1 kj21 a0 a1 x5_2 x6_2 x7_3 x8_21 (wrap64 (x9_3 + 1)))) = some r := by rw [← hbq39] at H; exact H
                       have Nbq39 := Aside0.mk hbq39
                       clear hbq39
                       by_cases c40 : bq39 = true
                       ·
                        subst c40
                        have H1 : (if (bt a0 x6_2) = 63 then (if 0 ≤ (wrap64 (x9_3 + 1)) then (if (wrap64 (x9_3 + 1)) < (x7_3.length : Int) then (spec_GlobFits.l1 kj21 a0 a1 x5_2 x6_2 (x7_3.set ((wrap64 (x9_3 + 1)) : Int).toNat true) x8_21 (wrap64 (x9_3 + 1))) else (none)) else (none)) else (if (bt a0 x6_2) = (bt a1 x9_3) then (if 0 ≤ (wrap64 (x9_3 + 1)) then (if (wrap64 (x9_3 + 1)) < (x7_3.length : Int) then (spec_GlobFits.l1 kj21 a0 a1 x5_2 x6_2 (x7_3.set ((wrap64 (x9_3 + 1)) : Int).toNat true) x8_21 (wrap64 (x9_3 + 1))) else (none)) else (none)) else (spec_GlobFits.l1 kj21 a0 a1 x5_2 x6_2 x7_3 x8_21 (wrap64 (x9_3 + 1))))) = some r := by rw [if_pos rfl] at H; exact H
                        clear H
                        have H := H1
                        clear H1
                        by_cases c42 : (bt a0 x6_2) = 63
                        ·
                         rw [if_pos c42] at H
                         have c42b0 : ((bt a0 x6_2) == 63) = true := beq_iff_eq.mpr c42
                         have c42b1 : ((bt a0 x6_2) != 63) = false := bne_eq_false_iff_eq.mpr c42
                         clear c42
                         obtain ⟨ji43, hji43⟩ : ∃ j_ : Int, (wrap64 (x9_3 + 1)) = j_ := ⟨_, rfl⟩
                         replace H : (if 0 ≤ (ji43) then (if (ji43) < (x7_3.length : Int) then (spec_GlobFits.l1 kj21 a0 a1 x5_2 x6_2 (x7_3.set ((ji43) : Int).toNat true) x8_21 ji43) else (none)) else (none)) = some r := by first | (rw [hji43] at H; exact H) | (simp only [hji43] at H ⊢; exact H)
                         have hji43w : (IntKind.i64.wrap (x9_3 + 1)) = ji43 := (i64_w _).trans hji43
                         by_cases c44 : 0 ≤ (ji43)
                         ·
                          rw [if_pos c44] at H
                          have c44b0 : decide (0 ≤ (ji43)) = true := decide_eq_true c44
                          clear c44
                          by_cases c45 : (ji43) < (x7_3.length : Int)
                          ·
                           rw [if_pos c45] at H
                           have c45b0 : decide ((ji43) < (x7_3.length : Int)) = true := decide_eq_true c45
                           clear c45
                           obtain ⟨y208, hy208⟩ : ∃ y_ : List Bool, y_ = (x7_3.set ((ji43) : Int).toNat true) := ⟨_, rfl⟩
                           replace H : (spec_GlobFits.l1 kj21 a0 a1 x5_2 x6_2 y208 x8_21 ji43) = some r := by first | (rw [hy208]; with_reducible exact H) | (have H2_ := (Option.bind_some _ _).symm.trans H; rw [hy208]; with_reducible exact H2_) | (have H2_ := (Option.bind_some _ _).symm.trans H; with_reducible exact H2_) | with_reducible exact H | (rw [hy208]; exact H) | exact H
                           have Ny208 := Aside0.mk hy208
                           clear hy208
                           have H' := Aside0.mk H
                           clear H
                           have p29 : 0 ≤ (x6_2 : Int) := of_decide_eq_true (by first | (with_reducible assumption) | assumption)
                           have q29 : x6_2 < (a0.size : Int) := of_decide_eq_true (by first | (with_reducible assumption) | assumption)
                           have hx29 := bt_at a0 x6_2
                           replace p29 := eq_true p29
                           replace q29 := eq_true q29
                           obtain ⟨Ao47, co47, eo47⟩ := Kd.R_slice HO_5.out
                           subst eo47
                           have p207 : 0 ≤ (x9_3 : Int) := of_decide_eq_true (by first | (with_reducible assumption) | assumption)
                           have q207 : x9_3 < (x5_2.length : Int) := of_decide_eq_true (by first | (with_reducible assumption) | assumption)
                           obtain ⟨ad207, e207, hx207_0⟩ := Kd.at_bool (Kd.R_reads' HO_5.out).2.2 x9_3 p207 q207
                           (try rw [← Nbq39.out] at hx207_0)
                           cases e207
                           replace p207 := eq_true p207
                           replace q207 := eq_true q207
                           have p41 : 0 ≤ (x6_2 : Int) := of_decide_eq_true (by first | (with_reducible assumption) | assumption)
                           have q41 : x6_2 < (a0.size : Int) := of_decide_eq_true (by first | (with_reducible assumption) | assumption)
                           have hx41 := bt_at a0 x6_2
                           replace p41 := eq_true p41
                           replace q41 := eq_true q41
                           have p46 : 0 ≤ ((ji43) : Int) := of_decide_eq_true (by first | (with_reducible assumption) | assumption)
                           have q46 : ((ji43) : Int) < ((x7_3.length : Int) : Int) := of_decide_eq_true (by first | (with_reducible assumption) | assumption)
                           obtain ⟨go46, co46, eo46, gb46, gl46, cl46, HG46⟩ := Kd.R_form HO_7.out (by omega)
                           (first | cases eo46 | (injection eo46 with ea_ en_ ec_; (first | subst ea_ | (injection ea_ with ea_; subst ea_)); subst ec_; clear en_))
                           have GB46 := Aside0.mk gb46
                           have GG46 := Aside0.mk HG46
                           clear gb46 gl46 HG46
                           obtain ⟨hx46_0, hf46_0⟩ := Kd.R_celln false HO_7.out ((ji43) : Int) p46 q46
                           replace p46 := eq_true p46
                           replace q46 := eq_true q46
                           have HP48 := Kd.R_putg HO_7.out ((ji43) : Int) true
                           go_wp2_with (first | ((with_reducible refine gate_store (t := 4) (p := 83) rfl ?_); (try (rw [drewN_self wc]; generalize hq_ : World.drewN wc _ = wc; have n0_ := Aside0.mk (Kd.R_at hq_ HO_5.out); have n1_ := Aside0.mk (Kd.R_at hq_ HO_7.out); have n2_ := Aside0.mk (below_at hq_ HB.out); clear hq_ HO_5 HO_7 HB; have HO_5 := n0_; have HO_7 := n1_; have HB := n2_; clear n0_ n1_ n2_; (try (have HP48 := Kd.R_putg HO_7.out ((ji43) : Int) true)); (try (have z_ := Kd.R_celln false HO_7.out ((ji43) : Int) (of_eq_true p46) (of_eq_true q46); clear hx46_0 hf46_0; have hx46_0 := z_.1; have hf46_0 := z_.2; clear z_)))); refine store_event (t := 4) (p := 83) (v := ?vo_w49) (w1 := (wc.setCell ⟨go46, ((ji43) : Int).toNat, none⟩ (.bool true))) ?hg ?ho ?hn ?hr ?_; (case ho => rfl); (case hg => rfl); (case hn => rfl); (case hr => first | (go_simp; done) | (go_simp; rfl)); intro w49 hw; have hg : wc.grownBy w49 (some go46) := (by rw [hw]; exact HP48.2); have hp_ : Kd.R Kd.bool 4 w49 w.heap.size (fun k_ => some k_ ≠ (.slice (some ad207) x5_2.length co47 : Value).ownBlock) (.slice (some ⟨go46, 0, none⟩) x7_3.length co46) y208 := (by rw [hw, Ny208.out]; exact HP48.1); clear HP48; have n0_ := Aside0.mk (Kd.R_after (v := (.slice (some ⟨go46, 0, none⟩) x7_3.length co46)) (v1 := (.slice (some ⟨go46, 0, none⟩) x7_3.length co46)) (ok := (fun _ => True)) (by (with_reducible repeat (first | apply Kd.R_alloc | apply Kd.R_drewN | apply Kd.R_drew)); exact Kd.R_mono HO_5.out (fun _ hk => ⟨trivial, hk⟩)) hg (.inl rfl)); have n1_ := Aside0.mk (hp_); have n2_ := Aside0.mk ((by rw [hw]; exact below_set (HB.out) GB46.out : Below w.heap.size w w49)); clear HO_5; clear HO_7; clear HB; have HO_5 := n0_; have HO_7 := n1_; have HB := n2_; clear n0_ n1_ n2_; clear hg hw hp_))
                           repeat (go_quiet (first | ((with_reducible refine gate_store (t := 4) (p := 83) rfl ?_); (try (rw [drewN_self wc]; generalize hq_ : World.drewN wc _ = wc; have n0_ := Aside0.mk (Kd.R_at hq_ HO_5.out); have n1_ := Aside0.mk (Kd.R_at hq_ HO_7.out); have n2_ := Aside0.mk (below_at hq_ HB.out); clear hq_ HO_5 HO_7 HB; have HO_5 := n0_; have HO_7 := n1_; have HB := n2_; clear n0_ n1_ n2_; (try (have HP48 := Kd.R_putg HO_7.out ((ji43) : Int) true)); (try (have z_ := Kd.R_celln false HO_7.out ((ji43) : Int) (of_eq_true p46) (of_eq_true q46); clear hx46_0 hf46_0; have hx46_0 := z_.1; have hf46_0 := z_.2; clear z_)))); refine store_event (t := 4) (p := 83) (v := ?vo_w49) (w1 := (wc.setCell ⟨go46, ((ji43) : Int).toNat, none⟩ (.bool true))) ?hg ?ho ?hn ?hr ?_; (case ho => rfl); (case hg => rfl); (case hn => rfl); (case hr => first | (go_simp; done) | (go_simp; rfl)); intro w49 hw; have hg : wc.grownBy w49 (some go46) := (by rw [hw]; exact HP48.2); have hp_ : Kd.R Kd.bool 4 w49 w.heap.size (fun k_ => some k_ ≠ (.slice (some ad207) x5_2.length co47 : Value).ownBlock) (.slice (some ⟨go46, 0, none⟩) x7_3.length co46) y208 := (by rw [hw, Ny208.out]; exact HP48.1); clear HP48; have n0_ := Aside0.mk (Kd.R_after (v := (.slice (some ⟨go46, 0, none⟩) x7_3.length co46)) (v1 := (.slice (some ⟨go46, 0, none⟩) x7_3.length co46)) (ok := (fun _ => True)) (by (with_reducible repeat (first | apply Kd.R_alloc | apply Kd.R_drewN | apply Kd.R_drew)); exact Kd.R_mono HO_5.out (fun _ hk => ⟨trivial, hk⟩)) hg (.inl rfl)); have n1_ := Aside0.mk (hp_); have n2_ := Aside0.mk ((by rw [hw]; exact below_set (HB.out) GB46.out : Below w.heap.size w w49)); clear HO_5; clear HO_7; clear HB; have HO_5 := n0_; have HO_7 := n1_; have HB := n2_; clear n0_ n1_ n2_; clear hg hw hp_)); try go_wp2_with (first | ((with_reducible refine gate_store (t := 4) (p := 83) rfl ?_); (try (rw [drewN_self wc]; generalize hq_ : World.drewN wc _ = wc; have n0_ := Aside0.mk (Kd.R_at hq_ HO_5.out); have n1_ := Aside0.mk (Kd.R_at hq_ HO_7.out); have n2_ := Aside0.mk (below_at hq_ HB.out); clear hq_ HO_5 HO_7 HB; have HO_5 := n0_; have HO_7 := n1_; have HB := n2_; clear n0_ n1_ n2_; (try (have HP48 := Kd.R_putg HO_7.out ((ji43) : Int) true)); (try (have z_ := Kd.R_celln false HO_7.out ((ji43) : Int) (of_eq_true p46) (of_eq_true q46); clear hx46_0 hf46_0; have hx46_0 := z_.1; have hf46_0 := z_.2; clear z_)))); refine store_event (t := 4) (p := 83) (v := ?vo_w49) (w1 := (wc.setCell ⟨go46, ((ji43) : Int).toNat, none⟩ (.bool true))) ?hg ?ho ?hn ?hr ?_; (case ho => rfl); (case hg => rfl); (case hn => rfl); (case hr => first | (go_simp; done) | (go_simp; rfl)); intro w49 hw; have hg : wc.grownBy w49 (some go46) := (by rw [hw]; exact HP48.2); have hp_ : Kd.R Kd.bool 4 w49 w.heap.size (fun k_ => some k_ ≠ (.slice (some ad207) x5_2.length co47 : Value).ownBlock) (.slice (some ⟨go46, 0, none⟩) x7_3.length co46) y208 := (by rw [hw, Ny208.out]; exact HP48.1); clear HP48; have n0_ := Aside0.mk (Kd.R_after (v := (.slice (some ⟨go46, 0, none⟩) x7_3.length co46)) (v1 := (.slice (some ⟨go46, 0, none⟩) x7_3.length co46)) (ok := (fun _ => True)) (by (with_reducible repeat (first | apply Kd.R_alloc | apply Kd.R_drewN | apply Kd.R_drew)); exact Kd.R_mono HO_5.out (fun _ hk => ⟨trivial, hk⟩)) hg (.inl rfl)); have n1_ := Aside0.mk (hp_); have n2_ := Aside0.mk ((by rw [hw]; exact below_set (HB.out) GB46.out : Below w.heap.size w w49)); clear HO_5; clear HO_7; clear HB; have HO_5 := n0_; have HO_7 := n1_; have HB := n2_; clear n0_ n1_ n2_; clear hg hw hp_)))
                           go_roundg kj21
                           case measure => have := HJ2.out; have := HK2.out; have := HK3.out; have := HJ21.out; omega
                           case rel => exact ⟨(y208), (x8_21), (ji43), (by first | rfl | (simp; done) | (simp [*]; done)), (by first | rfl | (simp; done) | (simp only [← hji43] <;> (first | rfl | simp)) | (simp [*]; done)), H', ⟨by have := HJ2.out; have := HK2.out; have := HK3.out; have := HJ21.out; omega⟩, ⟨by (with_reducible repeat (first | apply Kd.R_alloc | apply Kd.R_drewN | apply Kd.R_drew)); exact Kd.R_mono HO_5.out (fun _ hk => hk.2)⟩, ⟨by first | exact Grow.rg HO_7.out | exact HO_7.out⟩, ⟨by first | exact Grow.bl HB.out | exact HB.out⟩⟩
                          ·
                           rw [if_neg c45] at H
                           exact absurd H (by simp)
                         ·
                          rw [if_neg c44] at H
                          exact absurd H (by simp)
                        ·
                         rw [if_neg c42] at H
                         have c42b0 : ((bt a0 x6_2) == 63) = false := beq_eq_false_iff_ne.mpr c42
                         have c42b1 : ((bt a0 x6_2) != 63) = true := bne_iff_ne.mpr c42
                         by_cases c52 : (bt a0 x6_2) = (bt a1 x9_3)
                         ·
                          rw [if_pos c52] at H
                          have c52b0 : ((bt a0 x6_2) == (bt a1 x9_3)) = true := beq_iff_eq.mpr c52
                          have c52b1 : ((bt a0 x6_2) != (bt a1 x9_3)) = false := bne_eq_false_iff_eq.mpr c52
                          clear c52
                          try clear hji43w
                          try clear hji43
                          obtain ⟨ji53, hji53⟩ : ∃ j_ : Int, (wrap64 (x9_3 + 1)) = j_ := ⟨_, rfl⟩
                          replace H : (if 0 ≤ (ji53) then (if (ji53) < (x7_3.length : Int) then (spec_GlobFits.l1 kj21 a0 a1 x5_2 x6_2 (x7_3.set ((ji53) : Int).toNat true) x8_21 ji53) else (none)) else (none)) = some r := by first | (rw [hji53] at H; exact H) | (simp only [hji53] at H ⊢; exact H)
                          have hji53w : (IntKind.i64.wrap (x9_3 + 1)) = ji53 := (i64_w _).trans hji53
                          by_cases c54 : 0 ≤ (ji53)
                          ·
                           rw [if_pos c54] at H
                           have c54b0 : decide (0 ≤ (ji53)) = true := decide_eq_true c54
                           clear c54
                           by_cases c55 : (ji53) < (x7_3.length : Int)
                           ·
                            rw [if_pos c55] at H
                            have c55b0 : decide ((ji53) < (x7_3.length : Int)) = true := decide_eq_true c55
                            clear c55
                            obtain ⟨y209, hy209⟩ : ∃ y_ : List Bool, y_ = (x7_3.set ((ji53) : Int).toNat true) := ⟨_, rfl⟩
                            replace H : (spec_GlobFits.l1 kj21 a0 a1 x5_2 x6_2 y209 x8_21 ji53) = some r := by first | (rw [hy209]; with_reducible exact H) | (have H2_ := (Option.bind_some _ _).symm.trans H; rw [hy209]; with_reducible exact H2_) | (have H2_ := (Option.bind_some _ _).symm.trans H; with_reducible exact H2_) | with_reducible exact H | (rw [hy209]; exact H) | exact H
                            have Ny209 := Aside0.mk hy209
                            clear hy209
                            have H' := Aside0.mk H
                            clear H
                            have p29 : 0 ≤ (x6_2 : Int) := of_decide_eq_true (by first | (with_reducible assumption) | assumption)
                            have q29 : x6_2 < (a0.size : Int) := of_decide_eq_true (by first | (with_reducible assumption) | assumption)
                            have hx29 := bt_at a0 x6_2
                            replace p29 := eq_true p29
                            replace q29 := eq_true q29
                            obtain ⟨Ao57, co57, eo57⟩ := Kd.R_slice HO_5.out
                            subst eo57
                            have p207 : 0 ≤ (x9_3 : Int) := of_decide_eq_true (by first | (with_reducible assumption) | assumption)
                            have q207 : x9_3 < (x5_2.length : Int) := of_decide_eq_true (by first | (with_reducible assumption) | assumption)
                            obtain ⟨ad207, e207, hx207_0⟩ := Kd.at_bool (Kd.R_reads' HO_5.out).2.2 x9_3 p207 q207
                            (try rw [← Nbq39.out] at hx207_0)
                            cases e207
                            replace p207 := eq_true p207
                            replace q207 := eq_true q207
                            have p41 : 0 ≤ (x6_2 : Int) := of_decide_eq_true (by first | (with_reducible assumption) | assumption)
                            have q41 : x6_2 < (a0.size : Int) := of_decide_eq_true (by first | (with_reducible assumption) | assumption)
                            have hx41 := bt_at a0 x6_2
                            replace p41 := eq_true p41
                            replace q41 := eq_true q41
                            have p50 : 0 ≤ (x6_2 : Int) := of_decide_eq_true (by first | (with_reducible assumption) | assumption)
                            have q50 : x6_2 < (a0.size : Int) := of_decide_eq_true (by first | (with_reducible assumption) | assumption)
                            have hx50 := bt_at a0 x6_2
                            replace p50 := eq_true p50
                            replace q50 := eq_true q50
                            have p51 : 0 ≤ (x9_3 : Int) := of_decide_eq_true (by first | (with_reducible assumption) | assumption)
                            have q51 : x9_3 < (a1.size : Int) := of_decide_eq_true (by first | (with_reducible assumption) | assumption)
                            have hx51 := bt_at a1 x9_3
                            replace p51 := eq_true p51
                            replace q51 := eq_true q51
                            have p56 : 0 ≤ ((ji53) : Int) := of_decide_eq_true (by first | (with_reducible assumption) | assumption)
                            have q56 : ((ji53) : Int) < ((x7_3.length : Int) : Int) := of_decide_eq_true (by first | (with_reducible assumption) | assumption)
                            obtain ⟨go56, co56, eo56, gb56, gl56, cl56, HG56⟩ := Kd.R_form HO_7.out (by omega)
                            (first | cases eo56 | (injection eo56 with ea_ en_ ec_; (first | subst ea_ | (injection ea_ with ea_; subst ea_)); subst ec_; clear en_))
                            have GB56 := Aside0.mk gb56
                            have GG56 := Aside0.mk HG56
                            clear gb56 gl56 HG56
                            obtain ⟨hx56_0, hf56_0⟩ := Kd.R_celln false HO_7.out ((ji53) : Int) p56 q56
                            replace p56 := eq_true p56
                            replace q56 := eq_true q56
                            have HP58 := Kd.R_putg HO_7.out ((ji53) : Int) true
                            go_wp2_with (first | ((with_reducible refine gate_store (t := 4) (p := 83) rfl ?_); (try (rw [drewN_self wc]; generalize hq_ : World.drewN wc _ = wc; have n0_ := Aside0.mk (Kd.R_at hq_ HO_5.out); have n1_ := Aside0.mk (Kd.R_at hq_ HO_7.out); have n2_ := Aside0.mk (below_at hq_ HB.out); clear hq_ HO_5 HO_7 HB; have HO_5 := n0_; have HO_7 := n1_; have HB := n2_; clear n0_ n1_ n2_; (try (have HP58 := Kd.R_putg HO_7.out ((ji53) : Int) true)); (try (have z_ := Kd.R_celln false HO_7.out ((ji53) : Int) (of_eq_true p56) (of_eq_true q56); clear hx56_0 hf56_0; have hx56_0 := z_.1; have hf56_0 := z_.2; clear z_)))); refine store_event (t := 4) (p := 83) (v := ?vo_w59) (w1 := (wc.setCell ⟨go56, ((ji53) : Int).toNat, none⟩ (.bool true))) ?hg ?ho ?hn ?hr ?_; (case ho => rfl); (case hg => rfl); (case hn => rfl); (case hr => first | (go_simp; done) | (go_simp; rfl)); intro w59 hw; have hg : wc.grownBy w59 (some go56) := (by rw [hw]; exact HP58.2); have hp_ : Kd.R Kd.bool 4 w59 w.heap.size (fun k_ => some k_ ≠ (.slice (some ad207) x5_2.length co57 : Value).ownBlock) (.slice (some ⟨go56, 0, none⟩) x7_3.length co56) y209 := (by rw [hw, Ny209.out]; exact HP58.1); clear HP58; have n0_ := Aside0.mk (Kd.R_after (v := (.slice (some ⟨go56, 0, none⟩) x7_3.length co56)) (v1 := (.slice (some ⟨go56, 0, none⟩) x7_3.length co56)) (ok := (fun _ => True)) (by (with_reducible repeat (first | apply Kd.R_alloc | apply Kd.R_drewN | apply Kd.R_drew)); exact Kd.R_mono HO_5.out (fun _ hk => ⟨trivial, hk⟩)) hg (.inl rfl)); have n1_ := Aside0.mk (hp_); have n2_ := Aside0.mk ((by rw [hw]; exact below_set (HB.out) GB56.out : Below w.heap.size w w59)); clear HO_5; clear HO_7; clear HB; have HO_5 := n0_; have HO_7 := n1_; have HB := n2_; clear n0_ n1_ n2_; clear hg hw hp_))
                            repeat (go_quiet (first | ((with_reducible refine gate_store (t := 4) (p := 83) rfl ?_); (try (rw [drewN_self wc]; generalize hq_ : World.drewN wc _ = wc; have n0_ := Aside0.mk (Kd.R_at hq_ HO_5.out); have n1_ := Aside0.mk (Kd.R_at hq_ HO_7.out); have n2_ := Aside0.mk (below_at hq_ HB.out); clear hq_ HO_5 HO_7 HB; have HO_5 := n0_; have HO_7 := n1_; have HB := n2_; clear n0_ n1_ n2_; (try (have HP58 := Kd.R_putg HO_7.out ((ji53) : Int) true)); (try (have z_ := Kd.R_celln false HO_7.out ((ji53) : Int) (of_eq_true p56) (of_eq_true q56); clear hx56_0 hf56_0; have hx56_0 := z_.1; have hf56_0 := z_.2; clear z_)))); refine store_event (t := 4) (p := 83) (v := ?vo_w59) (w1 := (wc.setCell ⟨go56, ((ji53) : Int).toNat, none⟩ (.bool true))) ?hg ?ho ?hn ?hr ?_; (case ho => rfl); (case hg => rfl); (case hn => rfl); (case hr => first | (go_simp; done) | (go_simp; rfl)); intro w59 hw; have hg : wc.grownBy w59 (some go56) := (by rw [hw]; exact HP58.2); have hp_ : Kd.R Kd.bool 4 w59 w.heap.size (fun k_ => some k_ ≠ (.slice (some ad207) x5_2.length co57 : Value).ownBlock) (.slice (some ⟨go56, 0, none⟩) x7_3.length co56) y209 := (by rw [hw, Ny209.out]; exact HP58.1); clear HP58; have n0_ := Aside0.mk (Kd.R_after (v := (.slice (some ⟨go56, 0, none⟩) x7_3.length co56)) (v1 := (.slice (some ⟨go56, 0, none⟩) x7_3.length co56)) (ok := (fun _ => True)) (by (with_reducible repeat (first | apply Kd.R_alloc | apply Kd.R_drewN | apply Kd.R_drew)); exact Kd.R_mono HO_5.out (fun _ hk => ⟨trivial, hk⟩)) hg (.inl rfl)); have n1_ := Aside0.mk (hp_); have n2_ := Aside0.mk ((by rw [hw]; exact below_set (HB.out) GB56.out : Below w.heap.size w w59)); clear HO_5; clear HO_7; clear HB; have HO_5 := n0_; have HO_7 := n1_; have HB := n2_; clear n0_ n1_ n2_; clear hg hw hp_)); try go_wp2_with (first | ((with_reducible refine gate_store (t := 4) (p := 83) rfl ?_); (try (rw [drewN_self wc]; generalize hq_ : World.drewN wc _ = wc; have n0_ := Aside0.mk (Kd.R_at hq_ HO_5.out); have n1_ := Aside0.mk (Kd.R_at hq_ HO_7.out); have n2_ := Aside0.mk (below_at hq_ HB.out); clear hq_ HO_5 HO_7 HB; have HO_5 := n0_; have HO_7 := n1_; have HB := n2_; clear n0_ n1_ n2_; (try (have HP58 := Kd.R_putg HO_7.out ((ji53) : Int) true)); (try (have z_ := Kd.R_celln false HO_7.out ((ji53) : Int) (of_eq_true p56) (of_eq_true q56); clear hx56_0 hf56_0; have hx56_0 := z_.1; have hf56_0 := z_.2; clear z_)))); refine store_event (t := 4) (p := 83) (v := ?vo_w59) (w1 := (wc.setCell ⟨go56, ((ji53) : Int).toNat, none⟩ (.bool true))) ?hg ?ho ?hn ?hr ?_; (case ho => rfl); (case hg => rfl); (case hn => rfl); (case hr => first | (go_simp; done) | (go_simp; rfl)); intro w59 hw; have hg : wc.grownBy w59 (some go56) := (by rw [hw]; exact HP58.2); have hp_ : Kd.R Kd.bool 4 w59 w.heap.size (fun k_ => some k_ ≠ (.slice (some ad207) x5_2.length co57 : Value).ownBlock) (.slice (some ⟨go56, 0, none⟩) x7_3.length co56) y209 := (by rw [hw, Ny209.out]; exact HP58.1); clear HP58; have n0_ := Aside0.mk (Kd.R_after (v := (.slice (some ⟨go56, 0, none⟩) x7_3.length co56)) (v1 := (.slice (some ⟨go56, 0, none⟩) x7_3.length co56)) (ok := (fun _ => True)) (by (with_reducible repeat (first | apply Kd.R_alloc | apply Kd.R_drewN | apply Kd.R_drew)); exact Kd.R_mono HO_5.out (fun _ hk => ⟨trivial, hk⟩)) hg (.inl rfl)); have n1_ := Aside0.mk (hp_); have n2_ := Aside0.mk ((by rw [hw]; exact below_set (HB.out) GB56.out : Below w.heap.size w w59)); clear HO_5; clear HO_7; clear HB; have HO_5 := n0_; have HO_7 := n1_; have HB := n2_; clear n0_ n1_ n2_; clear hg hw hp_)))
                            go_roundg kj21
                            case measure => have := HJ2.out; have := HK2.out; have := HK3.out; have := HJ21.out; omega
                            case rel => exact ⟨(y209), (x8_21), (ji53), (by first | rfl | (simp; done) | (simp [*]; done)), (by first | rfl | (simp; done) | (simp only [← hji53] <;> (first | rfl | simp)) | (simp [*]; done)), H', ⟨by have := HJ2.out; have := HK2.out; have := HK3.out; have := HJ21.out; omega⟩, ⟨by (with_reducible repeat (first | apply Kd.R_alloc | apply Kd.R_drewN | apply Kd.R_drew)); exact Kd.R_mono HO_5.out (fun _ hk => hk.2)⟩, ⟨by first | exact Grow.rg HO_7.out | exact HO_7.out⟩, ⟨by first | exact Grow.bl HB.out | exact HB.out⟩⟩
                           ·
                            rw [if_neg c55] at H
                            exact absurd H (by simp)
                          ·
                           rw [if_neg c54] at H
                           exact absurd H (by simp)
                         ·
                          rw [if_neg c52] at H
                          have c52b0 : ((bt a0 x6_2) == (bt a1 x9_3)) = false := beq_eq_false_iff_ne.mpr c52
                          have c52b1 : ((bt a0 x6_2) != (bt a1 x9_3)) = true := bne_iff_ne.mpr c52
                          have H' := Aside0.mk H
                          clear H
                          have p29 : 0 ≤ (x6_2 : Int) := of_decide_eq_true (by first | (with_reducible assumption) | assumption)
                          have q29 : x6_2 < (a0.size : Int) := of_decide_eq_true (by first | (with_reducible assumption) | assumption)
                          have hx29 := bt_at a0 x6_2
                          replace p29 := eq_true p29
                          replace q29 := eq_true q29
                          obtain ⟨Ao60, co60, eo60⟩ := Kd.R_slice HO_5.out
                          subst eo60
                          have p207 : 0 ≤ (x9_3 : Int) := of_decide_eq_true (by first | (with_reducible assumption) | assumption)
                          have q207 : x9_3 < (x5_2.length : Int) := of_decide_eq_true (by first | (with_reducible assumption) | assumption)
                          obtain ⟨ad207, e207, hx207_0⟩ := Kd.at_bool (Kd.R_reads' HO_5.out).2.2 x9_3 p207 q207
                          (try rw [← Nbq39.out] at hx207_0)
                          cases e207
                          replace p207 := eq_true p207
                          replace q207 := eq_true q207
                          have p41 : 0 ≤ (x6_2 : Int) := of_decide_eq_true (by first | (with_reducible assumption) | assumption)
                          have q41 : x6_2 < (a0.size : Int) := of_decide_eq_true (by first | (with_reducible assumption) | assumption)
                          have hx41 := bt_at a0 x6_2
                          replace p41 := eq_true p41
                          replace q41 := eq_true q41
                          have p50 : 0 ≤ (x6_2 : Int) := of_decide_eq_true (by first | (with_reducible assumption) | assumption)
                          have q50 : x6_2 < (a0.size : Int) := of_decide_eq_true (by first | (with_reducible assumption) | assumption)
                          have hx50 := bt_at a0 x6_2
                          replace p50 := eq_true p50
                          replace q50 := eq_true q50
                          have p51 : 0 ≤ (x9_3 : Int) := of_decide_eq_true (by first | (with_reducible assumption) | assumption)
                          have q51 : x9_3 < (a1.size : Int) := of_decide_eq_true (by first | (with_reducible assumption) | assumption)
                          have hx51 := bt_at a1 x9_3
                          replace p51 := eq_true p51
                          replace q51 := eq_true q51
                          go_wp2
                          repeat (go_quiet (fail); try go_wp2)
                          go_roundg kj21
                          case measure => have := HJ2.out; have := HK2.out; have := HK3.out; have := HJ21.out; omega
                          case rel => exact ⟨(x7_3), (x8_21), (wrap64 (x9_3 + 1)), (by first | rfl | (simp; done) | (simp [*]; done)), (by first | rfl | (simp; done) | (simp [*]; done)), H', ⟨by have := HJ2.out; have := HK2.out; have := HK3.out; have := HJ21.out; omega⟩, ⟨by first | exact Grow.rg HO_5.out | exact HO_5.out⟩, ⟨by first | exact Grow.rg HO_7.out | exact HO_7.out⟩, ⟨by first | exact Grow.bl HB.out | exact HB.out⟩⟩
                       ·
                        replace c40 := Bool.eq_false_iff.mpr c40
                        subst c40
                        have H1 : (spec_GlobFits.l1 kj21 a0 a1 x5_2 x6_2 x7_3 x8_21 (wrap64 (x9_3 + 1))) = some r := by rw [if_neg (show ¬ (false = true) by decide)] at H; exact H
                        clear H
                        have H := H1
                        clear H1
                        have H' := Aside0.mk H
                        clear H
                        have p29 : 0 ≤ (x6_2 : Int) := of_decide_eq_true (by first | (with_reducible assumption) | assumption)
                        have q29 : x6_2 < (a0.size : Int) := of_decide_eq_true (by first | (with_reducible assumption) | assumption)
                        have hx29 := bt_at a0 x6_2
                        replace p29 := eq_true p29
                        replace q29 := eq_true q29
                        obtain ⟨Ao61, co61, eo61⟩ := Kd.R_slice HO_5.out
                        subst eo61
                        have p207 : 0 ≤ (x9_3 : Int) := of_decide_eq_true (by first | (with_reducible assumption) | assumption)
                        have q207 : x9_3 < (x5_2.length : Int) := of_decide_eq_true (by first | (with_reducible assumption) | assumption)
                        obtain ⟨ad207, e207, hx207_0⟩ := Kd.at_bool (Kd.R_reads' HO_5.out).2.2 x9_3 p207 q207
                        (try rw [← Nbq39.out] at hx207_0)
                        cases e207
                        replace p207 := eq_true p207
                        replace q207 := eq_true q207
                        go_wp2
                        repeat (go_quiet (fail); try go_wp2)
                        go_roundg kj21
                        case measure => have := HJ2.out; have := HK2.out; have := HK3.out; have := HJ21.out; omega
                        case rel => exact ⟨(x7_3), (x8_21), (wrap64 (x9_3 + 1)), (by first | rfl | (simp; done) | (simp [*]; done)), (by first | rfl | (simp; done) | (simp [*]; done)), H', ⟨by have := HJ2.out; have := HK2.out; have := HK3.out; have := HJ21.out; omega⟩, ⟨by first | exact Grow.rg HO_5.out | exact HO_5.out⟩, ⟨by first | exact Grow.rg HO_7.out | exact HO_7.out⟩, ⟨by first | exact Grow.bl HB.out | exact HB.out⟩⟩
                      ·
                       rw [if_neg c38] at H
                       exact absurd H (by simp)
                     ·
                      rw [if_neg c37] at H
                      exact absurd H (by simp)
                    ·
                     rw [if_neg c36] at H
                     have c36b0 : decide (x9_3 < (a1.size : Int)) = false := decide_eq_false c36
                     clear c36
                     have H' := Aside0.mk H
                     clear H
                     have p29 : 0 ≤ (x6_2 : Int) := of_decide_eq_true (by first | (with_reducible assumption) | assumption)
                     have q29 : x6_2 < (a0.size : Int) := of_decide_eq_true (by first | (with_reducible assumption) | assumption)
                     have hx29 := bt_at a0 x6_2
                     replace p29 := eq_true p29
                     replace q29 := eq_true q29
                     go_wp2
                     repeat (go_quiet (fail); try go_wp2)
                     go_roundg kj21
                     case measure => have := HJ2.out; have := HK2.out; have := HK3.out; have := HJ21.out; omega
                     case rel => exact ⟨(x7_3), (x8_21), (wrap64 (x9_3 + 1)), (by first | rfl | (simp; done) | (simp [*]; done)), (by first | rfl | (simp; done) | (simp [*]; done)), H', ⟨by have := HJ2.out; have := HK2.out; have := HK3.out; have := HJ21.out; omega⟩, ⟨by first | exact Grow.rg HO_5.out | exact HO_5.out⟩, ⟨by first | exact Grow.rg HO_7.out | exact HO_7.out⟩, ⟨by first | exact Grow.bl HB.out | exact HB.out⟩⟩
                  ·
                   rw [if_neg c28] at H
                   exact absurd H (by simp)
                 ·
                  rw [if_neg c27] at H
                  exact absurd H (by simp)
              ·
               rw [if_neg c21] at H
               have c21b0 : decide (x9_3 ≤ (a1.size : Int)) = false := decide_eq_false c21
               clear c21
               have H' := Aside0.mk H
               clear H
               go_wp2
               repeat (go_quiet (fail); try go_wp2)
               go_roundg k3
               case measure => have := HJ2.out; have := HK2.out; have := HK3.out; omega
               case rel => exact ⟨(x7_3), (wrap64 (x6_2 + 1)), (by first | rfl | (simp; done) | (simp [*]; done)), H', ⟨by have := HJ2.out; have := HK2.out; have := HK3.out; omega⟩, ⟨by (with_reducible repeat (first | apply Kd.R_alloc | apply Kd.R_drewN | apply Kd.R_drew)); exact Kd.R_mono HO_7.out (fun _ hk => trivial)⟩, ⟨by first | exact Grow.bl HB.out | exact HB.out⟩⟩
           ·
            rw [if_neg c18] at H
            exact absurd H (by simp)
          ·
           rw [if_neg c17] at H
           exact absurd H (by simp)
         ·
          rw [if_neg c15] at H
          have c15b0 : decide (x6_2 < (a0.size : Int)) = false := decide_eq_false c15
          clear c15
          by_cases c62 : 0 ≤ (a1.size : Int)
          ·
           rw [if_pos c62] at H
           have c62b0 : decide (0 ≤ (a1.size : Int)) = true := decide_eq_true c62
           have c62b1 : decide (0 ≤ a1.size) = true := decide_eq_true (by omega)
           clear c62
           by_cases c63 : (a1.size : Int) < (x5_2.length : Int)
           ·
            rw [if_pos c63] at H
            have c63b0 : decide ((a1.size : Int) < (x5_2.length : Int)) = true := decide_eq_true c63
            have c63b1 : decide (a1.size < x5_2.length) = true := decide_eq_true (Int.ofNat_lt.mp c63)
            clear c63
            obtain rfl := Option.some.inj H
            obtain ⟨Ao64, co64, eo64⟩ := Kd.R_slice HO_5.out
            subst eo64
            have p201 : 0 ≤ ((a1.size : Int) : Int) := of_decide_eq_true (by first | (with_reducible assumption) | assumption)
            have q201 : (a1.size : Int) < (x5_2.length : Int) := of_decide_eq_true (by first | (with_reducible assumption) | assumption)
            obtain ⟨ad201, e201, hx201_0⟩ := Kd.at_bool (Kd.R_reads' HO_5.out).2.2 (a1.size : Int) p201 q201
            have hx201_0z := hx201_0
            try simp only [Int.toNat_natCast] at hx201_0z
            cases e201
            replace p201 := eq_true p201
            replace q201 := eq_true q201
            go_wp2
            repeat (go_quiet (fail); try go_wp2)
            go_ret
            exact ⟨by first | rfl | (simp [errW_none, errW_some] <;> rfl) | (simp only [← hji6]; first | rfl | (simp [errW_none, errW_some] <;> rfl)) | (simp [*, errW_none, errW_some] <;> rfl), by first | exact Grow.bl HB.out | exact HB.out⟩
           ·
            rw [if_neg c63] at H
            exact absurd H (by simp)
          ·
           rw [if_neg c62] at H
           exact absurd H (by simp)
      ·
       rw [if_neg c9] at H
       exact absurd H (by simp)
     ·
      rw [if_neg c8] at H
      exact absurd H (by simp)
    ·
     rw [if_neg c7] at H
     exact absurd H (by simp)
end Go.Proofs.Ytflpkbegdmihdaa.QFnExactJudge
