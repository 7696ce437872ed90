-- A text of this session, printed by a program of its own (wip/tools: xpatch.py, xprint.sh, mkq.py). No condition.
import Derived.Test.YtjjccaepbfijeaaQFnExactMergeRunsx0
import Derived.Test.YtjjccaepbfijeaaQFnExactMergeRunsx1
namespace Go.Proofs.Ytjjccaepbfijeaa.QFnExactMergeRuns
open Go.RowKit Go.Proofs.YtjjccaepbfijeaaW.PrintWords Go.Proofs.YtjjccaepbfijeaaW.PrintLast Go.Proofs.YtjjccaepbfijeaaW.PrintMore
attribute [local go_sem] max2_int min2_int max_two min_two max_three min_three max_four min_four   -- for this text's walks alone
set_option linter.unusedVariables false
set_option linter.unusedSimpArgs false
/-! ### spec_l08Sort: function 25 -/
mutual
def spec_l08Sort.l0 : Nat → List (S43) → List (S43) → Int → Option ((List (S43)))
  | 0, _, _, _ => none
  | k + 1, x0, x3, x4 => if x4 < (x0.length : Int) then (spec_l08Sort.l1 k x0 x3 x4 (x3.length : Int)) else (some x3)
def spec_l08Sort.l1 : Nat → List (S43) → List (S43) → Int → Int → Option ((List (S43)))
  | 0, _, _, _, _ => none
  | k + 1, x0, x3, x4, x5 => if x5 > 0 then (if 0 ≤ x4 then (if x4 < (x0.length : Int) then (if 0 ≤ (wrap64 (x5 - 1)) then (if (wrap64 (x5 - 1)) < (x3.length : Int) then ((spec_l08Less.f ((rd_T43 x0 x4).f0) ((rd_T43 x0 x4).f1) ((rd_T43 x0 x4).f2) ((rd_T43 x0 x4).f3) ((rd_T43 x3 (wrap64 (x5 - 1))).f0) ((rd_T43 x3 (wrap64 (x5 - 1))).f1) ((rd_T43 x3 (wrap64 (x5 - 1))).f2) ((rd_T43 x3 (wrap64 (x5 - 1))).f3)).bind fun t133 => (spec_l08Sort.j2 k x0 x3 x4 x5 t133)) else (none)) else (none)) else (none)) else (none)) else (spec_l08Sort.j2 k x0 x3 x4 x5 false)
def spec_l08Sort.j2 : Nat → List (S43) → List (S43) → Int → Int → Bool → Option ((List (S43)))
  | 0, _, _, _, _, _ => none
  | k + 1, x0, x3, x4, x5, x29 => if x29 = true then (spec_l08Sort.l1 k x0 x3 x4 (wrap64 (x5 - 1))) else (if x3.length < 2932031007402 then ((some (x3 ++ [(⟨(⟨#[]⟩ : ByteArray), 0, false, (⟨#[]⟩ : ByteArray)⟩ : S43)] : List (S43))).bind fun y134 => (spec_l08Sort.l2 k x0 y134 x4 x5 (wrap64 ((y134.length : Int) - 1)))) else (none))
def spec_l08Sort.l2 : Nat → List (S43) → List (S43) → Int → Int → Int → Option ((List (S43)))
  | 0, _, _, _, _, _ => none
  | k + 1, x0, x3, x4, x5, x6 => if x6 > x5 then (if 0 ≤ (wrap64 (x6 - 1)) then (if (wrap64 (x6 - 1)) < (x3.length : Int) then (if 0 ≤ x6 then (if x6 < (x3.length : Int) then (spec_l08Sort.l2 k x0 (x3.set (x6 : Int).toNat (⟨(rd_T43 x3 (wrap64 (x6 - 1))).f0, (rd_T43 x3 (wrap64 (x6 - 1))).f1, (rd_T43 x3 (wrap64 (x6 - 1))).f2, (rd_T43 x3 (wrap64 (x6 - 1))).f3⟩ : S43)) x4 x5 (wrap64 (x6 - 1))) else (none)) else (none)) else (none)) else (none)) else (if 0 ≤ x4 then (if x4 < (x0.length : Int) then (if 0 ≤ x5 then (if x5 < (x3.length : Int) then (spec_l08Sort.l0 k x0 (x3.set (x5 : Int).toNat (⟨(rd_T43 x0 x4).f0, (rd_T43 x0 x4).f1, (rd_T43 x0 x4).f2, (rd_T43 x0 x4).f3⟩ : S43)) (wrap64 (x4 + 1))) else (none)) else (none)) else (none)) else (none))
end
def spec_l08Sort.f (k : Nat) (l0 : List (S43)) : Option ((List (S43))) := spec_l08Sort.l0 k l0 (([] : List (S43))) 0
def spec_l08Sort.T6 : Bool × List (List Nat × List Nat) := (true, [([], []), ([0], [0]), ([1], [1]), ([2], [2]), ([2], [2]), ([3, 4, 2], [2, 3, 4]), ([5, 2], [2, 5]), ([2], [2]), ([2], [2]), ([8, 2], [2, 8]), ([7, 9, 2], [2, 7, 9]), ([10, 2], [2, 10]), ([6, 11, 2, 2], [2, 6, 11]), ([2, 12], [2, 12])])
def spec_l08Sort.B6 : List Nat := [0, 1, 3, 7, 7, 31, 63, 7, 7, 263, 903, 1927, 4095, 8191]
theorem spec_l08Sort.tab6 : rtab .any (opsOf Try.f25 6) = spec_l08Sort.T6 := by kernel_rfl
theorem spec_l08Sort.bits6 : waitsOk spec_l08Sort.T6.2 spec_l08Sort.B6 = true := by kernel_rfl
set_option maxHeartbeats 8000000 in
set_option maxRecDepth 100000 in
theorem spec_l08Sort.calls (k : Nat) (A0 : Option Addr) (c0 : Nat) (l0 : List (S43)) (r : List (S43)) (w : World) (hr0 : Kd.C k43 w A0 l0.length l0) (hc0 : l0.length ≤ c0) (h : spec_l08Sort.f k l0 = some r) :
  Calls Try.prog 25 #[.slice A0 l0.length c0] w fun e w' => ∃ v0_ : Value, e = .returned (v0_) ∧ Kd.R k43 43 w' w.heap.size (fun _ => True) v0_ r ∧ Below w.heap.size w w' := by
 have hu43 := Try.underlying43
 have HR0 := Aside0.mk hr0
 have HC0 := Aside0.mk hc0
 clear hr0 hc0
 have HB := Aside0.mk (Below.refl w.heap.size w)
 have H : (spec_l08Sort.l0 k l0 (([] : List (S43))) 0) = some r := h
 clear h
 obtain ⟨y128, hy128⟩ : ∃ y_ : List (S43), y_ = (([] : List (S43))) := ⟨_, rfl⟩
 replace H : (spec_l08Sort.l0 k l0 y128 0) = some r := by first | (rw [hy128]; with_reducible exact H) | (have H2_ := (Option.bind_some _ _).symm.trans H; rw [hy128]; with_reducible exact H2_) | (have H2_ := (Option.bind_some _ _).symm.trans H; with_reducible exact H2_) | with_reducible exact H | (rw [hy128]; exact H) | exact H
 have Ny128 := Aside0.mk hy128
 clear hy128
 have H' := Aside0.mk H
 clear H
 go_enter Try.func25, Try.ntmps25
 go_wp2_with (first | ((with_reducible refine gate_dst (N := 7) rfl ?_); refine Kd.R_lit k43 _ 43 ?hg (N := 7) ?hd (xs := ([] : List (S43))) (inner := []) (ok := fun _ => True) (okp := fun _ => True) ?hr ?hp (fun _ hk => hk) trivial (Below.refl _ _) (Nat.le_refl _) (by simp) ?_; (case hd => rfl); (case hg => rfl); (case hr => first | (go_simp; done) | (go_simp; rfl)); (case hp => exact (Reps.none _ _)); intro v129 w2 ho3 hb hg_ hnew_; clear hg_ hnew_; (first | rw [← Ny128.out] at ho3 | (simp only [Int.reduceToNat] at ho3; rw [← Ny128.out] at ho3)); have n0_ := Aside0.mk (Kd.R_lower ho3 (below_size (by first | exact Grow.bl HB.out | exact HB.out))); have n1_ := Aside0.mk (below_step (by first | exact Grow.bl HB.out | exact HB.out) hb); clear HB; have HO130 := n0_; have HB := n1_; clear n0_ n1_; clear hb ho3))
 go_loopg [3, 4] k (fun kq v3 v4 w' => ∃ (x3_1 : List (S43)) (x4_1 : Int), v4 = .int .i64 x4_1 ∧ Aside0 (spec_l08Sort.l0 kq l0 x3_1 x4_1 = some r) ∧ Aside0 (kq ≤ k) ∧ Aside0 (Kd.R k43 43 w' w.heap.size (fun _ => True) v3 x3_1) ∧ Aside0 (Below w.heap.size w w'))
 case atStart => exact ⟨(y128), (0), (by first | rfl | (simp; done) | (simp [*]; done)), H', ⟨Nat.le_refl _⟩, ⟨by first | exact Grow.rg HO130.out | exact HO130.out⟩, ⟨by first | exact Grow.bl HB.out | exact HB.out⟩⟩
 case round =>
  clear H'
  try clear c2
  try clear p2
  obtain ⟨x3_1, x4_1, rfl, HA, HK1, HO_3, HB⟩ := hrel
  cases gk with
  | zero => exact absurd HA.out (by simp [spec_l08Sort.l0])
  | succ k1 =>
   have H := HA.out
   clear HA
   simp only [spec_l08Sort.l0] at H
   by_cases c4 : x4_1 < (l0.length : Int)
   rotate_left
   ·
    rw [if_neg c4] at H
    have c4b0 : decide (x4_1 < (l0.length : Int)) = false := decide_eq_false c4
    clear c4
    obtain rfl := Option.some.inj H
    go_wp2
    go_ret
    exact ⟨_, by first | rfl | (simp [errW_none, errW_some] <;> rfl) | (simp [*, errW_none, errW_some] <;> rfl), by (with_reducible repeat (first | apply Kd.R_alloc | apply Kd.R_drewN | apply Kd.R_drew)); exact HO_3.out, by first | exact Grow.bl HB.out | exact HB.out⟩
   rw [if_pos c4] at H
   have c4b0 : decide (x4_1 < (l0.length : Int)) = true := decide_eq_true c4
   clear c4
   have H' := Aside0.mk H
   clear H
   obtain ⟨Ao5, co5, eo5⟩ := Kd.R_slice HO_3.out
   subst eo5
   go_wp2
   go_loopg [5] k1 (fun kq v5 w' => ∃ (x5_2 : Int), v5 = .int .i64 x5_2 ∧ Aside0 (spec_l08Sort.l1 kq l0 x3_1 x4_1 x5_2 = some r) ∧ Aside0 (kq ≤ k1) ∧ Aside0 (Kd.R k43 43 w' w.heap.size (fun _ => True) (.slice Ao5 x3_1.length co5) x3_1) ∧ Aside0 (Below w.heap.size w w'))
   case atStart => exact ⟨((x3_1.length : Int)), (by first | rfl | (simp; done) | (simp [*]; done)), H', ⟨Nat.le_refl _⟩, ⟨by first | exact Grow.rg HO_3.out | exact HO_3.out⟩, ⟨by first | exact Grow.bl HB.out | exact HB.out⟩⟩
   case round =>
    clear H'
    try clear c2
    try clear p2
    try clear c4
    try clear c4b0
    try clear p2
    obtain ⟨x5_2, rfl, HA, HK2, HO_3, HB⟩ := hrel
    cases gk with
    | zero => exact absurd HA.out (by simp [spec_l08Sort.l1])
    | succ k2 =>
     have H := HA.out
     clear HA
     simp only [spec_l08Sort.l1] at H
     have HC6 := Aside0.mk H
     clear H
     go_upto_region 6 with (fail)
     go_cut [29] (fun v29 wc => ∃ (kq : Nat) (x29_5 : Bool), v29 = .bool x29_5 ∧ Aside0 (spec_l08Sort.j2 kq l0 x3_1 x4_1 x5_2 x29_5 = some r) ∧ Aside0 (kq ≤ k2) ∧ Aside0 (Kd.R k43 43 wc w.heap.size (fun _ => True) (.slice Ao5 x3_1.length co5) x3_1) ∧ Aside0 (Below w.heap.size w wc))
     case first =>
      have H := HC6.out
      clear HC6
      by_cases c7 : x5_2 > 0
      rotate_left
      ·
       rw [if_neg c7] at H
       have c7b0 : decide (0 < x5_2) = false := decide_eq_false c7
       clear c7
       (first | rw [c7b0] | (simp only [i64_w, i32_w]; rw [c7b0]) | skip)
       have H' := Aside0.mk H
       clear H
       try go_wp2
       have n0_ := Aside0.mk (Kd.R_drew HO_3.out)
       have n1_ := Aside0.mk (below_drew1 HB.out)
       clear HO_3
       clear HB
       have HO_3 := n0_
       have HB := n1_
       clear n0_ n1_
       refine start_ (n := 14) (S := fun w' => True) (ds := []) zf74 (by kernel_rfl) rfl rfl trivial (fun hHeld => ?_); refine with_tabW spec_l08Sort.tab6 spec_l08Sort.bits6 (fun HT_ HW_ => ?_)
       generalize wr.drew = w16 at HO_3 HB hHeld ⊢
       refine Cap.pu (v := ?_) (a' := ?_) 0 (some 16) zf75 HT_ rfl rfl (by kernel_rfl) (fun _ _ _ h => h) (Or.inl ⟨by rfl, ?_⟩) ?_ ?_; rotate_left; intro w'; go_simp; with_reducible rfl; rotate_left; simp only [Cap.pz]; rfl
       refine Cap.pu (v := ?_) (a' := ?_) 1 (some 17) zf76 HT_ rfl rfl (by kernel_rfl) (fun _ _ _ h => h) (Or.inl ⟨by rfl, ?_⟩) ?_ ?_; rotate_left; intro w'; go_simp; with_reducible rfl; rotate_left; simp only [Cap.pz]; rfl
       refine Cap.pu (v := ?_) (a' := ?_) 2 (some 18) zf77 HT_ rfl rfl (by kernel_rfl) (fun _ _ _ h => h) (Or.inl ⟨by rfl, ?_⟩) ?_ ?_; rotate_left; intro w'; go_simp; with_reducible rfl; rotate_left; simp only [Cap.pz]; rfl
       refine Cap.pu (v := undef) (a' := ?_) 3 (some 19) zf78 HT_ rfl rfl (by kernel_rfl) (fun _ _ _ h => h) (Or.inr ⟨by rfl, rfl⟩) ?_ ?_; rotate_left; simp only [Cap.pz]; rfl
       refine Cap.pu (v := undef) (a' := ?_) 4 (some 20) zf79 HT_ rfl rfl (by kernel_rfl) (fun _ _ _ h => h) (Or.inr ⟨by rfl, rfl⟩) ?_ ?_; rotate_left; simp only [Cap.pz]; rfl
       refine Cap.pu (v := undef) (a' := ?_) 5 (some 21) zf80 HT_ rfl rfl (by kernel_rfl) (fun _ _ _ h => h) (Or.inr ⟨by rfl, rfl⟩) ?_ ?_; rotate_left; simp only [Cap.pz]; rfl
       refine Cap.pu (v := undef) (a' := ?_) 6 (some 22) zf81 HT_ rfl rfl (by kernel_rfl) (fun _ _ _ h => h) (Or.inr ⟨by rfl, rfl⟩) ?_ ?_; rotate_left; simp only [Cap.pz]; rfl
       refine Cap.pu (v := undef) (a' := ?_) 7 (some 23) zf82 HT_ rfl rfl (by kernel_rfl) (fun _ _ _ h => h) (Or.inr ⟨by rfl, rfl⟩) ?_ ?_; rotate_left; simp only [Cap.pz]; rfl
       refine Cap.pu (v := undef) (a' := ?_) 8 (some 24) zf83 HT_ rfl rfl (by kernel_rfl) (fun _ _ _ h => h) (Or.inr ⟨by rfl, rfl⟩) ?_ ?_; rotate_left; simp only [Cap.pz]; rfl
       refine Cap.pu (v := undef) (a' := ?_) 9 (some 25) zf84 HT_ rfl rfl (by kernel_rfl) (fun _ _ _ h => h) (Or.inr ⟨by rfl, rfl⟩) ?_ ?_; rotate_left; simp only [Cap.pz]; rfl
       refine Cap.pu (v := undef) (a' := ?_) 10 (some 26) zf85 HT_ rfl rfl (by kernel_rfl) (fun _ _ _ h => h) (Or.inr ⟨by rfl, rfl⟩) ?_ ?_; rotate_left; simp only [Cap.pz]; rfl
       refine Cap.pu (v := undef) (a' := ?_) 11 (some 27) zf86 HT_ rfl rfl (by kernel_rfl) (fun _ _ _ h => h) (Or.inr ⟨by rfl, rfl⟩) ?_ ?_; rotate_left; simp only [Cap.pz]; rfl
       refine Cap.pu (v := undef) (a' := ?_) 12 (some 28) zf87 HT_ rfl rfl (by kernel_rfl) (fun _ _ _ h => h) (Or.inr ⟨by rfl, rfl⟩) ?_ ?_; rotate_left; simp only [Cap.pz]; rfl
       refine Cap.pu (v := ?_) (a' := ?_) 13 (some 29) zf88 HT_ rfl rfl (by kernel_rfl) (fun _ _ _ h => h) (Or.inl ⟨by rfl, ?_⟩) ?_ ?_; rotate_left; intro w'; go_simp; with_reducible rfl; rotate_left; simp only [Cap.pz]; rfl
       refine done_ (done_of HT_.out (by kernel_rfl)) ?_
       try go_wp2
       go_meet
       case rel => exact ⟨_, (false), (by first | rfl | (simp; done) | (simp [*]; done)), H', ⟨by have := HK1.out; have := HK2.out; first | omega | exact Nat.le_refl _⟩, ⟨by first | exact Grow.rg HO_3.out | exact HO_3.out⟩, ⟨by first | exact Grow.bl HB.out | exact HB.out⟩⟩
      rw [if_pos c7] at H
      have c7b0 : decide (0 < x5_2) = true := decide_eq_true c7
      clear c7
      (first | rw [c7b0] | (simp only [i64_w, i32_w]; rw [c7b0]) | skip)
      by_cases c8 : 0 ≤ x4_1
      rotate_left
      ·
       rw [if_neg c8] at H
       exact absurd H (by simp)
      rw [if_pos c8] at H
      have c8b0 : decide (0 ≤ x4_1) = true := decide_eq_true c8
      clear c8
      by_cases c9 : x4_1 < (l0.length : Int)
      rotate_left
      ·
       rw [if_neg c9] at H
       exact absurd H (by simp)
      rw [if_pos c9] at H
      have c9b0 : decide (x4_1 < (l0.length : Int)) = true := decide_eq_true c9
      clear c9
      obtain ⟨ji10, hji10⟩ : ∃ j_ : Int, (wrap64 (x5_2 - 1)) = j_ := ⟨_, rfl⟩
      replace H : (if 0 ≤ (ji10) then (if (ji10) < (x3_1.length : Int) then ((spec_l08Less.f ((rd_T43 l0 x4_1).f0) ((rd_T43 l0 x4_1).f1) ((rd_T43 l0 x4_1).f2) ((rd_T43 l0 x4_1).f3) ((rd_T43 x3_1 (ji10)).f0) ((rd_T43 x3_1 (ji10)).f1) ((rd_T43 x3_1 (ji10)).f2) ((rd_T43 x3_1 (ji10)).f3)).bind fun t133 => (spec_l08Sort.j2 k2 l0 x3_1 x4_1 x5_2 t133)) else (none)) else (none)) = some r := by first | (rw [hji10] at H; exact H) | (simp only [hji10] at H ⊢; exact H)
      have hji10w : (IntKind.i64.wrap (x5_2 - 1)) = ji10 := (i64_w _).trans hji10
      by_cases c11 : 0 ≤ (ji10)
      rotate_left
      ·
       rw [if_neg c11] at H
       exact absurd H (by simp)
      rw [if_pos c11] at H
      have c11b0 : decide (0 ≤ (ji10)) = true := decide_eq_true c11
      clear c11
      by_cases c12 : (ji10) < (x3_1.length : Int)
      rotate_left
      ·
       rw [if_neg c12] at H
       exact absurd H (by simp)
      rw [if_pos c12] at H
      have c12b0 : decide ((ji10) < (x3_1.length : Int)) = true := decide_eq_true c12
      clear c12
      replace H := Option.bind_eq_some_iff.mp H
      obtain ⟨t133, A130, H⟩ := H
      replace H : (spec_l08Sort.j2 k2 l0 x3_1 x4_1 x5_2 t133) = some r := H
      have A13 := Aside0.mk A130
      clear A130
      have H' := Aside0.mk H
      clear H
      try go_wp2
      have n0_ := Aside0.mk (Kd.R_drew HO_3.out)
      have n1_ := Aside0.mk (below_drew1 HB.out)
      clear HO_3
      clear HB
      have HO_3 := n0_
      have HB := n1_
      clear n0_ n1_
      have p131 : 0 ≤ (x4_1 : Int) := of_decide_eq_true (by first | (with_reducible assumption) | assumption)
      have q131 : x4_1 < (l0.length : Int) := of_decide_eq_true (by first | (with_reducible assumption) | assumption)
      obtain ⟨ad131, e131, hx131_0, hx131_1, hx131_2, hx131_3⟩ := at_T43 HR0.out x4_1 p131 q131
      have hw131_3 := hx131_3
      have hw131_2 := hx131_2
      have hw131_1 := hx131_1
      have hw131_0 := hx131_0
      cases e131
      replace hx131_0 := Grow.bc HB.out hx131_0
      replace hx131_1 := Grow.bc HB.out hx131_1
      replace hx131_2 := Grow.bc HB.out hx131_2
      replace hx131_3 := Grow.bc HB.out hx131_3
      replace p131 := eq_true p131
      replace q131 := eq_true q131
      have p132 : 0 ≤ ((ji10) : Int) := of_decide_eq_true (by first | (with_reducible assumption) | assumption)
      have q132 : (ji10) < (x3_1.length : Int) := of_decide_eq_true (by first | (with_reducible assumption) | assumption)
      obtain ⟨ad132, e132, hx132_0, hx132_1, hx132_2, hx132_3⟩ := at_T43 (Kd.R_reads' HO_3.out).2.2 (ji10) p132 q132
      cases e132
      replace p132 := eq_true p132
      replace q132 := eq_true q132
      refine start_ (n := 14) (S := fun w' => w'.cell? (ad131.add ((x4_1).toNat * 4)) = some (.string ((rd_T43 l0 x4_1).f0)) ∧ w'.cell? ⟨(ad131.add ((x4_1).toNat * 4)).block, (ad131.add ((x4_1).toNat * 4)).off + 1, none⟩ = some (.int .i64 ((rd_T43 l0 x4_1).f1)) ∧ w'.cell? ⟨(ad131.add ((x4_1).toNat * 4)).block, (ad131.add ((x4_1).toNat * 4)).off + 2, none⟩ = some (.bool ((rd_T43 l0 x4_1).f2)) ∧ w'.cell? ⟨(ad131.add ((x4_1).toNat * 4)).block, (ad131.add ((x4_1).toNat * 4)).off + 3, none⟩ = some (.string ((rd_T43 l0 x4_1).f3)) ∧ w'.cell? (ad132.add (((ji10)).toNat * 4)) = some (.string ((rd_T43 x3_1 (ji10)).f0)) ∧ w'.cell? ⟨(ad132.add (((ji10)).toNat * 4)).block, (ad132.add (((ji10)).toNat * 4)).off + 1, none⟩ = some (.int .i64 ((rd_T43 x3_1 (ji10)).f1)) ∧ w'.cell? ⟨(ad132.add (((ji10)).toNat * 4)).block, (ad132.add (((ji10)).toNat * 4)).off + 2, none⟩ = some (.bool ((rd_T43 x3_1 (ji10)).f2)) ∧ w'.cell? ⟨(ad132.add (((ji10)).toNat * 4)).block, (ad132.add (((ji10)).toNat * 4)).off + 3, none⟩ = some (.string ((rd_T43 x3_1 (ji10)).f3))) (ds := []) zf74 (by kernel_rfl) rfl rfl ⟨((HB.out.cell (World.block_lt_of_cell? w _ hw131_0)).trans hw131_0), ((HB.out.cell (World.block_lt_of_cell? w _ hw131_1)).trans hw131_1), ((HB.out.cell (World.block_lt_of_cell? w _ hw131_2)).trans hw131_2), ((HB.out.cell (World.block_lt_of_cell? w _ hw131_3)).trans hw131_3), hx132_0, hx132_1, hx132_2, hx132_3⟩ (fun hHeld => ?_); refine with_tabW spec_l08Sort.tab6 spec_l08Sort.bits6 (fun HT_ HW_ => ?_)
      generalize wr.drew = w14 at HO_3 HB hx131_0 hx131_1 hx131_2 hx131_3 hx132_0 hx132_1 hx132_2 hx132_3 hHeld ⊢
      refine Cap.pu (v := ?_) (a' := ?_) 0 (some 16) zf75 HT_ rfl rfl (by kernel_rfl) (fun _ _ _ h => h) (Or.inl ⟨by rfl, ?_⟩) ?_ ?_; rotate_left; intro w'; go_simp; with_reducible rfl; rotate_left; simp only [Cap.pz]; rfl
      refine Cap.pu (v := ?_) (a' := ?_) 1 (some 17) zf76 HT_ rfl rfl (by kernel_rfl) (fun _ _ _ h => h) (Or.inl ⟨by rfl, ?_⟩) ?_ ?_; rotate_left; intro w'; go_simp; with_reducible rfl; rotate_left; simp only [Cap.pz]; rfl
      refine Cap.pu (v := ?_) (a' := ?_) 2 (some 18) zf77 HT_ rfl rfl (by kernel_rfl) (fun _ _ _ h => h) (Or.inl ⟨by rfl, ?_⟩) ?_ ?_; rotate_left; intro w'; go_simp; with_reducible rfl; rotate_left; simp only [Cap.pz]; rfl
      refine Cap.pu (v := ?_) (a' := ?_) 3 (some 19) zf78 HT_ rfl rfl (by kernel_rfl) (fun _ _ _ h => h) (Or.inl ⟨by rfl, ?_⟩) ?_ ?_; rotate_left; intro w'; go_simp; with_reducible rfl; rotate_left; simp only [Cap.pz]; rfl
      refine Cap.pu (v := ?_) (a' := ?_) 4 (some 20) zf79 HT_ rfl rfl (by kernel_rfl) (fun _ _ _ h => h) (Or.inl ⟨by rfl, ?_⟩) ?_ ?_; rotate_left; intro w'; go_simp; with_reducible rfl; rotate_left; simp only [Cap.pz]; rfl
      refine Cap.pu (v := ?_) (a' := ?_) 5 (some 21) zf80 HT_ rfl rfl (by kernel_rfl) (fun _ _ _ h => h) (Or.inl ⟨by rfl, ?_⟩) ?_ ?_; rotate_left; intro w'; go_simp; with_reducible rfl; rotate_left; simp only [Cap.pz]; rfl
      refine Cap.pu (v := ?_) (a' := ?_) 7 (some 23) zf89 HT_ rfl rfl (by kernel_rfl) (fun _ _ _ h => h) (Or.inl ⟨by rfl, ?_⟩) ?_ ?_; rotate_left; intro w'; go_simp; with_reducible rfl; rotate_left; simp only [Cap.pz]; rfl
      refine Cap.pu (v := ?_) (a' := ?_) 8 (some 24) zf90 HT_ rfl rfl (by kernel_rfl) (fun _ _ _ h => h) (Or.inl ⟨by rfl, ?_⟩) ?_ ?_; rotate_left; intro w'; go_simp; with_reducible rfl; rotate_left; simp only [Cap.pz]; rfl
      refine Cap.pu (v := ?_) (a' := ?_) 9 (some 25) zf91 HT_ rfl rfl (by kernel_rfl) (fun _ _ _ h => h) (Or.inl ⟨by rfl, ?_⟩) ?_ ?_; rotate_left; intro w'; go_simp; with_reducible rfl; rotate_left; simp only [Cap.pz]; rfl
      refine Cap.pu (v := ?_) (a' := ?_) 10 (some 26) zf92 HT_ rfl rfl (by kernel_rfl) (fun _ _ _ h => h) (Or.inl ⟨by rfl, ?_⟩) ?_ ?_; rotate_left; intro w'; go_simp; with_reducible rfl; rotate_left; simp only [Cap.pz]; rfl
      refine take_ (i := 6) (N := some 22) (v := ?_) (a' := ?_) zf85 rfl rfl (take_ofW HT_.out HW_.out (by kernel_rfl)) (fun _ _ _ h => h) (Or.inl ⟨by rfl, ?_⟩) hHeld ?_ ?_; rotate_left; rintro w' ⟨s0, s1, s2, s3, s4, s5, s6, s7⟩; go_simp; with_reducible rfl; rotate_left; simp only [Cap.pz]; rfl
      refine take_ (i := 11) (N := some 27) (v := ?_) (a' := ?_) zf86 rfl rfl (take_ofW HT_.out HW_.out (by kernel_rfl)) (fun _ _ _ h => h) (Or.inl ⟨by rfl, ?_⟩) hHeld ?_ ?_; rotate_left; rintro w' ⟨s0, s1, s2, s3, s4, s5, s6, s7⟩; go_simp; with_reducible rfl; rotate_left; simp only [Cap.pz]; rfl
      refine one_ (i := 12) (N := some 28) zf87 rfl rfl (one_of HT_.out (by kernel_rfl)) (by decide) (fun K hK => ?_)
      refine goes_ Try.func23 (by kernel_rfl) rfl #[.agg #[.string ((rd_T43 l0 x4_1).f0), .int .i64 ((rd_T43 l0 x4_1).f1), .bool ((rd_T43 l0 x4_1).f2), .string ((rd_T43 l0 x4_1).f3)], .agg #[.string ((rd_T43 x3_1 (ji10)).f0), .int .i64 ((rd_T43 x3_1 (ji10)).f1), .bool ((rd_T43 x3_1 (ji10)).f2), .string ((rd_T43 x3_1 (ji10)).f3)]] (by rfl) rfl rfl (by (try simp only [List.map_toArray, List.map_cons, List.map_nil]); first | done | (simp only [hji10]; rfl) | rfl | (simp only [List.length_drop, List.length_take]; rfl)) ?_
      with_reducible refine (spec_l08Less.calls ((rd_T43 l0 x4_1).f0) ((rd_T43 l0 x4_1).f1) ((rd_T43 l0 x4_1).f2) ((rd_T43 l0 x4_1).f3) ((rd_T43 x3_1 (ji10)).f0) ((rd_T43 x3_1 (ji10)).f1) ((rd_T43 x3_1 (ji10)).f2) ((rd_T43 x3_1 (ji10)).f3) t133 _ A13.out).mono ?_
      rintro e w15 ⟨rfl, hb⟩
      have HS4_ := (hb.cell (World.block_lt_of_cell? _ _ (hHeld.2.2.2.2.1))).trans (hHeld.2.2.2.2.1)
      have HS5_ := (hb.cell (World.block_lt_of_cell? _ _ (hHeld.2.2.2.2.2.1))).trans (hHeld.2.2.2.2.2.1)
      have HS6_ := (hb.cell (World.block_lt_of_cell? _ _ (hHeld.2.2.2.2.2.2.1))).trans (hHeld.2.2.2.2.2.2.1)
      have HS7_ := (hb.cell (World.block_lt_of_cell? _ _ (hHeld.2.2.2.2.2.2.2))).trans (hHeld.2.2.2.2.2.2.2)
      refine ⟨_, rfl, ?_⟩
      have n0_ := Aside0.mk (Kd.R_below (by first | exact Grow.rg HO_3.out | exact HO_3.out) hb)
      have n1_ := Aside0.mk (below_step (by first | exact Grow.bl HB.out | exact HB.out) hb)
      clear HO_3
      clear HB
      have HO_3 := n0_
      have HB := n1_
      clear n0_ n1_
      (try clear hb)
      (try clear hb2)
      (try clear hk)
      (try clear hi)
      refine hK.out _ _ ⟨((HB.out.cell (World.block_lt_of_cell? w _ hw131_0)).trans hw131_0), ((HB.out.cell (World.block_lt_of_cell? w _ hw131_1)).trans hw131_1), ((HB.out.cell (World.block_lt_of_cell? w _ hw131_2)).trans hw131_2), ((HB.out.cell (World.block_lt_of_cell? w _ hw131_3)).trans hw131_3), HS4_, HS5_, HS6_, HS7_⟩ (fun hHeld => ?_)
      clear hK K
      refine norm_ (a' := ?_) ?_ ?_; rotate_left; show Act.put _ (some 28) _ = _; simp only [Cap.pz]; rfl
      refine Cap.pu (v := ?_) (a' := ?_) 13 (some 29) zf88 HT_ rfl rfl (by kernel_rfl) (fun _ _ _ h => h) (Or.inl ⟨by rfl, ?_⟩) ?_ ?_; rotate_left; intro w'; go_simp; with_reducible rfl; rotate_left; simp only [Cap.pz]; rfl
      refine done_ (done_of HT_.out (by kernel_rfl)) ?_
      try go_wp2
      go_meet
      case rel => exact ⟨_, (t133), (by first | rfl | (simp; done) | (simp [*]; done)), H', ⟨by have := HK1.out; have := HK2.out; first | omega | exact Nat.le_refl _⟩, ⟨by first | exact Grow.rg HO_3.out | exact HO_3.out⟩, ⟨by first | exact Grow.bl HB.out | exact HB.out⟩⟩
     case rest =>
      clear HC6
      try clear c1
      try clear p1
      try clear q1
      try clear hx1
      try clear c2
      try clear p2
      try clear c4
      try clear c4b0
      try clear p6
      try clear c7
      try clear c7b0
      try clear c8
      try clear c8b0
      try clear c9
      try clear c9b0
      try clear c11
      try clear c11b0
      try clear c12
      try clear c12b0
      try clear p13
      try clear q13
      try clear hx13
      try clear hx131_0
      try clear hx131_1
      try clear hx131_2
      try clear hx131_3
      try clear hx132_0
      try clear hx132_1
      try clear hx132_2
      try clear hx132_3
      try clear p131
      try clear p132
      try clear p2
      try clear q131
      try clear q132
      obtain ⟨kq, x29_5, rfl, HA, HJ5, HO_3, HB⟩ := hcut
      cases kq with
      | zero => exact absurd HA.out (by simp [spec_l08Sort.j2])
      | succ kj5 =>
       have H := HA.out
       clear HA
       simp only [spec_l08Sort.j2] at H
       by_cases c17 : x29_5 = true
       ·
        subst c17
        have H1 : (spec_l08Sort.l1 kj5 l0 x3_1 x4_1 (wrap64 (x5_2 - 1))) = some r := by rw [if_pos rfl] at H; exact H
        clear H
        have H := H1
        clear H1
        have H' := Aside0.mk H
        clear H
        go_wp2
        go_roundg kj5
        case measure => have := HK1.out; have := HK2.out; have := HJ5.out; omega
        case rel => exact ⟨(wrap64 (x5_2 - 1)), (by first | rfl | (simp; done) | (simp [*]; done)), H', ⟨by have := HK1.out; have := HK2.out; have := HJ5.out; omega⟩, ⟨by first | exact Grow.rg HO_3.out | exact HO_3.out⟩, ⟨by first | exact Grow.bl HB.out | exact HB.out⟩⟩
       replace c17 := Bool.eq_false_iff.mpr c17
       subst c17
       have H1 : (if x3_1.length < 2932031007402 then ((some (x3_1 ++ [(⟨(⟨#[]⟩ : ByteArray), 0, false, (⟨#[]⟩ : ByteArray)⟩ : S43)] : List (S43))).bind fun y134 => (spec_l08Sort.l2 kj5 l0 y134 x4_1 x5_2 (wrap64 ((y134.length : Int) - 1)))) else (none)) = some r := by rw [if_neg (show ¬ (false = true) by decide)] at H; exact H
       clear H
       have H := H1
       clear H1
       by_cases c18 : x3_1.length < 2932031007402
       rotate_left
       ·
        rw [if_neg c18] at H
        exact absurd H (by simp)
       rw [if_pos c18] at H
       have LMc18 := Aside0.mk c18
       clear c18
       obtain ⟨y134, hy134⟩ : ∃ y_ : List (S43), y_ = (x3_1 ++ [(⟨(⟨#[]⟩ : ByteArray), 0, false, (⟨#[]⟩ : ByteArray)⟩ : S43)]) := ⟨_, rfl⟩
       replace H : (spec_l08Sort.l2 kj5 l0 y134 x4_1 x5_2 (wrap64 ((y134.length : Int) - 1))) = some r := by first | (rw [hy134]; with_reducible exact H) | (have H2_ := (Option.bind_some _ _).symm.trans H; rw [hy134]; with_reducible exact H2_) | (have H2_ := (Option.bind_some _ _).symm.trans H; with_reducible exact H2_) | with_reducible exact H | (rw [hy134]; exact H) | exact H
       have Ny134 := Aside0.mk hy134
       clear hy134
       have H' := Aside0.mk H
       clear H
       go_wp2_with (first | ((with_reducible refine gate_builtin (b := .append) (xs := #[.tmp 32, .tmp 34]) rfl ?_); at_builtin; refine Kd.R_append k43 (w0 := w) w.heap.size rfl (.tmp 32) (.tmp 34) 24 43 (.agg #[(.string ⟨#[]⟩), (.int .i64 0), (.bool false), (.string ⟨#[]⟩)]) 48 rfl Try.underlying24 info43 rfl (by decide) (by omega) (.slice Ao5 x3_1.length co5) x3_1 (⟨(⟨#[]⟩ : ByteArray), 0, false, (⟨#[]⟩ : ByteArray)⟩ : S43) [.string (⟨#[]⟩ : ByteArray), .int .i64 0, .bool false, .string (⟨#[]⟩ : ByteArray)] (fun _ => True) (fun _ => False) rfl rfl ?aP (fun _ hk => hk.elim) ?aF ?aO ?aB ?aS ?aL ?_; (case aP => exact k43_mkM _ _ _ (⟨(⟨#[]⟩ : ByteArray), 0, false, (⟨#[]⟩ : ByteArray)⟩ : S43)); (case aB => exact (by first | exact Grow.bl HB.out | exact HB.out)); (case aF => exact (fun _ _ => trivial)); (case aO => exact (by first | exact Grow.rg HO_3.out | exact HO_3.out)); (case aS => exact (below_size (by first | exact Grow.bl HB.out | exact HB.out))); (case aL => have := LMc18.out; omega); intro v135 w19 ho hb hg hat; rw [← Ny134.out] at ho; have n0_ := Aside0.mk (hb); have n1_ := Aside0.mk (ho); clear HB; clear HO_3; have HB := n0_; have HO136 := n1_; clear n0_ n1_; clear ho hb hg hat; obtain ⟨Ao20, co20, eo20⟩ := Kd.R_slice HO136.out; subst eo20))
       go_loopg [6] kj5 (fun kq v6 w' => ∃ (x3_4 : List (S43)) (x6_4 : Int), v6 = .int .i64 x6_4 ∧ Aside0 (spec_l08Sort.l2 kq l0 x3_4 x4_1 x5_2 x6_4 = some r) ∧ Aside0 (kq ≤ kj5) ∧ Aside0 (Kd.R k43 43 w' w.heap.size (fun _ => True) (.slice Ao20 y134.length co20) x3_4) ∧ Aside0 (Below w.heap.size w w'))
       case atStart => exact ⟨(y134), (wrap64 ((y134.length : Int) - 1)), (by first | rfl | (simp; done) | (simp [*]; done)), H', ⟨Nat.le_refl _⟩, ⟨by first | exact Grow.rg HO136.out | exact HO136.out⟩, ⟨by first | exact Grow.bl HB.out | exact HB.out⟩⟩
       case round =>
        clear H'
        try clear c1
        try clear p1
        try clear q1
        try clear hx1
        try clear c2
        try clear p2
        try clear c4
        try clear c4b0
        try clear p6
        try clear c7
        try clear c7b0
        try clear c8
        try clear c8b0
        try clear c9
        try clear c9b0
        try clear c11
        try clear c11b0
        try clear c12
        try clear c12b0
        try clear p13
        try clear q13
        try clear hx13
        try clear c17
        try clear c18
        try clear hx131_0
        try clear hx131_1
        try clear hx131_2
        try clear hx131_3
        try clear hx132_0
        try clear hx132_1
        try clear hx132_2
        try clear hx132_3
        try clear p1
        try clear p13
        try clear p131
        try clear p132
        try clear p2
        try clear p6
        try clear q1
        try clear q13
        try clear q131
        try clear q132
        obtain ⟨x3_4, x6_4, rfl, HA, HK4, HO_3, HB⟩ := hrel
        have hl3_4 := (Kd.R_reads' HO_3.out).1
        rw [hl3_4] at HO_3
        (try simp only [hl3_4])
        cases gk with
        | zero => exact absurd HA.out (by simp [spec_l08Sort.l2])
        | succ k4 =>
         have H := HA.out
         clear HA
         simp only [spec_l08Sort.l2] at H
         by_cases c21 : x6_4 > x5_2
         rotate_left
         ·
          rw [if_neg c21] at H
          have c21b0 : decide (x5_2 < x6_4) = false := decide_eq_false c21
          clear c21
          by_cases c30 : 0 ≤ x4_1
          rotate_left
          ·
           rw [if_neg c30] at H
           exact absurd H (by simp)
          rw [if_pos c30] at H
          have c30b0 : decide (0 ≤ x4_1) = true := decide_eq_true c30
          clear c30
          by_cases c31 : x4_1 < (l0.length : Int)
          rotate_left
          ·
           rw [if_neg c31] at H
           exact absurd H (by simp)
          rw [if_pos c31] at H
          have c31b0 : decide (x4_1 < (l0.length : Int)) = true := decide_eq_true c31
          clear c31
          by_cases c32 : 0 ≤ x5_2
          rotate_left
          ·
           rw [if_neg c32] at H
           exact absurd H (by simp)
          rw [if_pos c32] at H
          have c32b0 : decide (0 ≤ x5_2) = true := decide_eq_true c32
          clear c32
          by_cases c33 : x5_2 < (x3_4.length : Int)
          rotate_left
          ·
           rw [if_neg c33] at H
           exact absurd H (by simp)
          rw [if_pos c33] at H
          have c33b0 : decide (x5_2 < (x3_4.length : Int)) = true := decide_eq_true c33
          clear c33
          obtain ⟨y140, hy140⟩ : ∃ y_ : List (S43), y_ = (x3_4.set (x5_2 : Int).toNat (⟨(rd_T43 l0 x4_1).f0, (rd_T43 l0 x4_1).f1, (rd_T43 l0 x4_1).f2, (rd_T43 l0 x4_1).f3⟩ : S43)) := ⟨_, rfl⟩
          replace H : (spec_l08Sort.l0 k4 l0 y140 (wrap64 (x4_1 + 1))) = some r := by first | (rw [hy140]; with_reducible exact H) | (have H2_ := (Option.bind_some _ _).symm.trans H; rw [hy140]; with_reducible exact H2_) | (have H2_ := (Option.bind_some _ _).symm.trans H; with_reducible exact H2_) | with_reducible exact H | (rw [hy140]; exact H) | exact H
          have Ny140 := Aside0.mk hy140
          clear hy140
          have H' := Aside0.mk H
          clear H
          have p139 : 0 ≤ (x4_1 : Int) := of_decide_eq_true (by first | (with_reducible assumption) | assumption)
          have q139 : x4_1 < (l0.length : Int) := of_decide_eq_true (by first | (with_reducible assumption) | assumption)
          obtain ⟨ad139, e139, hx139_0, hx139_1, hx139_2, hx139_3⟩ := at_T43 HR0.out x4_1 p139 q139
          cases e139
          replace hx139_0 := Grow.bc HB.out hx139_0
          replace hx139_1 := Grow.bc HB.out hx139_1
          replace hx139_2 := Grow.bc HB.out hx139_2
          replace hx139_3 := Grow.bc HB.out hx139_3
          replace p139 := eq_true p139
          replace q139 := eq_true q139
          have p34 : 0 ≤ (x5_2 : Int) := of_decide_eq_true (by first | (with_reducible assumption) | assumption)
          have q34 : (x5_2 : Int) < ((x3_4.length : Int) : Int) := of_decide_eq_true (by first | (with_reducible assumption) | assumption)
          obtain ⟨go34, co34, eo34, gb34, gl34, cl34, HG34⟩ := Kd.R_form HO_3.out (by omega)
          (first | cases eo34 | (injection eo34 with ea_ en_ ec_; (first | subst ea_ | (injection ea_ with ea_; subst ea_)); subst ec_; clear en_))
          have GB34 := Aside0.mk gb34
          have GG34 := Aside0.mk HG34
          clear gb34 gl34 HG34
          obtain ⟨ce34, hcl34, hM34, hcc34, hfr34⟩ := Kd.R_elem HO_3.out z43 (x5_2 : Int) p34 q34
          obtain rfl := k43_openM hM34
          have hx34_0 : wr.cell? ⟨go34, (x5_2 : Int).toNat * 4, none⟩ = some (.string ((rd_T43 x3_4 x5_2).f0)) := hcc34 0 _ rfl
          have hx34_1 : wr.cell? ⟨go34, (x5_2 : Int).toNat * 4 + 1, none⟩ = some (.int .i64 ((rd_T43 x3_4 x5_2).f1)) := hcc34 1 _ rfl
          have hx34_2 : wr.cell? ⟨go34, (x5_2 : Int).toNat * 4 + 2, none⟩ = some (.bool ((rd_T43 x3_4 x5_2).f2)) := hcc34 2 _ rfl
          have hx34_3 : wr.cell? ⟨go34, (x5_2 : Int).toNat * 4 + 3, none⟩ = some (.string ((rd_T43 x3_4 x5_2).f3)) := hcc34 3 _ rfl
          have hf34_0 : wr.frozen? ⟨go34, (x5_2 : Int).toNat * 4, none⟩ = false := hfr34 0
          have hf34_1 : wr.frozen? ⟨go34, (x5_2 : Int).toNat * 4 + 1, none⟩ = false := hfr34 1
          have hf34_2 : wr.frozen? ⟨go34, (x5_2 : Int).toNat * 4 + 2, none⟩ = false := hfr34 2
          have hf34_3 : wr.frozen? ⟨go34, (x5_2 : Int).toNat * 4 + 3, none⟩ = false := hfr34 3
          clear hcl34 hcc34 hfr34 hM34
          replace p34 := eq_true p34
          replace q34 := eq_true q34
          have HX35 := Aside0.mk (show Kd.R k43 43 wr w.heap.size (fun _ => True) (.slice (some ⟨go34, 0, none⟩) x3_4.length co20) x3_4 from (by first | exact Grow.rg HO_3.out | exact HO_3.out))
          obtain ⟨ce35, hcl35, hM35, hcc35, hfr35⟩ := Kd.R_elem HX35.out z43 (x5_2 : Int) (of_decide_eq_true (by first | (with_reducible assumption) | assumption)) (by have h_ : (x5_2 : Int) < ((x3_4.length : Int) : Int) := of_decide_eq_true (by first | (with_reducible assumption) | assumption); first | exact h_ | (have e_ := (Kd.R_reads' HO_3.out).1; omega) | simpa using h_)
          obtain rfl := k43_openM hM35
          have HP35 := Kd.R_seg HX35.out (x5_2 : Int) (of_decide_eq_true (by first | (with_reducible assumption) | assumption)) (by have h_ : (x5_2 : Int) < ((x3_4.length : Int) : Int) := of_decide_eq_true (by first | (with_reducible assumption) | assumption); first | exact h_ | (have e_ := (Kd.R_reads' HO_3.out).1; omega) | simpa using h_) (seg := [.string ((rd_T43 l0 x4_1).f0), .int .i64 ((rd_T43 l0 x4_1).f1), .bool ((rd_T43 l0 x4_1).f2), .string ((rd_T43 l0 x4_1).f3)]) (j := 0) hcl35 hcc35 (show 4 ≤ 4 from by decide) (x' := (⟨(rd_T43 l0 x4_1).f0, (rd_T43 l0 x4_1).f1, (rd_T43 l0 x4_1).f2, (rd_T43 l0 x4_1).f3⟩ : S43)) (k43_mkM _ _ _ (⟨(rd_T43 l0 x4_1).f0, (rd_T43 l0 x4_1).f1, (rd_T43 l0 x4_1).f2, (rd_T43 l0 x4_1).f3⟩ : S43) ) (fun _ hk => hk)
          have hx35_0 := hcc35 0 _ rfl
          (try simp only [show (k43).sz = 4 from rfl, Nat.mul_one, Nat.add_zero] at hx35_0)
          have hf35_0 := hfr35 0
          (try simp only [show (k43).sz = 4 from rfl, Nat.mul_one, Nat.add_zero] at hf35_0)
          have hx35_1 := hcc35 1 _ rfl
          (try simp only [show (k43).sz = 4 from rfl, Nat.mul_one, Nat.add_zero] at hx35_1)
          have hf35_1 := hfr35 1
          (try simp only [show (k43).sz = 4 from rfl, Nat.mul_one, Nat.add_zero] at hf35_1)
          have hx35_2 := hcc35 2 _ rfl
          (try simp only [show (k43).sz = 4 from rfl, Nat.mul_one, Nat.add_zero] at hx35_2)
          have hf35_2 := hfr35 2
          (try simp only [show (k43).sz = 4 from rfl, Nat.mul_one, Nat.add_zero] at hf35_2)
          have hx35_3 := hcc35 3 _ rfl
          (try simp only [show (k43).sz = 4 from rfl, Nat.mul_one, Nat.add_zero] at hx35_3)
          have hf35_3 := hfr35 3
          (try simp only [show (k43).sz = 4 from rfl, Nat.mul_one, Nat.add_zero] at hf35_3)
          clear hcl35 hcc35 hfr35 hM35
          go_wp2_with (first | ((with_reducible refine gate_store (t := 43) (p := 58) rfl ?_); refine store_event (t := 43) (p := 58) (v := ?vo_w36) (w1 := ((((wr.setCell ⟨go34, (x5_2 : Int).toNat * 4, none⟩ (.string ((rd_T43 l0 x4_1).f0))).setCell ⟨go34, (x5_2 : Int).toNat * 4 + 1, none⟩ (.int .i64 ((rd_T43 l0 x4_1).f1))).setCell ⟨go34, (x5_2 : Int).toNat * 4 + 2, none⟩ (.bool ((rd_T43 l0 x4_1).f2))).setCell ⟨go34, (x5_2 : Int).toNat * 4 + 3, none⟩ (.string ((rd_T43 l0 x4_1).f3)))) ?hg ?ho ?hn ?hr ?_; (case ho => rfl); (case hg => rfl); (case hn => rfl); (case hr => first | (go_simp; done) | (go_simp; rfl)); intro w36 hw; have hg : wr.grownBy w36 (some go34) := (by rw [hw]; exact HP35.2); have hp_ : Kd.R k43 43 w36 w.heap.size (fun _ => True) (.slice (some ⟨go34, 0, none⟩) x3_4.length co20) y140 := (by rw [hw, Ny140.out]; exact HP35.1); clear HP35; have n0_ := Aside0.mk (hp_); have n1_ := Aside0.mk ((by rw [hw]; exact below_set (below_set (below_set (below_set (HB.out) GB34.out) GB34.out) GB34.out) GB34.out : Below w.heap.size w w36)); clear HO_3; clear HB; have HO_3 := n0_; have HB := n1_; clear n0_ n1_; clear hg hw hp_))
          (try simp only [← hl3_4])
          go_roundg k4
          case measure => have := HK1.out; have := HK2.out; have := HJ5.out; have := HK4.out; omega
          case rel => exact ⟨(y140), (wrap64 (x4_1 + 1)), (by first | rfl | (simp; done) | (simp [*]; done)), H', ⟨by have := HK1.out; have := HK2.out; have := HJ5.out; have := HK4.out; omega⟩, ⟨by (try simp only [hl3_4]); (with_reducible repeat (first | apply Kd.R_alloc | apply Kd.R_drewN | apply Kd.R_drew)); exact HO_3.out⟩, ⟨by first | exact Grow.bl HB.out | exact HB.out⟩⟩
         rw [if_pos c21] at H
         have c21b0 : decide (x5_2 < x6_4) = true := decide_eq_true c21
         clear c21
         obtain ⟨ji22, hji22⟩ : ∃ j_ : Int, (wrap64 (x6_4 - 1)) = j_ := ⟨_, rfl⟩
         replace H : (if 0 ≤ (ji22) then (if (ji22) < (x3_4.length : Int) then (if 0 ≤ x6_4 then (if x6_4 < (x3_4.length : Int) then (spec_l08Sort.l2 k4 l0 (x3_4.set (x6_4 : Int).toNat (⟨(rd_T43 x3_4 (ji22)).f0, (rd_T43 x3_4 (ji22)).f1, (rd_T43 x3_4 (ji22)).f2, (rd_T43 x3_4 (ji22)).f3⟩ : S43)) x4_1 x5_2 ji22) else (none)) else (none)) else (none)) else (none)) = some r := by first | (rw [hji22] at H; exact H) | (simp only [hji22] at H ⊢; exact H)
         have hji22w : (IntKind.i64.wrap (x6_4 - 1)) = ji22 := (i64_w _).trans hji22
         by_cases c23 : 0 ≤ (ji22)
         rotate_left
         ·
          rw [if_neg c23] at H
          exact absurd H (by simp)
         rw [if_pos c23] at H
         have c23b0 : decide (0 ≤ (ji22)) = true := decide_eq_true c23
         clear c23
         by_cases c24 : (ji22) < (x3_4.length : Int)
         rotate_left
         ·
          rw [if_neg c24] at H
          exact absurd H (by simp)
         rw [if_pos c24] at H
         have c24b0 : decide ((ji22) < (x3_4.length : Int)) = true := decide_eq_true c24
         clear c24
         by_cases c25 : 0 ≤ x6_4
         rotate_left
         ·
          rw [if_neg c25] at H
          exact absurd H (by simp)
         rw [if_pos c25] at H
         have c25b0 : decide (0 ≤ x6_4) = true := decide_eq_true c25
         clear c25
         by_cases c26 : x6_4 < (x3_4.length : Int)
         rotate_left
         ·
          rw [if_neg c26] at H
          exact absurd H (by simp)
         rw [if_pos c26] at H
         have c26b0 : decide (x6_4 < (x3_4.length : Int)) = true := decide_eq_true c26
         clear c26
         obtain ⟨y138, hy138⟩ : ∃ y_ : List (S43), y_ = (x3_4.set (x6_4 : Int).toNat (⟨(rd_T43 x3_4 (ji22)).f0, (rd_T43 x3_4 (ji22)).f1, (rd_T43 x3_4 (ji22)).f2, (rd_T43 x3_4 (ji22)).f3⟩ : S43)) := ⟨_, rfl⟩
         replace H : (spec_l08Sort.l2 k4 l0 y138 x4_1 x5_2 ji22) = some r := by first | (rw [hy138]; with_reducible exact H) | (have H2_ := (Option.bind_some _ _).symm.trans H; rw [hy138]; with_reducible exact H2_) | (have H2_ := (Option.bind_some _ _).symm.trans H; with_reducible exact H2_) | with_reducible exact H | (rw [hy138]; exact H) | exact H
         have Ny138 := Aside0.mk hy138
         clear hy138
         have H' := Aside0.mk H
         clear H
         have p137 : 0 ≤ ((ji22) : Int) := of_decide_eq_true (by first | (with_reducible assumption) | assumption)
         have q137 : (ji22) < (x3_4.length : Int) := of_decide_eq_true (by first | (with_reducible assumption) | assumption)
         obtain ⟨ad137, e137, hx137_0, hx137_1, hx137_2, hx137_3⟩ := at_T43 (Kd.R_reads' HO_3.out).2.2 (ji22) p137 q137
         cases e137
         replace p137 := eq_true p137
         replace q137 := eq_true q137
         have p27 : 0 ≤ (x6_4 : Int) := of_decide_eq_true (by first | (with_reducible assumption) | assumption)
         have q27 : (x6_4 : Int) < ((x3_4.length : Int) : Int) := of_decide_eq_true (by first | (with_reducible assumption) | assumption)
         obtain ⟨go27, co27, eo27, gb27, gl27, cl27, HG27⟩ := Kd.R_form HO_3.out (by omega)
         (first | cases eo27 | (injection eo27 with ea_ en_ ec_; (first | subst ea_ | (injection ea_ with ea_; subst ea_)); subst ec_; clear en_))
         have GB27 := Aside0.mk gb27
         have GG27 := Aside0.mk HG27
         clear gb27 gl27 HG27
         (first | simp only [add_plain] at hx137_0 | skip)
         (first | simp only [add_plain] at hx137_1 | skip)
         (first | simp only [add_plain] at hx137_2 | skip)
         (first | simp only [add_plain] at hx137_3 | skip)
         obtain ⟨ce27, hcl27, hM27, hcc27, hfr27⟩ := Kd.R_elem HO_3.out z43 (x6_4 : Int) p27 q27
         obtain rfl := k43_openM hM27
         have hx27_0 : wr.cell? ⟨go27, (x6_4 : Int).toNat * 4, none⟩ = some (.string ((rd_T43 x3_4 x6_4).f0)) := hcc27 0 _ rfl
         have hx27_1 : wr.cell? ⟨go27, (x6_4 : Int).toNat * 4 + 1, none⟩ = some (.int .i64 ((rd_T43 x3_4 x6_4).f1)) := hcc27 1 _ rfl
         have hx27_2 : wr.cell? ⟨go27, (x6_4 : Int).toNat * 4 + 2, none⟩ = some (.bool ((rd_T43 x3_4 x6_4).f2)) := hcc27 2 _ rfl
         have hx27_3 : wr.cell? ⟨go27, (x6_4 : Int).toNat * 4 + 3, none⟩ = some (.string ((rd_T43 x3_4 x6_4).f3)) := hcc27 3 _ rfl
         have hf27_0 : wr.frozen? ⟨go27, (x6_4 : Int).toNat * 4, none⟩ = false := hfr27 0
         have hf27_1 : wr.frozen? ⟨go27, (x6_4 : Int).toNat * 4 + 1, none⟩ = false := hfr27 1
         have hf27_2 : wr.frozen? ⟨go27, (x6_4 : Int).toNat * 4 + 2, none⟩ = false := hfr27 2
         have hf27_3 : wr.frozen? ⟨go27, (x6_4 : Int).toNat * 4 + 3, none⟩ = false := hfr27 3
         clear hcl27 hcc27 hfr27 hM27
         replace p27 := eq_true p27
         replace q27 := eq_true q27
         have HX28 := Aside0.mk (show Kd.R k43 43 wr w.heap.size (fun _ => True) (.slice (some ⟨go27, 0, none⟩) x3_4.length co20) x3_4 from (by first | exact Grow.rg HO_3.out | exact HO_3.out))
         obtain ⟨ce28, hcl28, hM28, hcc28, hfr28⟩ := Kd.R_elem HX28.out z43 (x6_4 : Int) (of_decide_eq_true (by first | (with_reducible assumption) | assumption)) (by have h_ : (x6_4 : Int) < ((x3_4.length : Int) : Int) := of_decide_eq_true (by first | (with_reducible assumption) | assumption); first | exact h_ | (have e_ := (Kd.R_reads' HO_3.out).1; omega) | simpa using h_)
         obtain rfl := k43_openM hM28
         have HP28 := Kd.R_seg HX28.out (x6_4 : Int) (of_decide_eq_true (by first | (with_reducible assumption) | assumption)) (by have h_ : (x6_4 : Int) < ((x3_4.length : Int) : Int) := of_decide_eq_true (by first | (with_reducible assumption) | assumption); first | exact h_ | (have e_ := (Kd.R_reads' HO_3.out).1; omega) | simpa using h_) (seg := [.string ((rd_T43 x3_4 (ji22)).f0), .int .i64 ((rd_T43 x3_4 (ji22)).f1), .bool ((rd_T43 x3_4 (ji22)).f2), .string ((rd_T43 x3_4 (ji22)).f3)]) (j := 0) hcl28 hcc28 (show 4 ≤ 4 from by decide) (x' := (⟨(rd_T43 x3_4 (ji22)).f0, (rd_T43 x3_4 (ji22)).f1, (rd_T43 x3_4 (ji22)).f2, (rd_T43 x3_4 (ji22)).f3⟩ : S43)) (k43_mkM _ _ _ (⟨(rd_T43 x3_4 (ji22)).f0, (rd_T43 x3_4 (ji22)).f1, (rd_T43 x3_4 (ji22)).f2, (rd_T43 x3_4 (ji22)).f3⟩ : S43) ) (fun _ hk => hk)
         have hx28_0 := hcc28 0 _ rfl
         (try simp only [show (k43).sz = 4 from rfl, Nat.mul_one, Nat.add_zero] at hx28_0)
         have hf28_0 := hfr28 0
         (try simp only [show (k43).sz = 4 from rfl, Nat.mul_one, Nat.add_zero] at hf28_0)
         have hx28_1 := hcc28 1 _ rfl
         (try simp only [show (k43).sz = 4 from rfl, Nat.mul_one, Nat.add_zero] at hx28_1)
         have hf28_1 := hfr28 1
         (try simp only [show (k43).sz = 4 from rfl, Nat.mul_one, Nat.add_zero] at hf28_1)
         have hx28_2 := hcc28 2 _ rfl
         (try simp only [show (k43).sz = 4 from rfl, Nat.mul_one, Nat.add_zero] at hx28_2)
         have hf28_2 := hfr28 2
         (try simp only [show (k43).sz = 4 from rfl, Nat.mul_one, Nat.add_zero] at hf28_2)
         have hx28_3 := hcc28 3 _ rfl
         (try simp only [show (k43).sz = 4 from rfl, Nat.mul_one, Nat.add_zero] at hx28_3)
         have hf28_3 := hfr28 3
         (try simp only [show (k43).sz = 4 from rfl, Nat.mul_one, Nat.add_zero] at hf28_3)
         clear hcl28 hcc28 hfr28 hM28
         go_wp2_with (first | ((with_reducible refine gate_store (t := 43) (p := 51) rfl ?_); refine store_event (t := 43) (p := 51) (v := ?vo_w29) (w1 := ((((wr.setCell ⟨go27, (x6_4 : Int).toNat * 4, none⟩ (.string ((rd_T43 x3_4 (ji22)).f0))).setCell ⟨go27, (x6_4 : Int).toNat * 4 + 1, none⟩ (.int .i64 ((rd_T43 x3_4 (ji22)).f1))).setCell ⟨go27, (x6_4 : Int).toNat * 4 + 2, none⟩ (.bool ((rd_T43 x3_4 (ji22)).f2))).setCell ⟨go27, (x6_4 : Int).toNat * 4 + 3, none⟩ (.string ((rd_T43 x3_4 (ji22)).f3)))) ?hg ?ho ?hn ?hr ?_; (case ho => rfl); (case hg => rfl); (case hn => rfl); (case hr => first | (go_simp; done) | (go_simp; rfl)); intro w29 hw; have hg : wr.grownBy w29 (some go27) := (by rw [hw]; exact HP28.2); have hp_ : Kd.R k43 43 w29 w.heap.size (fun _ => True) (.slice (some ⟨go27, 0, none⟩) x3_4.length co20) y138 := (by rw [hw, Ny138.out]; exact HP28.1); clear HP28; have n0_ := Aside0.mk (hp_); have n1_ := Aside0.mk ((by rw [hw]; exact below_set (below_set (below_set (below_set (HB.out) GB27.out) GB27.out) GB27.out) GB27.out : Below w.heap.size w w29)); clear HO_3; clear HB; have HO_3 := n0_; have HB := n1_; clear n0_ n1_; clear hg hw hp_))
         (try simp only [← hl3_4])
         go_roundg k4
         case measure => have := HK1.out; have := HK2.out; have := HJ5.out; have := HK4.out; omega
         case rel => exact ⟨(y138), (ji22), (by first | rfl | (simp; done) | (simp only [← hji22] <;> (first | rfl | simp)) | (simp [*]; done)), H', ⟨by have := HK1.out; have := HK2.out; have := HJ5.out; have := HK4.out; omega⟩, ⟨by (try simp only [hl3_4]); (with_reducible repeat (first | apply Kd.R_alloc | apply Kd.R_drewN | apply Kd.R_drew)); exact HO_3.out⟩, ⟨by first | exact Grow.bl HB.out | exact HB.out⟩⟩
end Go.Proofs.Ytjjccaepbfijeaa.QFnExactMergeRuns
