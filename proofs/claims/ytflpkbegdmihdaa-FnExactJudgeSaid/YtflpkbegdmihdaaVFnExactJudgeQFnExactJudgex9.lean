-- A text of this session, printed by a program of its own (wip/tools: xpatch.py, xprint.sh, mkq.py). No condition.
import Derived.Test.YtflpkbegdmihdaaVFnExactJudgeQFnExactJudgex0
import Derived.Test.YtflpkbegdmihdaaVFnExactJudgeQFnExactJudgex5
import Derived.Test.YtflpkbegdmihdaaVFnExactJudgeQFnExactJudgex8
namespace Go.Proofs.Ytflpkbegdmihdaa.QFnExactJudge
open Go.RowKit Go.Proofs.YtflpkbegdmihdaaW.PrintWords Go.Proofs.YtflpkbegdmihdaaW.PrintLast Go.Proofs.YtflpkbegdmihdaaW.PrintMore
attribute [local go_sem] max2_int min2_int max_two min_two max_three min_three max_four min_four
set_option linter.unusedVariables false
set_option linter.unusedSimpArgs false
mutual
def spec_Judge.l0 : Nat → List (S132) → Int → ByteArray → ByteArray → ByteArray → ByteArray → Int → Option (Int)
  | 0, _, _, _, _, _, _, _ => none
  | k + 1, x0, x5, x222000, x222001, x222002, x222003, x222004 => if x5 < (x0.length : Int) then (if 0 ≤ x5 then (if ((rd_T132 x0 x5).f0) = 2 then ((spec_l09Fits.f k ((rd_T132 x0 x5).f0) ((rd_T132 x0 x5).f1) ((rd_T132 x0 x5).f2) ((rd_T132 x0 x5).f3) ((rd_T132 x0 x5).f4) x222000 x222001 x222002 x222003 x222004).bind fun t225 => (if t225 = true then (some 2) else (spec_Judge.l0 k x0 (wrap64 (x5 + 1)) x222000 x222001 x222002 x222003 x222004))) else (spec_Judge.l0 k x0 (wrap64 (x5 + 1)) x222000 x222001 x222002 x222003 x222004)) else (none)) else (spec_Judge.l1 k x0 0 x222000 x222001 x222002 x222003 x222004)
def spec_Judge.l1 : Nat → List (S132) → Int → ByteArray → ByteArray → ByteArray → ByteArray → Int → Option (Int)
  | 0, _, _, _, _, _, _, _ => none
  | k + 1, x0, x6, x222000, x222001, x222002, x222003, x222004 => if x6 < (x0.length : Int) then (if 0 ≤ x6 then ((spec_l09Fits.f k ((rd_T132 x0 x6).f0) ((rd_T132 x0 x6).f1) ((rd_T132 x0 x6).f2) ((rd_T132 x0 x6).f3) ((rd_T132 x0 x6).f4) x222000 x222001 x222002 x222003 x222004).bind fun t227 => (if t227 = true then (some 1) else (spec_Judge.l1 k x0 (wrap64 (x6 + 1)) x222000 x222001 x222002 x222003 x222004))) else (none)) else (some 0)
end
def spec_Judge.f (k : Nat) (l0 : List (S132)) (a1_0 : ByteArray) (a1_1 : ByteArray) (a1_2 : ByteArray) (a1_3 : ByteArray) (a1_4 : Int) : Option (Int) := (spec_PolicyFault.f k l0).bind fun t222 => (if t222 = 0 then (spec_Judge.l0 k l0 0 a1_0 a1_1 a1_2 a1_3 a1_4) else (some 0))
theorem spec_Judge.mono_l : ∀ k, (∀ y0 y1 y2 y3 y4 y5 y6, LeO (spec_Judge.l0 k y0 y1 y2 y3 y4 y5 y6) (spec_Judge.l0 (k + 1) y0 y1 y2 y3 y4 y5 y6)) ∧ (∀ y0 y1 y2 y3 y4 y5 y6, LeO (spec_Judge.l1 k y0 y1 y2 y3 y4 y5 y6) (spec_Judge.l1 (k + 1) y0 y1 y2 y3 y4 y5 y6))
  | 0 => ⟨fun _ _ _ _ _ _ _ r h => by simp [spec_Judge.l0] at h, fun _ _ _ _ _ _ _ r h => by simp [spec_Judge.l1] at h⟩
  | k + 1 => by
    obtain ⟨ih0, ih1⟩ := spec_Judge.mono_l k
    refine ⟨?_, ?_⟩
    · intro y0 y1 y2 y3 y4 y5 y6
      unfold spec_Judge.l0
      repeat' first
      | (with_reducible exact ih0 _ _ _ _ _ _ _)
      | (with_reducible exact ih1 _ _ _ _ _ _ _)
      | (with_reducible exact spec_PolicyFault.mono _ _)
      | (with_reducible exact spec_l09Fits.mono _ _ _ _ _ _ _ _ _ _ _)
      | (with_reducible exact LeO.refl _)
      | (with_reducible exact LeO.none _)
      | (with_reducible refine LeO.ite ?_ ?_)
      | (with_reducible refine LeO.bind ?_ (fun _ => ?_))
      | exact ih0 _ _ _ _ _ _ _
      | exact ih1 _ _ _ _ _ _ _
      | exact spec_PolicyFault.mono _ _
      | exact spec_l09Fits.mono _ _ _ _ _ _ _ _ _ _ _
      | exact LeO.none _
      | refine LeO.ite ?_ ?_
      | refine LeO.bind ?_ (fun _ => ?_)
    · intro y0 y1 y2 y3 y4 y5 y6
      unfold spec_Judge.l1
      repeat' first
      | (with_reducible exact ih0 _ _ _ _ _ _ _)
      | (with_reducible exact ih1 _ _ _ _ _ _ _)
      | (with_reducible exact spec_PolicyFault.mono _ _)
      | (with_reducible exact spec_l09Fits.mono _ _ _ _ _ _ _ _ _ _ _)
      | (with_reducible exact LeO.refl _)
      | (with_reducible exact LeO.none _)
      | (with_reducible refine LeO.ite ?_ ?_)
      | (with_reducible refine LeO.bind ?_ (fun _ => ?_))
      | exact ih0 _ _ _ _ _ _ _
      | exact ih1 _ _ _ _ _ _ _
      | exact spec_PolicyFault.mono _ _
      | exact spec_l09Fits.mono _ _ _ _ _ _ _ _ _ _ _
      | exact LeO.none _
      | refine LeO.ite ?_ ?_
      | refine LeO.bind ?_ (fun _ => ?_)
theorem spec_Judge.mono : ∀ a0 a1 a2 a3 a4 a5 k, LeO (spec_Judge.f k a0 a1 a2 a3 a4 a5) (spec_Judge.f (k + 1) a0 a1 a2 a3 a4 a5) := by
  intro a0 a1 a2 a3 a4 a5 k
  obtain ⟨ih0, ih1⟩ := spec_Judge.mono_l k
  unfold spec_Judge.f
  repeat' first
      | (with_reducible exact ih0 _ _ _ _ _ _ _)
      | (with_reducible exact ih1 _ _ _ _ _ _ _)
      | (with_reducible exact spec_PolicyFault.mono _ _)
      | (with_reducible exact spec_l09Fits.mono _ _ _ _ _ _ _ _ _ _ _)
      | (with_reducible exact LeO.refl _)
      | (with_reducible exact LeO.none _)
      | (with_reducible refine LeO.ite ?_ ?_)
      | (with_reducible refine LeO.bind ?_ (fun _ => ?_))
      | exact ih0 _ _ _ _ _ _ _
      | exact ih1 _ _ _ _ _ _ _
      | exact spec_PolicyFault.mono _ _
      | exact spec_l09Fits.mono _ _ _ _ _ _ _ _ _ _ _
      | exact LeO.none _
      | refine LeO.ite ?_ ?_
      | refine LeO.bind ?_ (fun _ => ?_)
def spec_Judge.T6 : Bool × List (List Nat × List Nat) := (true, [([], []), ([], []), ([0, 1], [0, 1]), ([2], [2]), ([3], [3]), ([4], [4]), ([5], [5]), ([6], [6]), ([6], [6]), ([7, 8, 6], [6, 7, 8]), ([9, 6], [6, 9]), ([6], [6]), ([10, 11, 6, 6], [6, 10, 11]), ([6, 12], [6, 12])])
def spec_Judge.B6 : List Nat := [0, 0, 3, 7, 15, 31, 63, 127, 127, 511, 1023, 127, 4095, 8191]
theorem spec_Judge.tab6 : rtab .any (opsOf Try.f48 6) = spec_Judge.T6 := by kernel_rfl
theorem spec_Judge.bits6 : waitsOk spec_Judge.T6.2 spec_Judge.B6 = true := by kernel_rfl
set_option maxHeartbeats 8000000 in
set_option maxRecDepth 100000 in
theorem spec_Judge.calls (k : Nat) (A0 : Option Addr) (c0 : Nat) (l0 : List (S132)) (a1_0 : ByteArray) (a1_1 : ByteArray) (a1_2 : ByteArray) (a1_3 : ByteArray) (a1_4 : Int) (r : Int) (w : World) (hr0 : Kd.C k132 w A0 l0.length l0) (hc0 : l0.length ≤ c0) (h : spec_Judge.f k l0 a1_0 a1_1 a1_2 a1_3 a1_4 = some r) :
  Calls Try.prog 48 #[.slice A0 l0.length c0, .agg #[.string a1_0, .string a1_1, .string a1_2, .string a1_3, .int .i64 a1_4]] w fun e w' => e = .returned (.int .i64 r) ∧ Below w.heap.size w w' := by
 have hu96 := Try.underlying96
 have hu132 := Try.underlying132
 have HR0 := Aside0.mk hr0
 have HC0 := Aside0.mk hc0
 clear hr0 hc0
 have HB := Aside0.mk (Below.refl w.heap.size w)
 have H : ((spec_PolicyFault.f k l0).bind fun t222 => (if t222 = 0 then (spec_Judge.l0 k l0 0 a1_0 a1_1 a1_2 a1_3 a1_4) else (some 0))) = some r := h
 clear h
 replace H := Option.bind_eq_some_iff.mp H
 obtain ⟨t222, A30, H⟩ := H
 replace H : (if t222 = 0 then (spec_Judge.l0 k l0 0 a1_0 a1_1 a1_2 a1_3 a1_4) else (some 0)) = some r := H
 have A3 := Aside0.mk A30
 clear A30
 by_cases c4 : t222 = 0
 ·
  rw [if_pos c4] at H
  have c4b0 : (t222 == 0) = true := beq_iff_eq.mpr c4
  have c4b1 : (t222 != 0) = false := bne_eq_false_iff_eq.mpr c4
  clear c4
  have H' := Aside0.mk H
  clear H
  go_enter Try.func48, Try.ntmps48
  go_wp2_with (first | ((with_reducible refine gate_dst (N := 3) rfl ?_); refine box_event ?hg (N := 3) ?hd (cs := #[.string a1_0, .string a1_1, .string a1_2, .string a1_3, .int .i64 a1_4]) (t := 96) ?hr ?_; (case hd => rfl); (case hg => rfl); (case hr => first | (go_simp; done) | (go_simp; rfl)); intro gb221 hg w5 hbox hb; have n0_ := Aside0.mk (below_step (by first | exact Grow.bl HB.out | exact HB.out) hb); have n1_ := Aside0.mk (hbox); have n2_ := Aside0.mk ((by rw [hg]; exact (below_size (by first | exact Grow.bl HB.out | exact HB.out)) : w.heap.size ≤ gb221)); have n3_ := Aside0.mk ((by rw [hg]; exact (below_size (by first | exact Grow.bl HB.out | exact HB.out)) : w.heap.size ≤ gb221)); clear HB; have HB := n0_; have BK221 := n1_; have GW221 := n2_; have GE221 := n3_; clear n0_ n1_ n2_ n3_; clear hb hbox hg) | ((with_reducible refine gate_callee (f := 21) rfl ?_); refine goesL_ (some 8) rfl rfl Try.func21 (by kernel_rfl) rfl #[.slice A0 l0.length c0] rfl (by (try simp only [List.map_toArray, List.map_cons, List.map_nil]); first | done | rfl | (simp only [List.length_drop, List.length_take]; rfl)) ?_; (with_reducible refine (spec_PolicyFault.calls k _ _ l0 t222 _ ?side1 ?side2 A3.out).mono ?_); (case side1 => first | exact Grow.cb HR0.out HB.out | exact Kd.C_below HR0.out HB.out); (case side2 => exact HC0.out); rintro e w6 ⟨rfl, hb⟩; refine ⟨_, rfl, ?_⟩; have n0_ := Aside0.mk (blk_below (g := gb221) (o := .cells #[.string a1_0, .string a1_1, .string a1_2, .string a1_3, .int .i64 a1_4] 96 (0, 0)) (by first | exact Grow.bk BK221.out | exact BK221.out) hb); have n1_ := Aside0.mk (below_step (by repeat (first | (with_reducible first | exact HB.out | apply below_alloc | apply pw_below_drewN | apply below_drew1 | refine below_set ?_ GE221.out) | exact HB.out)) hb); clear BK221; clear HB; have BK221 := n0_; have HB := n1_; clear n0_ n1_; (try clear hb); (try clear hb2); (try clear hk); (try clear hi)))
  go_loopg [5] k (fun kq v5 w' => ∃ (x5_1 : Int), v5 = .int .i64 x5_1 ∧ Aside0 (spec_Judge.l0 kq l0 x5_1 a1_0 a1_1 a1_2 a1_3 a1_4 = some r) ∧ Aside0 (kq ≤ k) ∧ Aside0 (w'.heap[gb221]? = some (.cells #[.string a1_0, .string a1_1, .string a1_2, .string a1_3, .int .i64 a1_4] 96 (0, 0))) ∧ Aside0 (Below w.heap.size w w'))
  case atStart => exact ⟨(0), (by first | rfl | (simp; done) | (simp [*]; done)), H', ⟨Nat.le_refl _⟩, ⟨by first | exact Grow.bk BK221.out | exact BK221.out⟩, ⟨by repeat (first | (with_reducible first | exact HB.out | apply below_alloc | apply pw_below_drewN | apply below_drew1 | refine below_set ?_ GE221.out) | exact HB.out)⟩⟩
  case round =>
   clear H'
   try clear c2
   try clear p2
   try clear c4
   try clear c4b0
   try clear c4b1
   obtain ⟨x5_1, rfl, HA, HK1, BK221, HB⟩ := hrel
   cases gk with
   | zero => exact absurd HA.out (by simp [spec_Judge.l0])
   | succ k1 =>
    have H := HA.out
    clear HA
    simp only [spec_Judge.l0] at H
    by_cases c7 : x5_1 < (l0.length : Int)
    ·
     rw [if_pos c7] at H
     have c7b0 : decide (x5_1 < (l0.length : Int)) = true := decide_eq_true c7
     clear c7
     by_cases c8 : 0 ≤ x5_1
     ·
      rw [if_pos c8] at H
      have c8b0 : decide (0 ≤ x5_1) = true := decide_eq_true c8
      clear c8
      by_cases c9 : ((rd_T132 l0 x5_1).f0) = 2
      ·
       rw [if_pos c9] at H
       have c9b0 : (((rd_T132 l0 x5_1).f0) == 2) = true := beq_iff_eq.mpr c9
       have c9b1 : (((rd_T132 l0 x5_1).f0) != 2) = false := bne_eq_false_iff_eq.mpr c9
       clear c9
       replace H := Option.bind_eq_some_iff.mp H
       obtain ⟨t225, A100, H⟩ := H
       replace H : (if t225 = true then (some 2) else (spec_Judge.l0 k1 l0 (wrap64 (x5_1 + 1)) a1_0 a1_1 a1_2 a1_3 a1_4)) = some r := H
       have A10 := Aside0.mk A100
       clear A100
       by_cases c11 : t225 = true
       ·
        subst c11
        have H1 : (some 2) = some r := by rw [if_pos rfl] at H; exact H
        clear H
        have H := H1
        clear H1
        obtain rfl := Option.some.inj H
        try go_wp2
        have n0_ := Aside0.mk (blk_drew BK221.out)
        have n1_ := Aside0.mk (below_drew1 HB.out)
        clear BK221
        clear HB
        have BK221 := n0_
        have HB := n1_
        clear n0_ n1_
        have p223 : 0 ≤ (x5_1 : Int) := of_decide_eq_true (by first | (with_reducible assumption) | assumption)
        have q223 : x5_1 < (l0.length : Int) := of_decide_eq_true (by first | (with_reducible assumption) | assumption)
        obtain ⟨ad223, A223_1, c223_1, A223_2, c223_2, A223_3, c223_3, A223_4, c223_4, e223, hx223_0, hx223_1, hx223_2, hx223_3, hx223_4, hl223_1, hi223_1, hl223_2, hi223_2, hl223_3, hi223_3, hl223_4, hi223_4⟩ := at_T132 HR0.out x5_1 p223 q223
        have hw223_4 := hx223_4
        have hw223_3 := hx223_3
        have hw223_2 := hx223_2
        have hw223_1 := hx223_1
        have hw223_0 := hx223_0
        cases e223
        replace hx223_0 := Grow.bc HB.out hx223_0
        replace hx223_1 := Grow.bc HB.out hx223_1
        replace hx223_2 := Grow.bc HB.out hx223_2
        replace hx223_3 := Grow.bc HB.out hx223_3
        replace hx223_4 := Grow.bc HB.out hx223_4
        have HR223_1 := Aside0.mk hi223_1
        have HC223_1 := Aside0.mk hl223_1
        clear hi223_1 hl223_1
        have HR223_2 := Aside0.mk hi223_2
        have HC223_2 := Aside0.mk hl223_2
        clear hi223_2 hl223_2
        have HR223_3 := Aside0.mk hi223_3
        have HC223_3 := Aside0.mk hl223_3
        clear hi223_3 hl223_3
        have HR223_4 := Aside0.mk hi223_4
        have HC223_4 := Aside0.mk hl223_4
        clear hi223_4 hl223_4
        replace p223 := eq_true p223
        replace q223 := eq_true q223
        have p224 : 0 ≤ (x5_1 : Int) := of_decide_eq_true (by first | (with_reducible assumption) | assumption)
        have q224 : x5_1 < (l0.length : Int) := of_decide_eq_true (by first | (with_reducible assumption) | assumption)
        obtain ⟨ad224, A224_1, c224_1, A224_2, c224_2, A224_3, c224_3, A224_4, c224_4, e224, hx224_0, hx224_1, hx224_2, hx224_3, hx224_4, hl224_1, hi224_1, hl224_2, hi224_2, hl224_3, hi224_3, hl224_4, hi224_4⟩ := at_T132 HR0.out x5_1 p224 q224
        have hw224_4 := hx224_4
        have hw224_3 := hx224_3
        have hw224_2 := hx224_2
        have hw224_1 := hx224_1
        have hw224_0 := hx224_0
        obtain rfl : ad223 = ad224 := (by injection e224)
        replace hx224_0 := Grow.bc HB.out hx224_0
        replace hx224_1 := Grow.bc HB.out hx224_1
        replace hx224_2 := Grow.bc HB.out hx224_2
        replace hx224_3 := Grow.bc HB.out hx224_3
        replace hx224_4 := Grow.bc HB.out hx224_4
        have HR224_1 := Aside0.mk hi224_1
        have HC224_1 := Aside0.mk hl224_1
        clear hi224_1 hl224_1
        have HR224_2 := Aside0.mk hi224_2
        have HC224_2 := Aside0.mk hl224_2
        clear hi224_2 hl224_2
        have HR224_3 := Aside0.mk hi224_3
        have HC224_3 := Aside0.mk hl224_3
        clear hi224_3 hl224_3
        have HR224_4 := Aside0.mk hi224_4
        have HC224_4 := Aside0.mk hl224_4
        clear hi224_4 hl224_4
        replace p224 := eq_true p224
        replace q224 := eq_true q224
        have ea_ := Option.some.inj (hx223_1.symm.trans hx224_1)
        injection ea_ with ea_ en_ ec_
        subst ea_
        subst ec_
        clear en_
        have ea_ := Option.some.inj (hx223_2.symm.trans hx224_2)
        injection ea_ with ea_ en_ ec_
        subst ea_
        subst ec_
        clear en_
        have ea_ := Option.some.inj (hx223_3.symm.trans hx224_3)
        injection ea_ with ea_ en_ ec_
        subst ea_
        subst ec_
        clear en_
        have ea_ := Option.some.inj (hx223_4.symm.trans hx224_4)
        injection ea_ with ea_ en_ ec_
        subst ea_
        subst ec_
        clear en_
        refine start_ (n := 14) (S := fun w' => w'.cell? ⟨gb221, 0, none⟩ = some (.string a1_0) ∧ w'.cell? ⟨gb221, 1, none⟩ = some (.string a1_1) ∧ w'.cell? ⟨gb221, 2, none⟩ = some (.string a1_2) ∧ w'.cell? ⟨gb221, 3, none⟩ = some (.string a1_3) ∧ w'.cell? ⟨gb221, 4, none⟩ = some (.int .i64 a1_4) ∧ w'.cell? (ad223.add ((x5_1).toNat * 5)) = some (.int .i64 ((rd_T132 l0 x5_1).f0)) ∧ w'.cell? ⟨(ad223.add ((x5_1).toNat * 5)).block, (ad223.add ((x5_1).toNat * 5)).off + 1, none⟩ = some (.slice A223_1 ((rd_T132 l0 x5_1).f1).length c223_1) ∧ w'.cell? ⟨(ad223.add ((x5_1).toNat * 5)).block, (ad223.add ((x5_1).toNat * 5)).off + 2, none⟩ = some (.slice A223_2 ((rd_T132 l0 x5_1).f2).length c223_2) ∧ w'.cell? ⟨(ad223.add ((x5_1).toNat * 5)).block, (ad223.add ((x5_1).toNat * 5)).off + 3, none⟩ = some (.slice A223_3 ((rd_T132 l0 x5_1).f3).length c223_3) ∧ w'.cell? ⟨(ad223.add ((x5_1).toNat * 5)).block, (ad223.add ((x5_1).toNat * 5)).off + 4, none⟩ = some (.slice A223_4 ((rd_T132 l0 x5_1).f4).length c223_4) ∧ w'.cell? (ad223.add ((x5_1).toNat * 5)) = some (.int .i64 ((rd_T132 l0 x5_1).f0)) ∧ w'.cell? ⟨(ad223.add ((x5_1).toNat * 5)).block, (ad223.add ((x5_1).toNat * 5)).off + 1, none⟩ = some (.slice A223_1 ((rd_T132 l0 x5_1).f1).length c223_1) ∧ w'.cell? ⟨(ad223.add ((x5_1).toNat * 5)).block, (ad223.add ((x5_1).toNat * 5)).off + 2, none⟩ = some (.slice A223_2 ((rd_T132 l0 x5_1).f2).length c223_2) ∧ w'.cell? ⟨(ad223.add ((x5_1).toNat * 5)).block, (ad223.add ((x5_1).toNat * 5)).off + 3, none⟩ = some (.slice A223_3 ((rd_T132 l0 x5_1).f3).length c223_3) ∧ w'.cell? ⟨(ad223.add ((x5_1).toNat * 5)).block, (ad223.add ((x5_1).toNat * 5)).off + 4, none⟩ = some (.slice A223_4 ((rd_T132 l0 x5_1).f4).length c223_4)) (ds := []) zf40 (by kernel_rfl) rfl rfl ⟨(blk_cell BK221.out 0).trans rfl, (blk_cell BK221.out 1).trans rfl, (blk_cell BK221.out 2).trans rfl, (blk_cell BK221.out 3).trans rfl, (blk_cell BK221.out 4).trans rfl, ((HB.out.cell (World.block_lt_of_cell? w _ hw223_0)).trans hw223_0), ((HB.out.cell (World.block_lt_of_cell? w _ hw223_1)).trans hw223_1), ((HB.out.cell (World.block_lt_of_cell? w _ hw223_2)).trans hw223_2), ((HB.out.cell (World.block_lt_of_cell? w _ hw223_3)).trans hw223_3), ((HB.out.cell (World.block_lt_of_cell? w _ hw223_4)).trans hw223_4), ((HB.out.cell (World.block_lt_of_cell? w _ hw224_0)).trans hw224_0), ((HB.out.cell (World.block_lt_of_cell? w _ hw224_1)).trans hw224_1), ((HB.out.cell (World.block_lt_of_cell? w _ hw224_2)).trans hw224_2), ((HB.out.cell (World.block_lt_of_cell? w _ hw224_3)).trans hw224_3), ((HB.out.cell (World.block_lt_of_cell? w _ hw224_4)).trans hw224_4)⟩ (fun hHeld => ?_); refine with_tabW spec_Judge.tab6 spec_Judge.bits6 (fun HT_ HW_ => ?_)
        generalize wr.drew = w12 at BK221 HB HR223_1 HR223_2 HR223_3 HR223_4 HR224_1 HR224_2 HR224_3 HR224_4 hx223_0 hx223_1 hx223_2 hx223_3 hx223_4 hx224_0 hx224_1 hx224_2 hx224_3 hx224_4 hHeld ⊢
        refine Cap.pu (v := ?_) (a' := ?_) 0 (some 16) zf41 HT_ rfl rfl (by kernel_rfl) (fun _ _ _ h => h) (Or.inl ⟨by rfl, ?_⟩) ?_ ?_; rotate_left; intro w'; go_simp; with_reducible rfl; rotate_left; simp only [Cap.pz]; rfl
        refine Cap.pu (v := ?_) (a' := ?_) 1 (some 17) zf42 HT_ rfl rfl (by kernel_rfl) (fun _ _ _ h => h) (Or.inl ⟨by rfl, ?_⟩) ?_ ?_; rotate_left; intro w'; go_simp; with_reducible rfl; rotate_left; simp only [Cap.pz]; rfl
        refine Cap.pu (v := ?_) (a' := ?_) 2 (some 18) zf43 HT_ rfl rfl (by kernel_rfl) (fun _ _ _ h => h) (Or.inl ⟨by rfl, ?_⟩) ?_ ?_; rotate_left; intro w'; go_simp; with_reducible rfl; rotate_left; simp only [Cap.pz]; rfl
        refine Cap.pu (v := ?_) (a' := ?_) 3 (some 19) zf44 HT_ rfl rfl (by kernel_rfl) (fun _ _ _ h => h) (Or.inl ⟨by rfl, ?_⟩) ?_ ?_; rotate_left; intro w'; go_simp; with_reducible rfl; rotate_left; simp only [Cap.pz]; rfl
        refine take_ (i := 4) (N := some 20) (v := ?_) (a' := ?_) zf45 rfl rfl (take_ofW HT_.out HW_.out (by kernel_rfl)) (fun _ _ _ h => h) (Or.inl ⟨by rfl, ?_⟩) hHeld ?_ ?_; rotate_left; rintro w' ⟨s0, s1, s2, s3, s4, s5, s6, s7, s8, s9, s10, s11, s12, s13, s14⟩; go_simp; with_reducible rfl; rotate_left; simp only [Cap.pz]; rfl
        refine Cap.pu (v := ?_) (a' := ?_) 5 (some 21) zf46 HT_ rfl rfl (by kernel_rfl) (fun _ _ _ h => h) (Or.inl ⟨by rfl, ?_⟩) ?_ ?_; rotate_left; intro w'; go_simp; with_reducible rfl; rotate_left; simp only [Cap.pz]; rfl
        refine Cap.pu (v := ?_) (a' := ?_) 6 (some 22) zf47 HT_ rfl rfl (by kernel_rfl) (fun _ _ _ h => h) (Or.inl ⟨by rfl, ?_⟩) ?_ ?_; rotate_left; intro w'; go_simp; with_reducible rfl; rotate_left; simp only [Cap.pz]; rfl
        refine Cap.pu (v := ?_) (a' := ?_) 7 (some 23) zf48 HT_ rfl rfl (by kernel_rfl) (fun _ _ _ h => h) (Or.inl ⟨by rfl, ?_⟩) ?_ ?_; rotate_left; intro w'; go_simp; with_reducible rfl; rotate_left; simp only [Cap.pz]; rfl
        refine Cap.pu (v := ?_) (a' := ?_) 8 (some 24) zf49 HT_ rfl rfl (by kernel_rfl) (fun _ _ _ h => h) (Or.inl ⟨by rfl, ?_⟩) ?_ ?_; rotate_left; intro w'; go_simp; with_reducible rfl; rotate_left; simp only [Cap.pz]; rfl
        refine Cap.pu (v := ?_) (a' := ?_) 9 (some 25) zf50 HT_ rfl rfl (by kernel_rfl) (fun _ _ _ h => h) (Or.inl ⟨by rfl, ?_⟩) ?_ ?_; rotate_left; intro w'; go_simp; with_reducible rfl; rotate_left; simp only [Cap.pz]; rfl
        refine take_ (i := 10) (N := some 26) (v := ?_) (a' := ?_) zf51 rfl rfl (take_ofW HT_.out HW_.out (by kernel_rfl)) (fun _ _ _ h => h) (Or.inl ⟨by rfl, ?_⟩) hHeld ?_ ?_; rotate_left; rintro w' ⟨s0, s1, s2, s3, s4, s5, s6, s7, s8, s9, s10, s11, s12, s13, s14⟩; go_simp; with_reducible rfl; rotate_left; simp only [Cap.pz]; rfl
        refine take_ (i := 11) (N := some 27) (v := ?_) (a' := ?_) zf52 rfl rfl (take_ofW HT_.out HW_.out (by kernel_rfl)) (fun _ _ _ h => h) (Or.inl ⟨by rfl, ?_⟩) hHeld ?_ ?_; rotate_left; rintro w' ⟨s0, s1, s2, s3, s4, s5, s6, s7, s8, s9, s10, s11, s12, s13, s14⟩; go_simp; with_reducible rfl; rotate_left; simp only [Cap.pz]; rfl
        refine one_ (i := 12) (N := some 28) zf53 rfl rfl (one_of HT_.out (by kernel_rfl)) (by decide) (fun K hK => ?_)
        refine goes_ Try.func94 (by kernel_rfl) rfl #[.agg #[.int .i64 ((rd_T132 l0 x5_1).f0), .slice A223_1 ((rd_T132 l0 x5_1).f1).length c223_1, .slice A223_2 ((rd_T132 l0 x5_1).f2).length c223_2, .slice A223_3 ((rd_T132 l0 x5_1).f3).length c223_3, .slice A223_4 ((rd_T132 l0 x5_1).f4).length c223_4], .agg #[.string a1_0, .string a1_1, .string a1_2, .string a1_3, .int .i64 a1_4]] (by rfl) rfl rfl (by (try simp only [List.map_toArray, List.map_cons, List.map_nil]); first | done | rfl | (simp only [List.length_drop, List.length_take]; rfl)) ?_
        with_reducible refine (spec_l09Fits.calls k1 ((rd_T132 l0 x5_1).f0) _ _ ((rd_T132 l0 x5_1).f1) _ _ ((rd_T132 l0 x5_1).f2) _ _ ((rd_T132 l0 x5_1).f3) _ _ ((rd_T132 l0 x5_1).f4) a1_0 a1_1 a1_2 a1_3 a1_4 true _ ?side1 ?side2 ?side3 ?side4 ?side5 ?side6 ?side7 ?side8 A10.out).mono ?_
        (case side1 => first | exact Grow.cb HR224_1.out HB.out | exact Kd.C_below HR224_1.out HB.out)
        (case side2 => exact HC224_1.out)
        (case side3 => first | exact Grow.cb HR224_2.out HB.out | exact Kd.C_below HR224_2.out HB.out)
        (case side4 => exact HC224_2.out)
        (case side5 => first | exact Grow.cb HR224_3.out HB.out | exact Kd.C_below HR224_3.out HB.out)
        (case side6 => exact HC224_3.out)
        (case side7 => first | exact Grow.cb HR224_4.out HB.out | exact Kd.C_below HR224_4.out HB.out)
        (case side8 => exact HC224_4.out)
        rintro e w13 ⟨rfl, hb⟩
        refine ⟨_, rfl, ?_⟩
        have n0_ := Aside0.mk (blk_below (g := gb221) (o := .cells #[.string a1_0, .string a1_1, .string a1_2, .string a1_3, .int .i64 a1_4] 96 (0, 0)) (by first | exact Grow.bk BK221.out | exact BK221.out) hb)
        have n1_ := Aside0.mk (below_step (by repeat (first | (with_reducible first | exact HB.out | apply below_alloc | apply pw_below_drewN | apply below_drew1 | refine below_set ?_ GE221.out) | exact HB.out)) hb)
        clear BK221
        clear HB
        have BK221 := n0_
        have HB := n1_
        clear n0_ n1_
        (try clear hb)
        (try clear hb2)
        (try clear hk)
        (try clear hi)
        refine hK.out _ _ ⟨(blk_cell BK221.out 0).trans rfl, (blk_cell BK221.out 1).trans rfl, (blk_cell BK221.out 2).trans rfl, (blk_cell BK221.out 3).trans rfl, (blk_cell BK221.out 4).trans rfl, ((HB.out.cell (World.block_lt_of_cell? w _ hw223_0)).trans hw223_0), ((HB.out.cell (World.block_lt_of_cell? w _ hw223_1)).trans hw223_1), ((HB.out.cell (World.block_lt_of_cell? w _ hw223_2)).trans hw223_2), ((HB.out.cell (World.block_lt_of_cell? w _ hw223_3)).trans hw223_3), ((HB.out.cell (World.block_lt_of_cell? w _ hw223_4)).trans hw223_4), ((HB.out.cell (World.block_lt_of_cell? w _ hw224_0)).trans hw224_0), ((HB.out.cell (World.block_lt_of_cell? w _ hw224_1)).trans hw224_1), ((HB.out.cell (World.block_lt_of_cell? w _ hw224_2)).trans hw224_2), ((HB.out.cell (World.block_lt_of_cell? w _ hw224_3)).trans hw224_3), ((HB.out.cell (World.block_lt_of_cell? w _ hw224_4)).trans hw224_4)⟩ (fun hHeld => ?_)
        clear hK K
        refine norm_ (a' := ?_) ?_ ?_; rotate_left; show Act.put _ (some 28) _ = _; simp only [Cap.pz]; rfl
        refine Cap.pu (v := ?_) (a' := ?_) 13 (some 29) zf54 HT_ rfl rfl (by kernel_rfl) (fun _ _ _ h => h) (Or.inl ⟨by rfl, ?_⟩) ?_ ?_; rotate_left; intro w'; go_simp; with_reducible rfl; rotate_left; simp only [Cap.pz]; rfl
        refine done_ (done_of HT_.out (by kernel_rfl)) ?_
        try go_wp2
        go_ret
        exact ⟨by first | rfl | (simp [errW_none, errW_some] <;> rfl) | (simp [*, errW_none, errW_some] <;> rfl), by repeat (first | (with_reducible first | exact HB.out | apply below_alloc | apply pw_below_drewN | apply below_drew1 | refine below_set ?_ GE221.out) | exact HB.out)⟩
       ·
        replace c11 := Bool.eq_false_iff.mpr c11
        subst c11
        have H1 : (spec_Judge.l0 k1 l0 (wrap64 (x5_1 + 1)) a1_0 a1_1 a1_2 a1_3 a1_4) = some r := by rw [if_neg (show ¬ (false = true) by decide)] at H; exact H
        clear H
        have H := H1
        clear H1
        have H' := Aside0.mk H
        clear H
        try go_wp2
        have n0_ := Aside0.mk (blk_drew BK221.out)
        have n1_ := Aside0.mk (below_drew1 HB.out)
        clear BK221
        clear HB
        have BK221 := n0_
        have HB := n1_
        clear n0_ n1_
        have p223 : 0 ≤ (x5_1 : Int) := of_decide_eq_true (by first | (with_reducible assumption) | assumption)
        have q223 : x5_1 < (l0.length : Int) := of_decide_eq_true (by first | (with_reducible assumption) | assumption)
        obtain ⟨ad223, A223_1, c223_1, A223_2, c223_2, A223_3, c223_3, A223_4, c223_4, e223, hx223_0, hx223_1, hx223_2, hx223_3, hx223_4, hl223_1, hi223_1, hl223_2, hi223_2, hl223_3, hi223_3, hl223_4, hi223_4⟩ := at_T132 HR0.out x5_1 p223 q223
        have hw223_4 := hx223_4
        have hw223_3 := hx223_3
        have hw223_2 := hx223_2
        have hw223_1 := hx223_1
        have hw223_0 := hx223_0
        cases e223
        replace hx223_0 := Grow.bc HB.out hx223_0
        replace hx223_1 := Grow.bc HB.out hx223_1
        replace hx223_2 := Grow.bc HB.out hx223_2
        replace hx223_3 := Grow.bc HB.out hx223_3
        replace hx223_4 := Grow.bc HB.out hx223_4
        have HR223_1 := Aside0.mk hi223_1
        have HC223_1 := Aside0.mk hl223_1
        clear hi223_1 hl223_1
        have HR223_2 := Aside0.mk hi223_2
        have HC223_2 := Aside0.mk hl223_2
        clear hi223_2 hl223_2
        have HR223_3 := Aside0.mk hi223_3
        have HC223_3 := Aside0.mk hl223_3
        clear hi223_3 hl223_3
        have HR223_4 := Aside0.mk hi223_4
        have HC223_4 := Aside0.mk hl223_4
        clear hi223_4 hl223_4
        replace p223 := eq_true p223
        replace q223 := eq_true q223
        have p224 : 0 ≤ (x5_1 : Int) := of_decide_eq_true (by first | (with_reducible assumption) | assumption)
        have q224 : x5_1 < (l0.length : Int) := of_decide_eq_true (by first | (with_reducible assumption) | assumption)
        obtain ⟨ad224, A224_1, c224_1, A224_2, c224_2, A224_3, c224_3, A224_4, c224_4, e224, hx224_0, hx224_1, hx224_2, hx224_3, hx224_4, hl224_1, hi224_1, hl224_2, hi224_2, hl224_3, hi224_3, hl224_4, hi224_4⟩ := at_T132 HR0.out x5_1 p224 q224
        have hw224_4 := hx224_4
        have hw224_3 := hx224_3
        have hw224_2 := hx224_2
        have hw224_1 := hx224_1
        have hw224_0 := hx224_0
        obtain rfl : ad223 = ad224 := (by injection e224)
        replace hx224_0 := Grow.bc HB.out hx224_0
        replace hx224_1 := Grow.bc HB.out hx224_1
        replace hx224_2 := Grow.bc HB.out hx224_2
        replace hx224_3 := Grow.bc HB.out hx224_3
        replace hx224_4 := Grow.bc HB.out hx224_4
        have HR224_1 := Aside0.mk hi224_1
        have HC224_1 := Aside0.mk hl224_1
        clear hi224_1 hl224_1
        have HR224_2 := Aside0.mk hi224_2
        have HC224_2 := Aside0.mk hl224_2
        clear hi224_2 hl224_2
        have HR224_3 := Aside0.mk hi224_3
        have HC224_3 := Aside0.mk hl224_3
        clear hi224_3 hl224_3
        have HR224_4 := Aside0.mk hi224_4
        have HC224_4 := Aside0.mk hl224_4
        clear hi224_4 hl224_4
        replace p224 := eq_true p224
        replace q224 := eq_true q224
        have ea_ := Option.some.inj (hx223_1.symm.trans hx224_1)
        injection ea_ with ea_ en_ ec_
        subst ea_
        subst ec_
        clear en_
        have ea_ := Option.some.inj (hx223_2.symm.trans hx224_2)
        injection ea_ with ea_ en_ ec_
        subst ea_
        subst ec_
        clear en_
        have ea_ := Option.some.inj (hx223_3.symm.trans hx224_3)
        injection ea_ with ea_ en_ ec_
        subst ea_
        subst ec_
        clear en_
        have ea_ := Option.some.inj (hx223_4.symm.trans hx224_4)
        injection ea_ with ea_ en_ ec_
        subst ea_
        subst ec_
        clear en_
        refine start_ (n := 14) (S := fun w' => w'.cell? ⟨gb221, 0, none⟩ = some (.string a1_0) ∧ w'.cell? ⟨gb221, 1, none⟩ = some (.string a1_1) ∧ w'.cell? ⟨gb221, 2, none⟩ = some (.string a1_2) ∧ w'.cell? ⟨gb221, 3, none⟩ = some (.string a1_3) ∧ w'.cell? ⟨gb221, 4, none⟩ = some (.int .i64 a1_4) ∧ w'.cell? (ad223.add ((x5_1).toNat * 5)) = some (.int .i64 ((rd_T132 l0 x5_1).f0)) ∧ w'.cell? ⟨(ad223.add ((x5_1).toNat * 5)).block, (ad223.add ((x5_1).toNat * 5)).off + 1, none⟩ = some (.slice A223_1 ((rd_T132 l0 x5_1).f1).length c223_1) ∧ w'.cell? ⟨(ad223.add ((x5_1).toNat * 5)).block, (ad223.add ((x5_1).toNat * 5)).off + 2, none⟩ = some (.slice A223_2 ((rd_T132 l0 x5_1).f2).length c223_2) ∧ w'.cell? ⟨(ad223.add ((x5_1).toNat * 5)).block, (ad223.add ((x5_1).toNat * 5)).off + 3, none⟩ = some (.slice A223_3 ((rd_T132 l0 x5_1).f3).length c223_3) ∧ w'.cell? ⟨(ad223.add ((x5_1).toNat * 5)).block, (ad223.add ((x5_1).toNat * 5)).off + 4, none⟩ = some (.slice A223_4 ((rd_T132 l0 x5_1).f4).length c223_4) ∧ w'.cell? (ad223.add ((x5_1).toNat * 5)) = some (.int .i64 ((rd_T132 l0 x5_1).f0)) ∧ w'.cell? ⟨(ad223.add ((x5_1).toNat * 5)).block, (ad223.add ((x5_1).toNat * 5)).off + 1, none⟩ = some (.slice A223_1 ((rd_T132 l0 x5_1).f1).length c223_1) ∧ w'.cell? ⟨(ad223.add ((x5_1).toNat * 5)).block, (ad223.add ((x5_1).toNat * 5)).off + 2, none⟩ = some (.slice A223_2 ((rd_T132 l0 x5_1).f2).length c223_2) ∧ w'.cell? ⟨(ad223.add ((x5_1).toNat * 5)).block, (ad223.add ((x5_1).toNat * 5)).off + 3, none⟩ = some (.slice A223_3 ((rd_T132 l0 x5_1).f3).length c223_3) ∧ w'.cell? ⟨(ad223.add ((x5_1).toNat * 5)).block, (ad223.add ((x5_1).toNat * 5)).off + 4, none⟩ = some (.slice A223_4 ((rd_T132 l0 x5_1).f4).length c223_4)) (ds := []) zf40 (by kernel_rfl) rfl rfl ⟨(blk_cell BK221.out 0).trans rfl, (blk_cell BK221.out 1).trans rfl, (blk_cell BK221.out 2).trans rfl, (blk_cell BK221.out 3).trans rfl, (blk_cell BK221.out 4).trans rfl, ((HB.out.cell (World.block_lt_of_cell? w _ hw223_0)).trans hw223_0), ((HB.out.cell (World.block_lt_of_cell? w _ hw223_1)).trans hw223_1), ((HB.out.cell (World.block_lt_of_cell? w _ hw223_2)).trans hw223_2), ((HB.out.cell (World.block_lt_of_cell? w _ hw223_3)).trans hw223_3), ((HB.out.cell (World.block_lt_of_cell? w _ hw223_4)).trans hw223_4), ((HB.out.cell (World.block_lt_of_cell? w _ hw224_0)).trans hw224_0), ((HB.out.cell (World.block_lt_of_cell? w _ hw224_1)).trans hw224_1), ((HB.out.cell (World.block_lt_of_cell? w _ hw224_2)).trans hw224_2), ((HB.out.cell (World.block_lt_of_cell? w _ hw224_3)).trans hw224_3), ((HB.out.cell (World.block_lt_of_cell? w _ hw224_4)).trans hw224_4)⟩ (fun hHeld => ?_); refine with_tabW spec_Judge.tab6 spec_Judge.bits6 (fun HT_ HW_ => ?_)
        generalize wr.drew = w14 at BK221 HB HR223_1 HR223_2 HR223_3 HR223_4 HR224_1 HR224_2 HR224_3 HR224_4 hx223_0 hx223_1 hx223_2 hx223_3 hx223_4 hx224_0 hx224_1 hx224_2 hx224_3 hx224_4 hHeld ⊢
        refine Cap.pu (v := ?_) (a' := ?_) 0 (some 16) zf41 HT_ rfl rfl (by kernel_rfl) (fun _ _ _ h => h) (Or.inl ⟨by rfl, ?_⟩) ?_ ?_; rotate_left; intro w'; go_simp; with_reducible rfl; rotate_left; simp only [Cap.pz]; rfl
        refine Cap.pu (v := ?_) (a' := ?_) 1 (some 17) zf42 HT_ rfl rfl (by kernel_rfl) (fun _ _ _ h => h) (Or.inl ⟨by rfl, ?_⟩) ?_ ?_; rotate_left; intro w'; go_simp; with_reducible rfl; rotate_left; simp only [Cap.pz]; rfl
        refine Cap.pu (v := ?_) (a' := ?_) 2 (some 18) zf43 HT_ rfl rfl (by kernel_rfl) (fun _ _ _ h => h) (Or.inl ⟨by rfl, ?_⟩) ?_ ?_; rotate_left; intro w'; go_simp; with_reducible rfl; rotate_left; simp only [Cap.pz]; rfl
        refine Cap.pu (v := ?_) (a' := ?_) 3 (some 19) zf44 HT_ rfl rfl (by kernel_rfl) (fun _ _ _ h => h) (Or.inl ⟨by rfl, ?_⟩) ?_ ?_; rotate_left; intro w'; go_simp; with_reducible rfl; rotate_left; simp only [Cap.pz]; rfl
        refine take_ (i := 4) (N := some 20) (v := ?_) (a' := ?_) zf45 rfl rfl (take_ofW HT_.out HW_.out (by kernel_rfl)) (fun _ _ _ h => h) (Or.inl ⟨by rfl, ?_⟩) hHeld ?_ ?_; rotate_left; rintro w' ⟨s0, s1, s2, s3, s4, s5, s6, s7, s8, s9, s10, s11, s12, s13, s14⟩; go_simp; with_reducible rfl; rotate_left; simp only [Cap.pz]; rfl
        refine Cap.pu (v := ?_) (a' := ?_) 5 (some 21) zf46 HT_ rfl rfl (by kernel_rfl) (fun _ _ _ h => h) (Or.inl ⟨by rfl, ?_⟩) ?_ ?_; rotate_left; intro w'; go_simp; with_reducible rfl; rotate_left; simp only [Cap.pz]; rfl
        refine Cap.pu (v := ?_) (a' := ?_) 6 (some 22) zf47 HT_ rfl rfl (by kernel_rfl) (fun _ _ _ h => h) (Or.inl ⟨by rfl, ?_⟩) ?_ ?_; rotate_left; intro w'; go_simp; with_reducible rfl; rotate_left; simp only [Cap.pz]; rfl
        refine Cap.pu (v := ?_) (a' := ?_) 7 (some 23) zf48 HT_ rfl rfl (by kernel_rfl) (fun _ _ _ h => h) (Or.inl ⟨by rfl, ?_⟩) ?_ ?_; rotate_left; intro w'; go_simp; with_reducible rfl; rotate_left; simp only [Cap.pz]; rfl
        refine Cap.pu (v := ?_) (a' := ?_) 8 (some 24) zf49 HT_ rfl rfl (by kernel_rfl) (fun _ _ _ h => h) (Or.inl ⟨by rfl, ?_⟩) ?_ ?_; rotate_left; intro w'; go_simp; with_reducible rfl; rotate_left; simp only [Cap.pz]; rfl
        refine Cap.pu (v := ?_) (a' := ?_) 9 (some 25) zf50 HT_ rfl rfl (by kernel_rfl) (fun _ _ _ h => h) (Or.inl ⟨by rfl, ?_⟩) ?_ ?_; rotate_left; intro w'; go_simp; with_reducible rfl; rotate_left; simp only [Cap.pz]; rfl
        refine take_ (i := 10) (N := some 26) (v := ?_) (a' := ?_) zf51 rfl rfl (take_ofW HT_.out HW_.out (by kernel_rfl)) (fun _ _ _ h => h) (Or.inl ⟨by rfl, ?_⟩) hHeld ?_ ?_; rotate_left; rintro w' ⟨s0, s1, s2, s3, s4, s5, s6, s7, s8, s9, s10, s11, s12, s13, s14⟩; go_simp; with_reducible rfl; rotate_left; simp only [Cap.pz]; rfl
        refine take_ (i := 11) (N := some 27) (v := ?_) (a' := ?_) zf52 rfl rfl (take_ofW HT_.out HW_.out (by kernel_rfl)) (fun _ _ _ h => h) (Or.inl ⟨by rfl, ?_⟩) hHeld ?_ ?_; rotate_left; rintro w' ⟨s0, s1, s2, s3, s4, s5, s6, s7, s8, s9, s10, s11, s12, s13, s14⟩; go_simp; with_reducible rfl; rotate_left; simp only [Cap.pz]; rfl
        refine one_ (i := 12) (N := some 28) zf53 rfl rfl (one_of HT_.out (by kernel_rfl)) (by decide) (fun K hK => ?_)
        refine goes_ Try.func94 (by kernel_rfl) rfl #[.agg #[.int .i64 ((rd_T132 l0 x5_1).f0), .slice A223_1 ((rd_T132 l0 x5_1).f1).length c223_1, .slice A223_2 ((rd_T132 l0 x5_1).f2).length c223_2, .slice A223_3 ((rd_T132 l0 x5_1).f3).length c223_3, .slice A223_4 ((rd_T132 l0 x5_1).f4).length c223_4], .agg #[.string a1_0, .string a1_1, .string a1_2, .string a1_3, .int .i64 a1_4]] (by rfl) rfl rfl (by (try simp only [List.map_toArray, List.map_cons, List.map_nil]); first | done | rfl | (simp only [List.length_drop, List.length_take]; rfl)) ?_
        with_reducible refine (spec_l09Fits.calls k1 ((rd_T132 l0 x5_1).f0) _ _ ((rd_T132 l0 x5_1).f1) _ _ ((rd_T132 l0 x5_1).f2) _ _ ((rd_T132 l0 x5_1).f3) _ _ ((rd_T132 l0 x5_1).f4) a1_0 a1_1 a1_2 a1_3 a1_4 false _ ?side1 ?side2 ?side3 ?side4 ?side5 ?side6 ?side7 ?side8 A10.out).mono ?_
        (case side1 => first | exact Grow.cb HR224_1.out HB.out | exact Kd.C_below HR224_1.out HB.out)
        (case side2 => exact HC224_1.out)
        (case side3 => first | exact Grow.cb HR224_2.out HB.out | exact Kd.C_below HR224_2.out HB.out)
        (case side4 => exact HC224_2.out)
        (case side5 => first | exact Grow.cb HR224_3.out HB.out | exact Kd.C_below HR224_3.out HB.out)
        (case side6 => exact HC224_3.out)
        (case side7 => first | exact Grow.cb HR224_4.out HB.out | exact Kd.C_below HR224_4.out HB.out)
        (case side8 => exact HC224_4.out)
        rintro e w15 ⟨rfl, hb⟩
        refine ⟨_, rfl, ?_⟩
        have n0_ := Aside0.mk (blk_below (g := gb221) (o := .cells #[.string a1_0, .string a1_1, .string a1_2, .string a1_3, .int .i64 a1_4] 96 (0, 0)) (by first | exact Grow.bk BK221.out | exact BK221.out) hb)
        have n1_ := Aside0.mk (below_step (by repeat (first | (with_reducible first | exact HB.out | apply below_alloc | apply pw_below_drewN | apply below_drew1 | refine below_set ?_ GE221.out) | exact HB.out)) hb)
        clear BK221
        clear HB
        have BK221 := n0_
        have HB := n1_
        clear n0_ n1_
        (try clear hb)
        (try clear hb2)
        (try clear hk)
        (try clear hi)
        refine hK.out _ _ ⟨(blk_cell BK221.out 0).trans rfl, (blk_cell BK221.out 1).trans rfl, (blk_cell BK221.out 2).trans rfl, (blk_cell BK221.out 3).trans rfl, (blk_cell BK221.out 4).trans rfl, ((HB.out.cell (World.block_lt_of_cell? w _ hw223_0)).trans hw223_0), ((HB.out.cell (World.block_lt_of_cell? w _ hw223_1)).trans hw223_1), ((HB.out.cell (World.block_lt_of_cell? w _ hw223_2)).trans hw223_2), ((HB.out.cell (World.block_lt_of_cell? w _ hw223_3)).trans hw223_3), ((HB.out.cell (World.block_lt_of_cell? w _ hw223_4)).trans hw223_4), ((HB.out.cell (World.block_lt_of_cell? w _ hw224_0)).trans hw224_0), ((HB.out.cell (World.block_lt_of_cell? w _ hw224_1)).trans hw224_1), ((HB.out.cell (World.block_lt_of_cell? w _ hw224_2)).trans hw224_2), ((HB.out.cell (World.block_lt_of_cell? w _ hw224_3)).trans hw224_3), ((HB.out.cell (World.block_lt_of_cell? w _ hw224_4)).trans hw224_4)⟩ (fun hHeld => ?_)
        clear hK K
        refine norm_ (a' := ?_) ?_ ?_; rotate_left; show Act.put _ (some 28) _ = _; simp only [Cap.pz]; rfl
        refine Cap.pu (v := ?_) (a' := ?_) 13 (some 29) zf54 HT_ rfl rfl (by kernel_rfl) (fun _ _ _ h => h) (Or.inl ⟨by rfl, ?_⟩) ?_ ?_; rotate_left; intro w'; go_simp; with_reducible rfl; rotate_left; simp only [Cap.pz]; rfl
        refine done_ (done_of HT_.out (by kernel_rfl)) ?_
        try go_wp2
        go_roundg k1
        case measure => have := HK1.out; omega
        case rel => exact ⟨(wrap64 (x5_1 + 1)), (by first | rfl | (simp; done) | (simp [*]; done)), H', ⟨by have := HK1.out; omega⟩, ⟨by first | exact Grow.bk BK221.out | exact BK221.out⟩, ⟨by repeat (first | (with_reducible first | exact HB.out | apply below_alloc | apply pw_below_drewN | apply below_drew1 | refine below_set ?_ GE221.out) | exact HB.out)⟩⟩
      ·
       rw [if_neg c9] at H
       have c9b0 : (((rd_T132 l0 x5_1).f0) == 2) = false := beq_eq_false_iff_ne.mpr c9
       have c9b1 : (((rd_T132 l0 x5_1).f0) != 2) = true := bne_iff_ne.mpr c9
       have H' := Aside0.mk H
       clear H
       try go_wp2
       have n0_ := Aside0.mk (blk_drew BK221.out)
       have n1_ := Aside0.mk (below_drew1 HB.out)
       clear BK221
       clear HB
       have BK221 := n0_
       have HB := n1_
       clear n0_ n1_
       have p223 : 0 ≤ (x5_1 : Int) := of_decide_eq_true (by first | (with_reducible assumption) | assumption)
       have q223 : x5_1 < (l0.length : Int) := of_decide_eq_true (by first | (with_reducible assumption) | assumption)
       obtain ⟨ad223, A223_1, c223_1, A223_2, c223_2, A223_3, c223_3, A223_4, c223_4, e223, hx223_0, hx223_1, hx223_2, hx223_3, hx223_4, hl223_1, hi223_1, hl223_2, hi223_2, hl223_3, hi223_3, hl223_4, hi223_4⟩ := at_T132 HR0.out x5_1 p223 q223
       have hw223_4 := hx223_4
       have hw223_3 := hx223_3
       have hw223_2 := hx223_2
       have hw223_1 := hx223_1
       have hw223_0 := hx223_0
       cases e223
       replace hx223_0 := Grow.bc HB.out hx223_0
       replace hx223_1 := Grow.bc HB.out hx223_1
       replace hx223_2 := Grow.bc HB.out hx223_2
       replace hx223_3 := Grow.bc HB.out hx223_3
       replace hx223_4 := Grow.bc HB.out hx223_4
       have HR223_1 := Aside0.mk hi223_1
       have HC223_1 := Aside0.mk hl223_1
       clear hi223_1 hl223_1
       have HR223_2 := Aside0.mk hi223_2
       have HC223_2 := Aside0.mk hl223_2
       clear hi223_2 hl223_2
       have HR223_3 := Aside0.mk hi223_3
       have HC223_3 := Aside0.mk hl223_3
       clear hi223_3 hl223_3
       have HR223_4 := Aside0.mk hi223_4
       have HC223_4 := Aside0.mk hl223_4
       clear hi223_4 hl223_4
       replace p223 := eq_true p223
       replace q223 := eq_true q223
       refine start_ (n := 14) (S := fun w' => w'.cell? (ad223.add ((x5_1).toNat * 5)) = some (.int .i64 ((rd_T132 l0 x5_1).f0)) ∧ w'.cell? ⟨(ad223.add ((x5_1).toNat * 5)).block, (ad223.add ((x5_1).toNat * 5)).off + 1, none⟩ = some (.slice A223_1 ((rd_T132 l0 x5_1).f1).length c223_1) ∧ w'.cell? ⟨(ad223.add ((x5_1).toNat * 5)).block, (ad223.add ((x5_1).toNat * 5)).off + 2, none⟩ = some (.slice A223_2 ((rd_T132 l0 x5_1).f2).length c223_2) ∧ w'.cell? ⟨(ad223.add ((x5_1).toNat * 5)).block, (ad223.add ((x5_1).toNat * 5)).off + 3, none⟩ = some (.slice A223_3 ((rd_T132 l0 x5_1).f3).length c223_3) ∧ w'.cell? ⟨(ad223.add ((x5_1).toNat * 5)).block, (ad223.add ((x5_1).toNat * 5)).off + 4, none⟩ = some (.slice A223_4 ((rd_T132 l0 x5_1).f4).length c223_4)) (ds := []) zf40 (by kernel_rfl) rfl rfl ⟨((HB.out.cell (World.block_lt_of_cell? w _ hw223_0)).trans hw223_0), ((HB.out.cell (World.block_lt_of_cell? w _ hw223_1)).trans hw223_1), ((HB.out.cell (World.block_lt_of_cell? w _ hw223_2)).trans hw223_2), ((HB.out.cell (World.block_lt_of_cell? w _ hw223_3)).trans hw223_3), ((HB.out.cell (World.block_lt_of_cell? w _ hw223_4)).trans hw223_4)⟩ (fun hHeld => ?_); refine with_tabW spec_Judge.tab6 spec_Judge.bits6 (fun HT_ HW_ => ?_)
       generalize wr.drew = w16 at BK221 HB HR223_1 HR223_2 HR223_3 HR223_4 hx223_0 hx223_1 hx223_2 hx223_3 hx223_4 hHeld ⊢
       refine Cap.pu (v := ?_) (a' := ?_) 0 (some 16) zf41 HT_ rfl rfl (by kernel_rfl) (fun _ _ _ h => h) (Or.inl ⟨by rfl, ?_⟩) ?_ ?_; rotate_left; intro w'; go_simp; with_reducible rfl; rotate_left; simp only [Cap.pz]; rfl
       refine Cap.pu (v := ?_) (a' := ?_) 1 (some 17) zf42 HT_ rfl rfl (by kernel_rfl) (fun _ _ _ h => h) (Or.inl ⟨by rfl, ?_⟩) ?_ ?_; rotate_left; intro w'; go_simp; with_reducible rfl; rotate_left; simp only [Cap.pz]; rfl
       refine Cap.pu (v := ?_) (a' := ?_) 2 (some 18) zf43 HT_ rfl rfl (by kernel_rfl) (fun _ _ _ h => h) (Or.inl ⟨by rfl, ?_⟩) ?_ ?_; rotate_left; intro w'; go_simp; with_reducible rfl; rotate_left; simp only [Cap.pz]; rfl
       refine Cap.pu (v := ?_) (a' := ?_) 3 (some 19) zf44 HT_ rfl rfl (by kernel_rfl) (fun _ _ _ h => h) (Or.inl ⟨by rfl, ?_⟩) ?_ ?_; rotate_left; intro w'; go_simp; with_reducible rfl; rotate_left; simp only [Cap.pz]; rfl
       refine take_ (i := 4) (N := some 20) (v := ?_) (a' := ?_) zf45 rfl rfl (take_ofW HT_.out HW_.out (by kernel_rfl)) (fun _ _ _ h => h) (Or.inl ⟨by rfl, ?_⟩) hHeld ?_ ?_; rotate_left; rintro w' ⟨s0, s1, s2, s3, s4⟩; go_simp; with_reducible rfl; rotate_left; simp only [Cap.pz]; rfl
       refine Cap.pu (v := ?_) (a' := ?_) 5 (some 21) zf46 HT_ rfl rfl (by kernel_rfl) (fun _ _ _ h => h) (Or.inl ⟨by rfl, ?_⟩) ?_ ?_; rotate_left; intro w'; go_simp; with_reducible rfl; rotate_left; simp only [Cap.pz]; rfl
       refine Cap.pu (v := ?_) (a' := ?_) 6 (some 22) zf47 HT_ rfl rfl (by kernel_rfl) (fun _ _ _ h => h) (Or.inl ⟨by rfl, ?_⟩) ?_ ?_; rotate_left; intro w'; go_simp; with_reducible rfl; rotate_left; simp only [Cap.pz]; rfl
       refine Cap.pu (v := undef) (a' := ?_) 7 (some 23) zf48 HT_ rfl rfl (by kernel_rfl) (fun _ _ _ h => h) (Or.inr ⟨by rfl, rfl⟩) ?_ ?_; rotate_left; simp only [Cap.pz]; rfl
       refine Cap.pu (v := undef) (a' := ?_) 8 (some 24) zf49 HT_ rfl rfl (by kernel_rfl) (fun _ _ _ h => h) (Or.inr ⟨by rfl, rfl⟩) ?_ ?_; rotate_left; simp only [Cap.pz]; rfl
       refine Cap.pu (v := undef) (a' := ?_) 9 (some 25) zf50 HT_ rfl rfl (by kernel_rfl) (fun _ _ _ h => h) (Or.inr ⟨by rfl, rfl⟩) ?_ ?_; rotate_left; simp only [Cap.pz]; rfl
       refine Cap.pu (v := undef) (a' := ?_) 10 (some 26) zf51 HT_ rfl rfl (by kernel_rfl) (fun _ _ _ h => h) (Or.inr ⟨by rfl, rfl⟩) ?_ ?_; rotate_left; simp only [Cap.pz]; rfl
       refine Cap.pu (v := undef) (a' := ?_) 11 (some 27) zf52 HT_ rfl rfl (by kernel_rfl) (fun _ _ _ h => h) (Or.inr ⟨by rfl, rfl⟩) ?_ ?_; rotate_left; simp only [Cap.pz]; rfl
       refine Cap.pu (v := undef) (a' := ?_) 12 (some 28) zf53 HT_ rfl rfl (by kernel_rfl) (fun _ _ _ h => h) (Or.inr ⟨by rfl, rfl⟩) ?_ ?_; rotate_left; simp only [Cap.pz]; rfl
       refine Cap.pu (v := ?_) (a' := ?_) 13 (some 29) zf54 HT_ rfl rfl (by kernel_rfl) (fun _ _ _ h => h) (Or.inl ⟨by rfl, ?_⟩) ?_ ?_; rotate_left; intro w'; go_simp; with_reducible rfl; rotate_left; simp only [Cap.pz]; rfl
       refine done_ (done_of HT_.out (by kernel_rfl)) ?_
       try go_wp2
       go_roundg k1
       case measure => have := HK1.out; omega
       case rel => exact ⟨(wrap64 (x5_1 + 1)), (by first | rfl | (simp; done) | (simp [*]; done)), H', ⟨by have := HK1.out; omega⟩, ⟨by first | exact Grow.bk BK221.out | exact BK221.out⟩, ⟨by repeat (first | (with_reducible first | exact HB.out | apply below_alloc | apply pw_below_drewN | apply below_drew1 | refine below_set ?_ GE221.out) | exact HB.out)⟩⟩
     ·
      rw [if_neg c8] at H
      exact absurd H (by simp)
    ·
     rw [if_neg c7] at H
     have c7b0 : decide (x5_1 < (l0.length : Int)) = false := decide_eq_false c7
     clear c7
     have H' := Aside0.mk H
     clear H
     go_wp2
     go_loopg [6] k1 (fun kq v6 w' => ∃ (x6_2 : Int), v6 = .int .i64 x6_2 ∧ Aside0 (spec_Judge.l1 kq l0 x6_2 a1_0 a1_1 a1_2 a1_3 a1_4 = some r) ∧ Aside0 (kq ≤ k1) ∧ Aside0 (w'.heap[gb221]? = some (.cells #[.string a1_0, .string a1_1, .string a1_2, .string a1_3, .int .i64 a1_4] 96 (0, 0))) ∧ Aside0 (Below w.heap.size w w'))
     case atStart => exact ⟨(0), (by first | rfl | (simp; done) | (simp [*]; done)), H', ⟨Nat.le_refl _⟩, ⟨by first | exact Grow.bk BK221.out | exact BK221.out⟩, ⟨by repeat (first | (with_reducible first | exact HB.out | apply below_alloc | apply pw_below_drewN | apply below_drew1 | refine below_set ?_ GE221.out) | exact HB.out)⟩⟩
     case round =>
      clear H'
      try clear c1
      try clear c2
      try clear p2
      try clear q2
      try clear hx2
      try clear p6
      try clear c7
      try clear c7b0
      try clear c8
      try clear c9
      try clear c9b0
      try clear c9b1
      try clear c11
      try clear hx223_0
      try clear hx223_1
      try clear hx223_2
      try clear hx223_3
      try clear hx223_4
      try clear hx224_0
      try clear hx224_1
      try clear hx224_2
      try clear hx224_3
      try clear hx224_4
      try clear p223
      try clear p224
      try clear q223
      try clear q224
      obtain ⟨x6_2, rfl, HA, HK2, BK221, HB⟩ := hrel
      cases gk with
      | zero => exact absurd HA.out (by simp [spec_Judge.l1])
      | succ k2 =>
       have H := HA.out
       clear HA
       simp only [spec_Judge.l1] at H
       by_cases c17 : x6_2 < (l0.length : Int)
       ·
        rw [if_pos c17] at H
        have c17b0 : decide (x6_2 < (l0.length : Int)) = true := decide_eq_true c17
        clear c17
        by_cases c18 : 0 ≤ x6_2
        ·
         rw [if_pos c18] at H
         have c18b0 : decide (0 ≤ x6_2) = true := decide_eq_true c18
         clear c18
         replace H := Option.bind_eq_some_iff.mp H
         obtain ⟨t227, A190, H⟩ := H
         replace H : (if t227 = true then (some 1) else (spec_Judge.l1 k2 l0 (wrap64 (x6_2 + 1)) a1_0 a1_1 a1_2 a1_3 a1_4)) = some r := H
         have A19 := Aside0.mk A190
         clear A190
         by_cases c20 : t227 = true
         ·
          subst c20
          have H1 : (some 1) = some r := by rw [if_pos rfl] at H; exact H
          clear H
          have H := H1
          clear H1
          obtain rfl := Option.some.inj H
          try go_wp2
          have n0_ := Aside0.mk (blk_drew BK221.out)
          have n1_ := Aside0.mk (below_drew1 HB.out)
          clear BK221
          clear HB
          have BK221 := n0_
          have HB := n1_
          clear n0_ n1_
          have p226 : 0 ≤ (x6_2 : Int) := of_decide_eq_true (by first | (with_reducible assumption) | assumption)
          have q226 : x6_2 < (l0.length : Int) := of_decide_eq_true (by first | (with_reducible assumption) | assumption)
          obtain ⟨ad226, A226_1, c226_1, A226_2, c226_2, A226_3, c226_3, A226_4, c226_4, e226, hx226_0, hx226_1, hx226_2, hx226_3, hx226_4, hl226_1, hi226_1, hl226_2, hi226_2, hl226_3, hi226_3, hl226_4, hi226_4⟩ := at_T132 HR0.out x6_2 p226 q226
          have hw226_4 := hx226_4
          have hw226_3 := hx226_3
          have hw226_2 := hx226_2
          have hw226_1 := hx226_1
          have hw226_0 := hx226_0
          cases e226
          replace hx226_0 := Grow.bc HB.out hx226_0
          replace hx226_1 := Grow.bc HB.out hx226_1
          replace hx226_2 := Grow.bc HB.out hx226_2
          replace hx226_3 := Grow.bc HB.out hx226_3
          replace hx226_4 := Grow.bc HB.out hx226_4
          have HR226_1 := Aside0.mk hi226_1
          have HC226_1 := Aside0.mk hl226_1
          clear hi226_1 hl226_1
          have HR226_2 := Aside0.mk hi226_2
          have HC226_2 := Aside0.mk hl226_2
          clear hi226_2 hl226_2
          have HR226_3 := Aside0.mk hi226_3
          have HC226_3 := Aside0.mk hl226_3
          clear hi226_3 hl226_3
          have HR226_4 := Aside0.mk hi226_4
          have HC226_4 := Aside0.mk hl226_4
          clear hi226_4 hl226_4
          replace p226 := eq_true p226
          replace q226 := eq_true q226
          refine start_ (n := 6) (S := fun w' => w'.cell? ⟨gb221, 0, none⟩ = some (.string a1_0) ∧ w'.cell? ⟨gb221, 1, none⟩ = some (.string a1_1) ∧ w'.cell? ⟨gb221, 2, none⟩ = some (.string a1_2) ∧ w'.cell? ⟨gb221, 3, none⟩ = some (.string a1_3) ∧ w'.cell? ⟨gb221, 4, none⟩ = some (.int .i64 a1_4) ∧ w'.cell? (ad226.add ((x6_2).toNat * 5)) = some (.int .i64 ((rd_T132 l0 x6_2).f0)) ∧ w'.cell? ⟨(ad226.add ((x6_2).toNat * 5)).block, (ad226.add ((x6_2).toNat * 5)).off + 1, none⟩ = some (.slice A226_1 ((rd_T132 l0 x6_2).f1).length c226_1) ∧ w'.cell? ⟨(ad226.add ((x6_2).toNat * 5)).block, (ad226.add ((x6_2).toNat * 5)).off + 2, none⟩ = some (.slice A226_2 ((rd_T132 l0 x6_2).f2).length c226_2) ∧ w'.cell? ⟨(ad226.add ((x6_2).toNat * 5)).block, (ad226.add ((x6_2).toNat * 5)).off + 3, none⟩ = some (.slice A226_3 ((rd_T132 l0 x6_2).f3).length c226_3) ∧ w'.cell? ⟨(ad226.add ((x6_2).toNat * 5)).block, (ad226.add ((x6_2).toNat * 5)).off + 4, none⟩ = some (.slice A226_4 ((rd_T132 l0 x6_2).f4).length c226_4)) (ds := []) #[false, false, false, false, false, false] (by kernel_rfl) rfl rfl ⟨(blk_cell BK221.out 0).trans rfl, (blk_cell BK221.out 1).trans rfl, (blk_cell BK221.out 2).trans rfl, (blk_cell BK221.out 3).trans rfl, (blk_cell BK221.out 4).trans rfl, ((HB.out.cell (World.block_lt_of_cell? w _ hw226_0)).trans hw226_0), ((HB.out.cell (World.block_lt_of_cell? w _ hw226_1)).trans hw226_1), ((HB.out.cell (World.block_lt_of_cell? w _ hw226_2)).trans hw226_2), ((HB.out.cell (World.block_lt_of_cell? w _ hw226_3)).trans hw226_3), ((HB.out.cell (World.block_lt_of_cell? w _ hw226_4)).trans hw226_4)⟩ (fun hHeld => ?_)
          generalize wr.drew = w21 at BK221 HB HR226_1 HR226_2 HR226_3 HR226_4 hx226_0 hx226_1 hx226_2 hx226_3 hx226_4 hHeld ⊢
          refine pure_ (i := 0) (N := some 36) (v := ?_) (a' := ?_) #[true, false, false, false, false, false] rfl rfl (by kernel_rfl) (fun _ _ _ h => h) (Or.inl ⟨by rfl, ?_⟩) ?_ ?_; rotate_left; intro w'; go_simp; with_reducible rfl; rotate_left; simp only [Cap.pz]; rfl
          refine pure_ (i := 1) (N := some 37) (v := ?_) (a' := ?_) #[true, true, false, false, false, false] rfl rfl (by kernel_rfl) (fun _ _ _ h => h) (Or.inl ⟨by rfl, ?_⟩) ?_ ?_; rotate_left; intro w'; go_simp; with_reducible rfl; rotate_left; simp only [Cap.pz]; rfl
          refine pure_ (i := 2) (N := some 38) (v := ?_) (a' := ?_) #[true, true, true, false, false, false] rfl rfl (by kernel_rfl) (fun _ _ _ h => h) (Or.inl ⟨by rfl, ?_⟩) ?_ ?_; rotate_left; intro w'; go_simp; with_reducible rfl; rotate_left; simp only [Cap.pz]; rfl
          refine take_ (i := 3) (N := some 39) (v := ?_) (a' := ?_) #[true, true, true, true, false, false] rfl rfl (by kernel_rfl) (fun _ _ _ h => h) (Or.inl ⟨by rfl, ?_⟩) hHeld ?_ ?_; rotate_left; rintro w' ⟨s0, s1, s2, s3, s4, s5, s6, s7, s8, s9⟩; go_simp; with_reducible rfl; rotate_left; simp only [Cap.pz]; rfl
          refine take_ (i := 4) (N := some 40) (v := ?_) (a' := ?_) #[true, true, true, true, true, false] rfl rfl (by kernel_rfl) (fun _ _ _ h => h) (Or.inl ⟨by rfl, ?_⟩) hHeld ?_ ?_; rotate_left; rintro w' ⟨s0, s1, s2, s3, s4, s5, s6, s7, s8, s9⟩; go_simp; with_reducible rfl; rotate_left; simp only [Cap.pz]; rfl
          refine one_ (i := 5) (N := some 41) #[true, true, true, true, true, true] rfl rfl (by kernel_rfl) (by decide) (fun K hK => ?_)
          refine goes_ Try.func94 (by kernel_rfl) rfl #[.agg #[.int .i64 ((rd_T132 l0 x6_2).f0), .slice A226_1 ((rd_T132 l0 x6_2).f1).length c226_1, .slice A226_2 ((rd_T132 l0 x6_2).f2).length c226_2, .slice A226_3 ((rd_T132 l0 x6_2).f3).length c226_3, .slice A226_4 ((rd_T132 l0 x6_2).f4).length c226_4], .agg #[.string a1_0, .string a1_1, .string a1_2, .string a1_3, .int .i64 a1_4]] (by rfl) rfl rfl (by (try simp only [List.map_toArray, List.map_cons, List.map_nil]); first | done | rfl | (simp only [List.length_drop, List.length_take]; rfl)) ?_
          with_reducible refine (spec_l09Fits.calls k2 ((rd_T132 l0 x6_2).f0) _ _ ((rd_T132 l0 x6_2).f1) _ _ ((rd_T132 l0 x6_2).f2) _ _ ((rd_T132 l0 x6_2).f3) _ _ ((rd_T132 l0 x6_2).f4) a1_0 a1_1 a1_2 a1_3 a1_4 true _ ?side1 ?side2 ?side3 ?side4 ?side5 ?side6 ?side7 ?side8 A19.out).mono ?_
          (case side1 => first | exact Grow.cb HR226_1.out HB.out | exact Kd.C_below HR226_1.out HB.out)
          (case side2 => exact HC226_1.out)
          (case side3 => first | exact Grow.cb HR226_2.out HB.out | exact Kd.C_below HR226_2.out HB.out)
          (case side4 => exact HC226_2.out)
          (case side5 => first | exact Grow.cb HR226_3.out HB.out | exact Kd.C_below HR226_3.out HB.out)
          (case side6 => exact HC226_3.out)
          (case side7 => first | exact Grow.cb HR226_4.out HB.out | exact Kd.C_below HR226_4.out HB.out)
          (case side8 => exact HC226_4.out)
          rintro e w22 ⟨rfl, hb⟩
          refine ⟨_, rfl, ?_⟩
          have n0_ := Aside0.mk (blk_below (g := gb221) (o := .cells #[.string a1_0, .string a1_1, .string a1_2, .string a1_3, .int .i64 a1_4] 96 (0, 0)) (by first | exact Grow.bk BK221.out | exact BK221.out) hb)
          have n1_ := Aside0.mk (below_step (by repeat (first | (with_reducible first | exact HB.out | apply below_alloc | apply pw_below_drewN | apply below_drew1 | refine below_set ?_ GE221.out) | exact HB.out)) hb)
          clear BK221
          clear HB
          have BK221 := n0_
          have HB := n1_
          clear n0_ n1_
          (try clear hb)
          (try clear hb2)
          (try clear hk)
          (try clear hi)
          refine hK.out _ _ ⟨(blk_cell BK221.out 0).trans rfl, (blk_cell BK221.out 1).trans rfl, (blk_cell BK221.out 2).trans rfl, (blk_cell BK221.out 3).trans rfl, (blk_cell BK221.out 4).trans rfl, ((HB.out.cell (World.block_lt_of_cell? w _ hw226_0)).trans hw226_0), ((HB.out.cell (World.block_lt_of_cell? w _ hw226_1)).trans hw226_1), ((HB.out.cell (World.block_lt_of_cell? w _ hw226_2)).trans hw226_2), ((HB.out.cell (World.block_lt_of_cell? w _ hw226_3)).trans hw226_3), ((HB.out.cell (World.block_lt_of_cell? w _ hw226_4)).trans hw226_4)⟩ (fun hHeld => ?_)
          clear hK K
          refine norm_ (a' := ?_) ?_ ?_; rotate_left; show Act.put _ (some 41) _ = _; simp only [Cap.pz]; rfl
          refine done_ (by kernel_rfl) ?_
          try go_wp2
          go_ret
          exact ⟨by first | rfl | (simp [errW_none, errW_some] <;> rfl) | (simp [*, errW_none, errW_some] <;> rfl), by repeat (first | (with_reducible first | exact HB.out | apply below_alloc | apply pw_below_drewN | apply below_drew1 | refine below_set ?_ GE221.out) | exact HB.out)⟩
         ·
          replace c20 := Bool.eq_false_iff.mpr c20
          subst c20
          have H1 : (spec_Judge.l1 k2 l0 (wrap64 (x6_2 + 1)) a1_0 a1_1 a1_2 a1_3 a1_4) = some r := by rw [if_neg (show ¬ (false = true) by decide)] at H; exact H
          clear H
          have H := H1
          clear H1
          have H' := Aside0.mk H
          clear H
          try go_wp2
          have n0_ := Aside0.mk (blk_drew BK221.out)
          have n1_ := Aside0.mk (below_drew1 HB.out)
          clear BK221
          clear HB
          have BK221 := n0_
          have HB := n1_
          clear n0_ n1_
          have p226 : 0 ≤ (x6_2 : Int) := of_decide_eq_true (by first | (with_reducible assumption) | assumption)
          have q226 : x6_2 < (l0.length : Int) := of_decide_eq_true (by first | (with_reducible assumption) | assumption)
          obtain ⟨ad226, A226_1, c226_1, A226_2, c226_2, A226_3, c226_3, A226_4, c226_4, e226, hx226_0, hx226_1, hx226_2, hx226_3, hx226_4, hl226_1, hi226_1, hl226_2, hi226_2, hl226_3, hi226_3, hl226_4, hi226_4⟩ := at_T132 HR0.out x6_2 p226 q226
          have hw226_4 := hx226_4
          have hw226_3 := hx226_3
          have hw226_2 := hx226_2
          have hw226_1 := hx226_1
          have hw226_0 := hx226_0
          cases e226
          replace hx226_0 := Grow.bc HB.out hx226_0
          replace hx226_1 := Grow.bc HB.out hx226_1
          replace hx226_2 := Grow.bc HB.out hx226_2
          replace hx226_3 := Grow.bc HB.out hx226_3
          replace hx226_4 := Grow.bc HB.out hx226_4
          have HR226_1 := Aside0.mk hi226_1
          have HC226_1 := Aside0.mk hl226_1
          clear hi226_1 hl226_1
          have HR226_2 := Aside0.mk hi226_2
          have HC226_2 := Aside0.mk hl226_2
          clear hi226_2 hl226_2
          have HR226_3 := Aside0.mk hi226_3
          have HC226_3 := Aside0.mk hl226_3
          clear hi226_3 hl226_3
          have HR226_4 := Aside0.mk hi226_4
          have HC226_4 := Aside0.mk hl226_4
          clear hi226_4 hl226_4
          replace p226 := eq_true p226
          replace q226 := eq_true q226
          refine start_ (n := 6) (S := fun w' => w'.cell? ⟨gb221, 0, none⟩ = some (.string a1_0) ∧ w'.cell? ⟨gb221, 1, none⟩ = some (.string a1_1) ∧ w'.cell? ⟨gb221, 2, none⟩ = some (.string a1_2) ∧ w'.cell? ⟨gb221, 3, none⟩ = some (.string a1_3) ∧ w'.cell? ⟨gb221, 4, none⟩ = some (.int .i64 a1_4) ∧ w'.cell? (ad226.add ((x6_2).toNat * 5)) = some (.int .i64 ((rd_T132 l0 x6_2).f0)) ∧ w'.cell? ⟨(ad226.add ((x6_2).toNat * 5)).block, (ad226.add ((x6_2).toNat * 5)).off + 1, none⟩ = some (.slice A226_1 ((rd_T132 l0 x6_2).f1).length c226_1) ∧ w'.cell? ⟨(ad226.add ((x6_2).toNat * 5)).block, (ad226.add ((x6_2).toNat * 5)).off + 2, none⟩ = some (.slice A226_2 ((rd_T132 l0 x6_2).f2).length c226_2) ∧ w'.cell? ⟨(ad226.add ((x6_2).toNat * 5)).block, (ad226.add ((x6_2).toNat * 5)).off + 3, none⟩ = some (.slice A226_3 ((rd_T132 l0 x6_2).f3).length c226_3) ∧ w'.cell? ⟨(ad226.add ((x6_2).toNat * 5)).block, (ad226.add ((x6_2).toNat * 5)).off + 4, none⟩ = some (.slice A226_4 ((rd_T132 l0 x6_2).f4).length c226_4)) (ds := []) #[false, false, false, false, false, false] (by kernel_rfl) rfl rfl ⟨(blk_cell BK221.out 0).trans rfl, (blk_cell BK221.out 1).trans rfl, (blk_cell BK221.out 2).trans rfl, (blk_cell BK221.out 3).trans rfl, (blk_cell BK221.out 4).trans rfl, ((HB.out.cell (World.block_lt_of_cell? w _ hw226_0)).trans hw226_0), ((HB.out.cell (World.block_lt_of_cell? w _ hw226_1)).trans hw226_1), ((HB.out.cell (World.block_lt_of_cell? w _ hw226_2)).trans hw226_2), ((HB.out.cell (World.block_lt_of_cell? w _ hw226_3)).trans hw226_3), ((HB.out.cell (World.block_lt_of_cell? w _ hw226_4)).trans hw226_4)⟩ (fun hHeld => ?_)
          generalize wr.drew = w23 at BK221 HB HR226_1 HR226_2 HR226_3 HR226_4 hx226_0 hx226_1 hx226_2 hx226_3 hx226_4 hHeld ⊢
          refine pure_ (i := 0) (N := some 36) (v := ?_) (a' := ?_) #[true, false, false, false, false, false] rfl rfl (by kernel_rfl) (fun _ _ _ h => h) (Or.inl ⟨by rfl, ?_⟩) ?_ ?_; rotate_left; intro w'; go_simp; with_reducible rfl; rotate_left; simp only [Cap.pz]; rfl
          refine pure_ (i := 1) (N := some 37) (v := ?_) (a' := ?_) #[true, true, false, false, false, false] rfl rfl (by kernel_rfl) (fun _ _ _ h => h) (Or.inl ⟨by rfl, ?_⟩) ?_ ?_; rotate_left; intro w'; go_simp; with_reducible rfl; rotate_left; simp only [Cap.pz]; rfl
          refine pure_ (i := 2) (N := some 38) (v := ?_) (a' := ?_) #[true, true, true, false, false, false] rfl rfl (by kernel_rfl) (fun _ _ _ h => h) (Or.inl ⟨by rfl, ?_⟩) ?_ ?_; rotate_left; intro w'; go_simp; with_reducible rfl; rotate_left; simp only [Cap.pz]; rfl
          refine take_ (i := 3) (N := some 39) (v := ?_) (a' := ?_) #[true, true, true, true, false, false] rfl rfl (by kernel_rfl) (fun _ _ _ h => h) (Or.inl ⟨by rfl, ?_⟩) hHeld ?_ ?_; rotate_left; rintro w' ⟨s0, s1, s2, s3, s4, s5, s6, s7, s8, s9⟩; go_simp; with_reducible rfl; rotate_left; simp only [Cap.pz]; rfl
          refine take_ (i := 4) (N := some 40) (v := ?_) (a' := ?_) #[true, true, true, true, true, false] rfl rfl (by kernel_rfl) (fun _ _ _ h => h) (Or.inl ⟨by rfl, ?_⟩) hHeld ?_ ?_; rotate_left; rintro w' ⟨s0, s1, s2, s3, s4, s5, s6, s7, s8, s9⟩; go_simp; with_reducible rfl; rotate_left; simp only [Cap.pz]; rfl
          refine one_ (i := 5) (N := some 41) #[true, true, true, true, true, true] rfl rfl (by kernel_rfl) (by decide) (fun K hK => ?_)
          refine goes_ Try.func94 (by kernel_rfl) rfl #[.agg #[.int .i64 ((rd_T132 l0 x6_2).f0), .slice A226_1 ((rd_T132 l0 x6_2).f1).length c226_1, .slice A226_2 ((rd_T132 l0 x6_2).f2).length c226_2, .slice A226_3 ((rd_T132 l0 x6_2).f3).length c226_3, .slice A226_4 ((rd_T132 l0 x6_2).f4).length c226_4], .agg #[.string a1_0, .string a1_1, .string a1_2, .string a1_3, .int .i64 a1_4]] (by rfl) rfl rfl (by (try simp only [List.map_toArray, List.map_cons, List.map_nil]); first | done | rfl | (simp only [List.length_drop, List.length_take]; rfl)) ?_
          with_reducible refine (spec_l09Fits.calls k2 ((rd_T132 l0 x6_2).f0) _ _ ((rd_T132 l0 x6_2).f1) _ _ ((rd_T132 l0 x6_2).f2) _ _ ((rd_T132 l0 x6_2).f3) _ _ ((rd_T132 l0 x6_2).f4) a1_0 a1_1 a1_2 a1_3 a1_4 false _ ?side1 ?side2 ?side3 ?side4 ?side5 ?side6 ?side7 ?side8 A19.out).mono ?_
          (case side1 => first | exact Grow.cb HR226_1.out HB.out | exact Kd.C_below HR226_1.out HB.out)
          (case side2 => exact HC226_1.out)
          (case side3 => first | exact Grow.cb HR226_2.out HB.out | exact Kd.C_below HR226_2.out HB.out)
          (case side4 => exact HC226_2.out)
          (case side5 => first | exact Grow.cb HR226_3.out HB.out | exact Kd.C_below HR226_3.out HB.out)
          (case side6 => exact HC226_3.out)
          (case side7 => first | exact Grow.cb HR226_4.out HB.out | exact Kd.C_below HR226_4.out HB.out)
          (case side8 => exact HC226_4.out)
          rintro e w24 ⟨rfl, hb⟩
          refine ⟨_, rfl, ?_⟩
          have n0_ := Aside0.mk (blk_below (g := gb221) (o := .cells #[.string a1_0, .string a1_1, .string a1_2, .string a1_3, .int .i64 a1_4] 96 (0, 0)) (by first | exact Grow.bk BK221.out | exact BK221.out) hb)
          have n1_ := Aside0.mk (below_step (by repeat (first | (with_reducible first | exact HB.out | apply below_alloc | apply pw_below_drewN | apply below_drew1 | refine below_set ?_ GE221.out) | exact HB.out)) hb)
          clear BK221
          clear HB
          have BK221 := n0_
          have HB := n1_
          clear n0_ n1_
          (try clear hb)
          (try clear hb2)
          (try clear hk)
          (try clear hi)
          refine hK.out _ _ ⟨(blk_cell BK221.out 0).trans rfl, (blk_cell BK221.out 1).trans rfl, (blk_cell BK221.out 2).trans rfl, (blk_cell BK221.out 3).trans rfl, (blk_cell BK221.out 4).trans rfl, ((HB.out.cell (World.block_lt_of_cell? w _ hw226_0)).trans hw226_0), ((HB.out.cell (World.block_lt_of_cell? w _ hw226_1)).trans hw226_1), ((HB.out.cell (World.block_lt_of_cell? w _ hw226_2)).trans hw226_2), ((HB.out.cell (World.block_lt_of_cell? w _ hw226_3)).trans hw226_3), ((HB.out.cell (World.block_lt_of_cell? w _ hw226_4)).trans hw226_4)⟩ (fun hHeld => ?_)
          clear hK K
          refine norm_ (a' := ?_) ?_ ?_; rotate_left; show Act.put _ (some 41) _ = _; simp only [Cap.pz]; rfl
          refine done_ (by kernel_rfl) ?_
          try go_wp2
          go_roundg k2
          case measure => have := HK1.out; have := HK2.out; omega
          case rel => exact ⟨(wrap64 (x6_2 + 1)), (by first | rfl | (simp; done) | (simp [*]; done)), H', ⟨by have := HK1.out; have := HK2.out; omega⟩, ⟨by first | exact Grow.bk BK221.out | exact BK221.out⟩, ⟨by repeat (first | (with_reducible first | exact HB.out | apply below_alloc | apply pw_below_drewN | apply below_drew1 | refine below_set ?_ GE221.out) | exact HB.out)⟩⟩
        ·
         rw [if_neg c18] at H
         exact absurd H (by simp)
       ·
        rw [if_neg c17] at H
        have c17b0 : decide (x6_2 < (l0.length : Int)) = false := decide_eq_false c17
        clear c17
        obtain rfl := Option.some.inj H
        go_wp2
        go_ret
        exact ⟨by first | rfl | (simp [errW_none, errW_some] <;> rfl) | (simp [*, errW_none, errW_some] <;> rfl), by repeat (first | (with_reducible first | exact HB.out | apply below_alloc | apply pw_below_drewN | apply below_drew1 | refine below_set ?_ GE221.out) | exact HB.out)⟩
 ·
  rw [if_neg c4] at H
  have c4b0 : (t222 == 0) = false := beq_eq_false_iff_ne.mpr c4
  have c4b1 : (t222 != 0) = true := bne_iff_ne.mpr c4
  obtain rfl := Option.some.inj H
  go_enter Try.func48, Try.ntmps48
  go_wp2_with (first | ((with_reducible refine gate_dst (N := 3) rfl ?_); refine box_event ?hg (N := 3) ?hd (cs := #[.string a1_0, .string a1_1, .string a1_2, .string a1_3, .int .i64 a1_4]) (t := 96) ?hr ?_; (case hd => rfl); (case hg => rfl); (case hr => first | (go_simp; done) | (go_simp; rfl)); intro gb221 hg w25 hbox hb; have n0_ := Aside0.mk (below_step (by first | exact Grow.bl HB.out | exact HB.out) hb); have n1_ := Aside0.mk (hbox); have n2_ := Aside0.mk ((by rw [hg]; exact (below_size (by first | exact Grow.bl HB.out | exact HB.out)) : w.heap.size ≤ gb221)); have n3_ := Aside0.mk ((by rw [hg]; exact (below_size (by first | exact Grow.bl HB.out | exact HB.out)) : w.heap.size ≤ gb221)); clear HB; have HB := n0_; have BK221 := n1_; have GW221 := n2_; have GE221 := n3_; clear n0_ n1_ n2_ n3_; clear hb hbox hg) | ((with_reducible refine gate_callee (f := 21) rfl ?_); refine goesL_ (some 8) rfl rfl Try.func21 (by kernel_rfl) rfl #[.slice A0 l0.length c0] rfl (by (try simp only [List.map_toArray, List.map_cons, List.map_nil]); first | done | rfl | (simp only [List.length_drop, List.length_take]; rfl)) ?_; (with_reducible refine (spec_PolicyFault.calls k _ _ l0 t222 _ ?side1 ?side2 A3.out).mono ?_); (case side1 => first | exact Grow.cb HR0.out HB.out | exact Kd.C_below HR0.out HB.out); (case side2 => exact HC0.out); rintro e w26 ⟨rfl, hb⟩; refine ⟨_, rfl, ?_⟩; have n0_ := Aside0.mk (blk_below (g := gb221) (o := .cells #[.string a1_0, .string a1_1, .string a1_2, .string a1_3, .int .i64 a1_4] 96 (0, 0)) (by first | exact Grow.bk BK221.out | exact BK221.out) hb); have n1_ := Aside0.mk (below_step (by repeat (first | (with_reducible first | exact HB.out | apply below_alloc | apply pw_below_drewN | apply below_drew1 | refine below_set ?_ GE221.out) | exact HB.out)) hb); clear BK221; clear HB; have BK221 := n0_; have HB := n1_; clear n0_ n1_; (try clear hb); (try clear hb2); (try clear hk); (try clear hi)))
  go_ret
  exact ⟨by first | rfl | (simp [errW_none, errW_some] <;> rfl) | (simp [*, errW_none, errW_some] <;> rfl), by repeat (first | (with_reducible first | exact HB.out | apply below_alloc | apply pw_below_drewN | apply below_drew1 | refine below_set ?_ GE221.out) | exact HB.out)⟩
end Go.Proofs.Ytflpkbegdmihdaa.QFnExactJudge
