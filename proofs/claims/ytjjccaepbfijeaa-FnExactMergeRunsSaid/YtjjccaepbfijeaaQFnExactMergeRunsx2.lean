-- A text of this session, printed by a program of its own (wip/tools: xpatch.py, xprint.sh, mkq.py). No condition.
import Derived.Test.YtjjccaepbfijeaaQFnExactMergeRunsx0
import Derived.Test.YtjjccaepbfijeaaQFnExactMergeRunsx1
namespace Go.Proofs.Ytjjccaepbfijeaa.QFnExactMergeRuns
open Go.RowKit Go.Proofs.YtjjccaepbfijeaaW.PrintWords Go.Proofs.YtjjccaepbfijeaaW.PrintLast Go.Proofs.YtjjccaepbfijeaaW.PrintMore
attribute [local go_sem] max2_int min2_int max_two min_two max_three min_three max_four min_four   -- for this text's walks alone
set_option linter.unusedVariables false
set_option linter.unusedSimpArgs false
/-! ### spec_RunFault: function 14 -/
mutual
def spec_RunFault.l0 : Nat → List Int → Int → List (S43) → Option (Int)
  | 0, _, _, _ => none
  | k + 1, x3, x4, x112000 => if x4 < (x112000.length : Int) then (if 0 ≤ x4 then (if (((rd_T43 x112000 x4).f0).size : Int) < 1 then (spec_RunFault.j1 k x3 x4 true x112000 ((rd_T43 x112000 x4).f0) ((rd_T43 x112000 x4).f1) ((rd_T43 x112000 x4).f2) ((rd_T43 x112000 x4).f3)) else (if (((rd_T43 x112000 x4).f0).size : Int) > 200 then (spec_RunFault.j1 k x3 x4 true x112000 ((rd_T43 x112000 x4).f0) ((rd_T43 x112000 x4).f1) ((rd_T43 x112000 x4).f2) ((rd_T43 x112000 x4).f3)) else (if ((rd_T43 x112000 x4).f1) < 1 then (spec_RunFault.j1 k x3 x4 true x112000 ((rd_T43 x112000 x4).f0) ((rd_T43 x112000 x4).f1) ((rd_T43 x112000 x4).f2) ((rd_T43 x112000 x4).f3)) else (if (rd_T43 x112000 x4).f2 = true then (if ((rd_T43 x112000 x4).f3).toList = ([] : List UInt8) then (if (((rd_T43 x112000 x4).f3).size : Int) > 100000 then (spec_RunFault.j1 k x3 x4 true x112000 ((rd_T43 x112000 x4).f0) ((rd_T43 x112000 x4).f1) ((rd_T43 x112000 x4).f2) ((rd_T43 x112000 x4).f3)) else (if x4 > 0 then (if 0 ≤ (wrap64 (x4 - 1)) then (if (wrap64 (x4 - 1)) < (x112000.length : Int) then ((spec_l08Less.f ((rd_T43 x112000 (wrap64 (x4 - 1))).f0) ((rd_T43 x112000 (wrap64 (x4 - 1))).f1) ((rd_T43 x112000 (wrap64 (x4 - 1))).f2) ((rd_T43 x112000 (wrap64 (x4 - 1))).f3) ((rd_T43 x112000 x4).f0) ((rd_T43 x112000 x4).f1) ((rd_T43 x112000 x4).f2) ((rd_T43 x112000 x4).f3)).bind fun t118 => (if t118 = true then ((spec_l01InInts.f k x3 ((rd_T43 x112000 x4).f1)).bind fun t119 => (spec_RunFault.j1 k x3 x4 t119 x112000 ((rd_T43 x112000 x4).f0) ((rd_T43 x112000 x4).f1) ((rd_T43 x112000 x4).f2) ((rd_T43 x112000 x4).f3))) else (spec_RunFault.j1 k x3 x4 true x112000 ((rd_T43 x112000 x4).f0) ((rd_T43 x112000 x4).f1) ((rd_T43 x112000 x4).f2) ((rd_T43 x112000 x4).f3)))) else (none)) else (none)) else ((spec_l01InInts.f k x3 ((rd_T43 x112000 x4).f1)).bind fun t120 => (spec_RunFault.j1 k x3 x4 t120 x112000 ((rd_T43 x112000 x4).f0) ((rd_T43 x112000 x4).f1) ((rd_T43 x112000 x4).f2) ((rd_T43 x112000 x4).f3))))) else (spec_RunFault.j1 k x3 x4 true x112000 ((rd_T43 x112000 x4).f0) ((rd_T43 x112000 x4).f1) ((rd_T43 x112000 x4).f2) ((rd_T43 x112000 x4).f3))) else (if (((rd_T43 x112000 x4).f3).size : Int) > 100000 then (spec_RunFault.j1 k x3 x4 true x112000 ((rd_T43 x112000 x4).f0) ((rd_T43 x112000 x4).f1) ((rd_T43 x112000 x4).f2) ((rd_T43 x112000 x4).f3)) else (if x4 > 0 then (if 0 ≤ (wrap64 (x4 - 1)) then (if (wrap64 (x4 - 1)) < (x112000.length : Int) then ((spec_l08Less.f ((rd_T43 x112000 (wrap64 (x4 - 1))).f0) ((rd_T43 x112000 (wrap64 (x4 - 1))).f1) ((rd_T43 x112000 (wrap64 (x4 - 1))).f2) ((rd_T43 x112000 (wrap64 (x4 - 1))).f3) ((rd_T43 x112000 x4).f0) ((rd_T43 x112000 x4).f1) ((rd_T43 x112000 x4).f2) ((rd_T43 x112000 x4).f3)).bind fun t122 => (if t122 = true then ((spec_l01InInts.f k x3 ((rd_T43 x112000 x4).f1)).bind fun t123 => (spec_RunFault.j1 k x3 x4 t123 x112000 ((rd_T43 x112000 x4).f0) ((rd_T43 x112000 x4).f1) ((rd_T43 x112000 x4).f2) ((rd_T43 x112000 x4).f3))) else (spec_RunFault.j1 k x3 x4 true x112000 ((rd_T43 x112000 x4).f0) ((rd_T43 x112000 x4).f1) ((rd_T43 x112000 x4).f2) ((rd_T43 x112000 x4).f3)))) else (none)) else (none)) else ((spec_l01InInts.f k x3 ((rd_T43 x112000 x4).f1)).bind fun t124 => (spec_RunFault.j1 k x3 x4 t124 x112000 ((rd_T43 x112000 x4).f0) ((rd_T43 x112000 x4).f1) ((rd_T43 x112000 x4).f2) ((rd_T43 x112000 x4).f3))))))))) else (none)) else (some 0)
def spec_RunFault.j1 : Nat → List Int → Int → Bool → List (S43) → ByteArray → Int → Bool → ByteArray → Option (Int)
  | 0, _, _, _, _, _, _, _, _ => none
  | k + 1, x3, x4, x73, x112000, x117000, x117001, x117002, x117003 => if x73 = true then (some 1) else (if x3.length < 17592186044416 then (spec_RunFault.l0 k (x3 ++ [x117001]) (wrap64 (x4 + 1)) x112000) else (none))
end
def spec_RunFault.f (k : Nat) (l0_0 : List (S43)) : Option (Int) := if (l0_0.length : Int) > 1000 then (some 1) else (spec_RunFault.l0 k (([] : List Int)) 0 l0_0)
def spec_RunFault.T8 : Bool × List (List Nat × List Nat) := (true, [([], []), ([0], [0]), ([1], [1]), ([2], [2]), ([3], [3]), ([4], [4]), ([5, 4], [4, 5]), ([6, 4], [4, 6]), ([7, 4], [4, 7]), ([4, 8], [4, 8]), ([9, 4], [9]), ([10], [10]), ([11, 10], [10, 11]), ([12, 10], [10, 12]), ([10, 13], [10, 13]), ([14, 10], [14]), ([15], [15]), ([16, 15], [15, 16]), ([17, 15, 15], [15, 17]), ([18], [18]), ([19, 18], [18, 19]), ([20, 18], [18, 20]), ([18, 21, 15], [15, 18, 21]), ([15, 22], [15, 22]), ([23, 18], [23]), ([24], [24]), ([25, 24], [24, 25]), ([26, 24], [24, 26]), ([27, 24], [24, 27]), ([24, 28], [24, 28]), ([29, 24], [29]), ([30], [30]), ([31, 30], [30, 31]), ([32, 30, 30], [30, 32]), ([33], [33]), ([34, 33], [33, 34]), ([33], [33]), ([36, 33], [33, 36]), ([35, 37, 33], [33, 35, 37]), ([38, 33], [33, 38]), ([33], [33]), ([39, 40, 33, 33], [33, 39, 40]), ([41, 33], [33, 41]), ([33, 42, 30], [30, 33, 42]), ([30, 43], [30, 43]), ([44, 41], [44]), ([45], [45]), ([45], [45]), ([47, 45], [45, 47]), ([46, 48, 45, 45], [45, 46, 48]), ([45, 49], [45, 49])])
def spec_RunFault.B8 : List Nat := [0, 1, 3, 7, 15, 31, 63, 127, 255, 511, 1023, 2047, 4095, 8191, 16383, 32767, 65535, 131071, 262143, 524287, 1048575, 2097151, 4194303, 8388607, 16777215, 33554431, 67108863, 134217727, 268435455, 536870911, 1073741823, 2147483647, 4294967295, 8589934591, 17179869183, 34359738367, 17179869183, 85899345919, 274877906943, 549755813887, 17179869183, 2199023255551, 4398046511103, 8796093022207, 17592186044415, 35184372088831, 70368744177663, 70368744177663, 211106232532991, 562949953421311, 1125899906842623]
theorem spec_RunFault.tab8 : rtab .any (opsOf Try.f14 8) = spec_RunFault.T8 := by kernel_rfl
theorem spec_RunFault.bits8 : waitsOk spec_RunFault.T8.2 spec_RunFault.B8 = true := by kernel_rfl
set_option maxHeartbeats 8000000 in
set_option maxRecDepth 100000 in
theorem spec_RunFault.calls (k : Nat) (A0_0 : Option Addr) (c0_0 : Nat) (l0_0 : List (S43)) (r : Int) (w : World) (hr0_0 : Kd.C k43 w A0_0 l0_0.length l0_0) (hc0_0 : l0_0.length ≤ c0_0) (h : spec_RunFault.f k l0_0 = some r) :
  Calls Try.prog 14 #[.agg #[.slice A0_0 l0_0.length c0_0]] w fun e w' => e = .returned (.int .i64 r) ∧ Below w.heap.size w w' := by
 have hu26 := Try.underlying26
 have hu43 := Try.underlying43
 have HR0_0 := Aside0.mk hr0_0
 have HC0_0 := Aside0.mk hc0_0
 clear hr0_0 hc0_0
 have HB := Aside0.mk (Below.refl w.heap.size w)
 have H : (if (l0_0.length : Int) > 1000 then (some 1) else (spec_RunFault.l0 k (([] : List Int)) 0 l0_0)) = some r := h
 clear h
 by_cases c2 : (l0_0.length : Int) > 1000
 ·
  rw [if_pos c2] at H
  have c2b0 : decide (1000 < (l0_0.length : Int)) = true := decide_eq_true c2
  have c2b1 : decide (1000 < l0_0.length) = true := decide_eq_true (by omega)
  clear c2
  obtain rfl := Option.some.inj H
  go_enter Try.func14, Try.ntmps14
  go_wp2_with (first | ((with_reducible refine gate_dst (N := 1) rfl ?_); (try (refine gate_guard (by rfl) ?_; dsimp only)); refine box_event ?hg (N := 1) ?hd (cs := #[.slice A0_0 l0_0.length c0_0]) (t := 26) ?hr ?_; (case hd => rfl); (case hg => rfl); (case hr => first | (go_simp; done) | (go_simp; rfl)); intro gb111 hg w3 hbox hb; have n0_ := Aside0.mk (below_step (by first | exact Grow.bl HB.out | exact HB.out) hb); have n1_ := Aside0.mk (hbox); have n2_ := Aside0.mk ((by rw [hg]; exact (below_size (by first | exact Grow.bl HB.out | exact HB.out)) : w.heap.size ≤ gb111)); have n3_ := Aside0.mk ((by rw [hg]; exact (below_size (by first | exact Grow.bl HB.out | exact HB.out)) : w.heap.size ≤ gb111)); clear HB; have HB := n0_; have BK111 := n1_; have GW111 := n2_; have GE111 := n3_; clear n0_ n1_ n2_ n3_; clear hb hbox hg; have hcz4_0 : w3.cell? ⟨gb111, 0, none⟩ = some (.slice A0_0 l0_0.length c0_0) := (blk_cell BK111.out 0).trans rfl; have hfz4_0 := blk_frozen BK111.out 0))
  go_ret
  exact ⟨by first | rfl | (simp [errW_none, errW_some] <;> rfl) | (simp [*, errW_none, errW_some] <;> rfl), by repeat (first | (with_reducible first | exact HB.out | apply below_alloc | apply pw_below_drewN | apply below_drew1 | refine below_set ?_ GE111.out) | exact HB.out)⟩
 rw [if_neg c2] at H
 have c2b0 : decide (1000 < (l0_0.length : Int)) = false := decide_eq_false c2
 have c2b1 : decide (1000 < l0_0.length) = false := decide_eq_false (by omega)
 clear c2
 obtain ⟨y112, hy112⟩ : ∃ y_ : List Int, y_ = (([] : List Int)) := ⟨_, rfl⟩
 replace H : (spec_RunFault.l0 k y112 0 l0_0) = some r := by first | (rw [hy112]; with_reducible exact H) | (have H2_ := (Option.bind_some _ _).symm.trans H; rw [hy112]; with_reducible exact H2_) | (have H2_ := (Option.bind_some _ _).symm.trans H; with_reducible exact H2_) | with_reducible exact H | (rw [hy112]; exact H) | exact H
 have Ny112 := Aside0.mk hy112
 clear hy112
 have H' := Aside0.mk H
 clear H
 go_enter Try.func14, Try.ntmps14
 go_wp2_with (first | ((with_reducible refine gate_dst (N := 1) rfl ?_); (try (refine gate_guard (by rfl) ?_; dsimp only)); refine box_event ?hg (N := 1) ?hd (cs := #[.slice A0_0 l0_0.length c0_0]) (t := 26) ?hr ?_; (case hd => rfl); (case hg => rfl); (case hr => first | (go_simp; done) | (go_simp; rfl)); intro gb111 hg w5 hbox hb; have n0_ := Aside0.mk (below_step (by first | exact Grow.bl HB.out | exact HB.out) hb); have n1_ := Aside0.mk (hbox); have n2_ := Aside0.mk ((by rw [hg]; exact (below_size (by first | exact Grow.bl HB.out | exact HB.out)) : w.heap.size ≤ gb111)); have n3_ := Aside0.mk ((by rw [hg]; exact (below_size (by first | exact Grow.bl HB.out | exact HB.out)) : w.heap.size ≤ gb111)); clear HB; have HB := n0_; have BK111 := n1_; have GW111 := n2_; have GE111 := n3_; clear n0_ n1_ n2_ n3_; clear hb hbox hg; have hcz6_0 : w5.cell? ⟨gb111, 0, none⟩ = some (.slice A0_0 l0_0.length c0_0) := (blk_cell BK111.out 0).trans rfl; have hfz6_0 := blk_frozen BK111.out 0) | ((with_reducible refine gate_dst (N := 10) rfl ?_); (try (refine gate_guard (by rfl) ?_; dsimp only)); refine Kd.R_lit (Kd.int .i64) _ 2 ?hg (N := 10) ?hd (xs := ([] : List Int)) (inner := []) (ok := fun _ => True) (okp := fun _ => True) ?hr ?hp (fun _ hk => hk) trivial (Below.refl _ _) (Nat.le_refl _) (by simp) ?_; (case hd => rfl); (case hg => rfl); (case hr => first | (go_simp; done) | (go_simp; rfl)); (case hp => exact (Reps.none _ _)); intro v113 w7 ho8 hb hg_ hnew_; clear hg_ hnew_; (first | rw [← Ny112.out] at ho8 | (simp only [Int.reduceToNat] at ho8; rw [← Ny112.out] at ho8)); have n0_ := Aside0.mk (Kd.R_lower ho8 (below_size (by repeat (first | (with_reducible first | exact HB.out | apply below_alloc | apply pw_below_drewN | apply below_drew1 | refine below_set ?_ GE111.out) | exact HB.out)))); have n1_ := Aside0.mk (blk_below (g := gb111) (o := .cells #[.slice A0_0 l0_0.length c0_0] 26 (0, 0)) (by first | exact Grow.bk BK111.out | exact BK111.out) hb); have n2_ := Aside0.mk (below_step (by repeat (first | (with_reducible first | exact HB.out | apply below_alloc | apply pw_below_drewN | apply below_drew1 | refine below_set ?_ GE111.out) | exact HB.out)) hb); clear BK111; clear HB; have HO114 := n0_; have BK111 := n1_; have HB := n2_; clear n0_ n1_ n2_; clear hb ho8))
 go_loopg [3, 4] k (fun kq v3 v4 w' => ∃ (x3_1 : List Int) (x4_1 : Int), v4 = .int .i64 x4_1 ∧ Aside0 (spec_RunFault.l0 kq x3_1 x4_1 l0_0 = some r) ∧ Aside0 (kq ≤ k) ∧ Aside0 (Kd.R (Kd.int .i64) 2 w' w.heap.size (fun _ => True) v3 x3_1) ∧ Aside0 (w'.heap[gb111]? = some (.cells #[(.slice A0_0 l0_0.length c0_0)] 26 (0, 0))) ∧ Aside0 (Below w.heap.size w w'))
 case atStart => exact ⟨(y112), (0), (by first | rfl | (simp; done) | (simp [*]; done)), H', ⟨Nat.le_refl _⟩, ⟨by first | exact Grow.rg HO114.out | exact HO114.out⟩, ⟨by first | exact Grow.bk BK111.out | exact BK111.out⟩, ⟨by repeat (first | (with_reducible first | exact HB.out | apply below_alloc | apply pw_below_drewN | apply below_drew1 | refine below_set ?_ GE111.out) | exact HB.out)⟩⟩
 case round =>
  clear H'
  try clear c1
  try clear c2
  try clear c2b0
  try clear c2b1
  try clear p2
  try clear hcz4_0
  try clear hcz6_0
  try clear hfz4_0
  try clear hfz6_0
  obtain ⟨x3_1, x4_1, rfl, HA, HK1, HO_3, BK111, HB⟩ := hrel
  cases gk with
  | zero => exact absurd HA.out (by simp [spec_RunFault.l0])
  | succ k1 =>
   have H := HA.out
   clear HA
   simp only [spec_RunFault.l0] at H
   by_cases c9 : x4_1 < (l0_0.length : Int)
   rotate_left
   ·
    rw [if_neg c9] at H
    have c9b0 : decide (x4_1 < (l0_0.length : Int)) = false := decide_eq_false c9
    clear c9
    obtain rfl := Option.some.inj H
    have hcz77_0 : wr.cell? ⟨gb111, 0, none⟩ = some (.slice A0_0 l0_0.length c0_0) := (blk_cell BK111.out 0).trans rfl
    have hfz77_0 := blk_frozen BK111.out 0
    go_wp2
    go_ret
    exact ⟨by first | rfl | (simp [errW_none, errW_some] <;> rfl) | (simp [*, errW_none, errW_some] <;> rfl), by repeat (first | (with_reducible first | exact HB.out | apply below_alloc | apply pw_below_drewN | apply below_drew1 | refine below_set ?_ GE111.out) | exact HB.out)⟩
   rw [if_pos c9] at H
   have c9b0 : decide (x4_1 < (l0_0.length : Int)) = true := decide_eq_true c9
   clear c9
   by_cases c10 : 0 ≤ x4_1
   rotate_left
   ·
    rw [if_neg c10] at H
    exact absurd H (by simp)
   rw [if_pos c10] at H
   have c10b0 : decide (0 ≤ x4_1) = true := decide_eq_true c10
   clear c10
   have HC11 := Aside0.mk H
   clear H
   have hcz12_0 : wr.cell? ⟨gb111, 0, none⟩ = some (.slice A0_0 l0_0.length c0_0) := (blk_cell BK111.out 0).trans rfl
   have hfz12_0 := blk_frozen BK111.out 0
   have p115 : 0 ≤ (x4_1 : Int) := of_decide_eq_true (by first | (with_reducible assumption) | assumption)
   have q115 : x4_1 < (l0_0.length : Int) := of_decide_eq_true (by first | (with_reducible assumption) | assumption)
   obtain ⟨ad115, e115, hx115_0, hx115_1, hx115_2, hx115_3⟩ := at_T43 HR0_0.out x4_1 p115 q115
   cases e115
   replace hx115_0 := Grow.bc HB.out hx115_0
   replace hx115_1 := Grow.bc HB.out hx115_1
   replace hx115_2 := Grow.bc HB.out hx115_2
   replace hx115_3 := Grow.bc HB.out hx115_3
   replace p115 := eq_true p115
   replace q115 := eq_true q115
   go_upto_region 8 with (first | ((with_reducible refine gate_dst (N := 5) rfl ?_); (try (refine gate_guard (by rfl) ?_; dsimp only)); refine box_event ?hg (N := 5) ?hd (cs := #[.string (⟨#[]⟩ : ByteArray), .int .i64 0, .bool false, .string (⟨#[]⟩ : ByteArray)]) (t := 43) ?hr ?_; (case hd => rfl); (case hg => rfl); (case hr => first | (go_simp; done) | (go_simp; rfl)); intro gb116 hg w13 hbox hb; have n0_ := Aside0.mk (Kd.R_below (by first | exact Grow.rg HO_3.out | exact HO_3.out) hb); have n1_ := Aside0.mk (blk_below (g := gb111) (o := .cells #[.slice (some ad115) l0_0.length c0_0] 26 (0, 0)) (by first | exact Grow.bk BK111.out | exact BK111.out) hb); have n2_ := Aside0.mk (below_step (by repeat (first | (with_reducible first | exact HB.out | apply below_alloc | apply pw_below_drewN | apply below_drew1 | refine below_set ?_ GE111.out) | exact HB.out)) hb); have n3_ := Aside0.mk (hbox); have n4_ := Aside0.mk ((by rw [hg]; exact (below_size (by repeat (first | (with_reducible first | exact HB.out | apply below_alloc | apply pw_below_drewN | apply below_drew1 | refine below_set ?_ GE111.out) | exact HB.out))) : w.heap.size ≤ gb116)); have n5_ := Aside0.mk ((by rw [hg]; exact (below_size (by repeat (first | (with_reducible first | exact HB.out | apply below_alloc | apply pw_below_drewN | apply below_drew1 | refine below_set ?_ GE111.out) | exact HB.out))) : w.heap.size ≤ gb116)); have n6_ := Aside0.mk ((by rw [hg]; exact Nat.ne_of_lt (blk_lt (g := gb111) (o := .cells #[.slice (some ad115) l0_0.length c0_0] 26 (0, 0)) (by first | exact Grow.bk BK111.out | exact BK111.out)) : gb111 ≠ gb116)); have n7_ := Aside0.mk ((by rw [hg]; exact Nat.ne_of_gt (blk_lt (g := gb111) (o := .cells #[.slice (some ad115) l0_0.length c0_0] 26 (0, 0)) (by first | exact Grow.bk BK111.out | exact BK111.out)) : gb116 ≠ gb111)); clear HO_3; clear BK111; clear HB; have HO_3 := n0_; have BK111 := n1_; have HB := n2_; have BK116 := n3_; have GW116 := n4_; have GE116 := n5_; have NB111_116 := n6_; have NB116_111 := n7_; clear n0_ n1_ n2_ n3_ n4_ n5_ n6_ n7_; clear hb hbox hg; have hnb14 := NB116_111.out; have hnc14 := NB111_116.out; have hcz15_0 : w13.cell? ⟨gb116, 0, none⟩ = some (.string (⟨#[]⟩ : ByteArray)) := (blk_cell BK116.out 0).trans rfl; have hcz15_1 : w13.cell? ⟨gb116, 1, none⟩ = some (.int .i64 0) := (blk_cell BK116.out 1).trans rfl; have hcz15_2 : w13.cell? ⟨gb116, 2, none⟩ = some (.bool false) := (blk_cell BK116.out 2).trans rfl; have hcz15_3 : w13.cell? ⟨gb116, 3, none⟩ = some (.string (⟨#[]⟩ : ByteArray)) := (blk_cell BK116.out 3).trans rfl; have hfz15_0 := blk_frozen BK116.out 0; have hfz15_1 := blk_frozen BK116.out 1; have hfz15_2 := blk_frozen BK116.out 2; have hfz15_3 := blk_frozen BK116.out 3))
   (try simp only [Act.put, List.setIfInBounds_toArray, List.set_cons_zero, List.set_cons_succ])
   go_cut [73] (fun v73 wc => ∃ (kq : Nat) (x73_10 : Bool), v73 = .bool x73_10 ∧ Aside0 (spec_RunFault.j1 kq x3_1 x4_1 x73_10 l0_0 ((rd_T43 l0_0 x4_1).f0) ((rd_T43 l0_0 x4_1).f1) ((rd_T43 l0_0 x4_1).f2) ((rd_T43 l0_0 x4_1).f3) = some r) ∧ Aside0 (kq ≤ k1) ∧ Aside0 (Kd.R (Kd.int .i64) 2 wc w.heap.size (fun _ => True) u3 x3_1) ∧ Aside0 (wc.heap[gb111]? = some (.cells #[(.slice (some ad115) l0_0.length c0_0)] 26 (0, 0))) ∧ Aside0 (wc.heap[gb116]? = some (.cells #[.string ((rd_T43 l0_0 x4_1).f0), .int .i64 ((rd_T43 l0_0 x4_1).f1), .bool ((rd_T43 l0_0 x4_1).f2), .string ((rd_T43 l0_0 x4_1).f3)] 43 (0, 0))) ∧ Aside0 (Below w.heap.size w wc))
   case first =>
    have H := HC11.out
    clear HC11
    by_cases c16 : (((rd_T43 l0_0 x4_1).f0).size : Int) < 1
    ·
     rw [if_pos c16] at H
     have c16b0 : decide ((((rd_T43 l0_0 x4_1).f0).size : Int) < 1) = true := decide_eq_true c16
     have c16b1 : decide (((rd_T43 l0_0 x4_1).f0).size < 1) = true := decide_eq_true (by omega)
     clear c16
     (first | rw [c16b0] | rw [c16b1] | (simp only [i64_w, i32_w]; rw [c16b0]) | skip)
     have H' := Aside0.mk H
     clear H
     try go_wp2
     have n0_ : Aside0 (Kd.R (Kd.int .i64) 2 ((((w13.setCell ⟨gb116, 0, none⟩ (.string ((rd_T43 l0_0 x4_1).f0))).setCell ⟨gb116, 1, none⟩ (.int .i64 ((rd_T43 l0_0 x4_1).f1))).setCell ⟨gb116, 2, none⟩ (.bool ((rd_T43 l0_0 x4_1).f2))).setCell ⟨gb116, 3, none⟩ (.string ((rd_T43 l0_0 x4_1).f3))) w.heap.size (fun _ => True) u3 x3_1) := ⟨by (with_reducible repeat (first | apply Kd.R_alloc | apply Kd.R_drewN | apply Kd.R_drew)); exact Kd.R_mono (Kd.R_far (p := ⟨gb116, 3, none⟩) (Kd.R_far (p := ⟨gb116, 2, none⟩) (Kd.R_far (p := ⟨gb116, 1, none⟩) (Kd.R_far (p := ⟨gb116, 0, none⟩) (Kd.R_types HO_3.out BK116.out (by decide)) (fun _ hk => hk.2) (.string ((rd_T43 l0_0 x4_1).f0))) (fun _ hk => hk.2) (.int .i64 ((rd_T43 l0_0 x4_1).f1))) (fun _ hk => hk.2) (.bool ((rd_T43 l0_0 x4_1).f2))) (fun _ hk => hk.2) (.string ((rd_T43 l0_0 x4_1).f3))) (fun _ hk => trivial)⟩
     have n1_ : Aside0 (((((w13.setCell ⟨gb116, 0, none⟩ (.string ((rd_T43 l0_0 x4_1).f0))).setCell ⟨gb116, 1, none⟩ (.int .i64 ((rd_T43 l0_0 x4_1).f1))).setCell ⟨gb116, 2, none⟩ (.bool ((rd_T43 l0_0 x4_1).f2))).setCell ⟨gb116, 3, none⟩ (.string ((rd_T43 l0_0 x4_1).f3))).heap[gb111]? = some (.cells #[.slice (some ad115) l0_0.length c0_0] 26 (0, 0))) := ⟨by (with_reducible repeat (first | refine blk_drewN ?_ _ | refine blk_drew ?_ | refine blk_alloc ?_ _)); refine blk_far ?_ NB111_116.out _; (with_reducible repeat (first | refine blk_drewN ?_ _ | refine blk_drew ?_ | refine blk_alloc ?_ _)); refine blk_far ?_ NB111_116.out _; (with_reducible repeat (first | refine blk_drewN ?_ _ | refine blk_drew ?_ | refine blk_alloc ?_ _)); refine blk_far ?_ NB111_116.out _; (with_reducible repeat (first | refine blk_drewN ?_ _ | refine blk_drew ?_ | refine blk_alloc ?_ _)); refine blk_far ?_ NB111_116.out _; (with_reducible repeat (first | refine blk_drewN ?_ _ | refine blk_drew ?_ | refine blk_alloc ?_ _)); exact BK111.out⟩
     have n2_ : Aside0 (((((w13.setCell ⟨gb116, 0, none⟩ (.string ((rd_T43 l0_0 x4_1).f0))).setCell ⟨gb116, 1, none⟩ (.int .i64 ((rd_T43 l0_0 x4_1).f1))).setCell ⟨gb116, 2, none⟩ (.bool ((rd_T43 l0_0 x4_1).f2))).setCell ⟨gb116, 3, none⟩ (.string ((rd_T43 l0_0 x4_1).f3))).heap[gb116]? = some (.cells #[.string ((rd_T43 l0_0 x4_1).f0), .int .i64 ((rd_T43 l0_0 x4_1).f1), .bool ((rd_T43 l0_0 x4_1).f2), .string ((rd_T43 l0_0 x4_1).f3)] 43 (0, 0))) := ⟨by (with_reducible repeat (first | refine blk_drewN ?_ _ | refine blk_drew ?_ | refine blk_alloc ?_ _)); refine blk_put (cs := #[.string ((rd_T43 l0_0 x4_1).f0), .int .i64 ((rd_T43 l0_0 x4_1).f1), .bool ((rd_T43 l0_0 x4_1).f2), .string (⟨#[]⟩ : ByteArray)]) ?_ 3 _ rfl; (with_reducible repeat (first | refine blk_drewN ?_ _ | refine blk_drew ?_ | refine blk_alloc ?_ _)); refine blk_put (cs := #[.string ((rd_T43 l0_0 x4_1).f0), .int .i64 ((rd_T43 l0_0 x4_1).f1), .bool false, .string (⟨#[]⟩ : ByteArray)]) ?_ 2 _ rfl; (with_reducible repeat (first | refine blk_drewN ?_ _ | refine blk_drew ?_ | refine blk_alloc ?_ _)); refine blk_put (cs := #[.string ((rd_T43 l0_0 x4_1).f0), .int .i64 0, .bool false, .string (⟨#[]⟩ : ByteArray)]) ?_ 1 _ rfl; (with_reducible repeat (first | refine blk_drewN ?_ _ | refine blk_drew ?_ | refine blk_alloc ?_ _)); refine blk_put (cs := #[.string (⟨#[]⟩ : ByteArray), .int .i64 0, .bool false, .string (⟨#[]⟩ : ByteArray)]) ?_ 0 _ rfl; (with_reducible repeat (first | refine blk_drewN ?_ _ | refine blk_drew ?_ | refine blk_alloc ?_ _)); exact BK116.out⟩
     have n3_ : Aside0 (Below w.heap.size w ((((w13.setCell ⟨gb116, 0, none⟩ (.string ((rd_T43 l0_0 x4_1).f0))).setCell ⟨gb116, 1, none⟩ (.int .i64 ((rd_T43 l0_0 x4_1).f1))).setCell ⟨gb116, 2, none⟩ (.bool ((rd_T43 l0_0 x4_1).f2))).setCell ⟨gb116, 3, none⟩ (.string ((rd_T43 l0_0 x4_1).f3)))) := ⟨by repeat (first | (with_reducible first | exact HB.out | apply below_alloc | apply pw_below_drewN | apply below_drew1 | refine below_set ?_ GE111.out | refine below_set ?_ GE116.out) | exact HB.out)⟩
     (try clear HO_3)
     (try clear BK111)
     (try clear BK116)
     (try clear HB)
     generalize ((((w13.setCell ⟨gb116, 0, none⟩ (.string ((rd_T43 l0_0 x4_1).f0))).setCell ⟨gb116, 1, none⟩ (.int .i64 ((rd_T43 l0_0 x4_1).f1))).setCell ⟨gb116, 2, none⟩ (.bool ((rd_T43 l0_0 x4_1).f2))).setCell ⟨gb116, 3, none⟩ (.string ((rd_T43 l0_0 x4_1).f3))) = w17 at n0_ n1_ n2_ n3_ ⊢
     have HO_3 := n0_
     have BK111 := n1_
     have BK116 := n2_
     have HB := n3_
     clear n0_ n1_ n2_ n3_
     have n0_ := Aside0.mk (Kd.R_drew HO_3.out)
     have n1_ := Aside0.mk (blk_drew BK111.out)
     have n2_ := Aside0.mk (blk_drew BK116.out)
     have n3_ := Aside0.mk (below_drew1 HB.out)
     clear HO_3
     clear BK111
     clear BK116
     clear HB
     have HO_3 := n0_
     have BK111 := n1_
     have BK116 := n2_
     have HB := n3_
     clear n0_ n1_ n2_ n3_
     refine start_ (n := 51) (S := fun w' => w'.cell? ⟨gb116, 0, none⟩ = some (.string ((rd_T43 l0_0 x4_1).f0)) ∧ w'.cell? ⟨gb116, 1, none⟩ = some (.int .i64 ((rd_T43 l0_0 x4_1).f1)) ∧ w'.cell? ⟨gb116, 2, none⟩ = some (.bool ((rd_T43 l0_0 x4_1).f2)) ∧ w'.cell? ⟨gb116, 3, none⟩ = some (.string ((rd_T43 l0_0 x4_1).f3))) (ds := []) zf20 (by kernel_rfl) rfl rfl ⟨(blk_cell BK116.out 0).trans rfl, (blk_cell BK116.out 1).trans rfl, (blk_cell BK116.out 2).trans rfl, (blk_cell BK116.out 3).trans rfl⟩ (fun hHeld => ?_); refine with_tabW spec_RunFault.tab8 spec_RunFault.bits8 (fun HT_ HW_ => ?_)
     generalize w17.drew = w18 at HO_3 BK111 BK116 HB hHeld ⊢
     refine Cap.pu (v := ?_) (a' := ?_) 0 (some 23) zf21 HT_ rfl rfl (by kernel_rfl) (fun _ _ _ h => h) (Or.inl ⟨by rfl, ?_⟩) ?_ ?_; rotate_left; intro w'; go_simp; with_reducible rfl; rotate_left; simp only [Cap.pz]; rfl
     refine take_ (i := 1) (N := some 24) (v := ?_) (a' := ?_) zf22 rfl rfl (take_ofW HT_.out HW_.out (by kernel_rfl)) (fun _ _ _ h => h) (Or.inl ⟨by rfl, ?_⟩) hHeld ?_ ?_; rotate_left; rintro w' ⟨s0, s1, s2, s3⟩; go_simp; with_reducible rfl; rotate_left; simp only [Cap.pz]; rfl
     refine Cap.pu (v := ?_) (a' := ?_) 2 (some 25) zf23 HT_ rfl rfl (by kernel_rfl) (fun _ _ _ h => h) (Or.inl ⟨by rfl, ?_⟩) ?_ ?_; rotate_left; intro w'; go_simp; with_reducible rfl; rotate_left; simp only [Cap.pz]; rfl
     refine Cap.pu (v := ?_) (a' := ?_) 3 (some 26) zf24 HT_ rfl rfl (by kernel_rfl) (fun _ _ _ h => h) (Or.inl ⟨by rfl, ?_⟩) ?_ ?_; rotate_left; intro w'; go_simp; with_reducible rfl; rotate_left; simp only [Cap.pz]; rfl
     refine Cap.pu (v := ?_) (a' := ?_) 4 (some 27) zf25 HT_ rfl rfl (by kernel_rfl) (fun _ _ _ h => h) (Or.inl ⟨by rfl, ?_⟩) ?_ ?_; rotate_left; intro w'; go_simp; with_reducible rfl; rotate_left; simp only [Cap.pz]; rfl
     refine Cap.pu (v := undef) (a' := ?_) 5 (some 28) zf26 HT_ rfl rfl (by kernel_rfl) (fun _ _ _ h => h) (Or.inr ⟨by rfl, rfl⟩) ?_ ?_; rotate_left; simp only [Cap.pz]; rfl
     refine Cap.pu (v := undef) (a' := ?_) 6 (some 29) zf27 HT_ rfl rfl (by kernel_rfl) (fun _ _ _ h => h) (Or.inr ⟨by rfl, rfl⟩) ?_ ?_; rotate_left; simp only [Cap.pz]; rfl
     refine Cap.pu (v := undef) (a' := ?_) 7 (some 30) zf28 HT_ rfl rfl (by kernel_rfl) (fun _ _ _ h => h) (Or.inr ⟨by rfl, rfl⟩) ?_ ?_; rotate_left; simp only [Cap.pz]; rfl
     refine Cap.pu (v := undef) (a' := ?_) 8 (some 31) zf29 HT_ rfl rfl (by kernel_rfl) (fun _ _ _ h => h) (Or.inr ⟨by rfl, rfl⟩) ?_ ?_; rotate_left; simp only [Cap.pz]; rfl
     refine Cap.pu (v := ?_) (a' := ?_) 9 (some 32) zf30 HT_ rfl rfl (by kernel_rfl) (fun _ _ _ h => h) (Or.inl ⟨by rfl, ?_⟩) ?_ ?_; rotate_left; intro w'; go_simp; with_reducible rfl; rotate_left; simp only [Cap.pz]; rfl
     refine Cap.pu (v := ?_) (a' := ?_) 10 (some 33) zf31 HT_ rfl rfl (by kernel_rfl) (fun _ _ _ h => h) (Or.inl ⟨by rfl, ?_⟩) ?_ ?_; rotate_left; intro w'; go_simp; with_reducible rfl; rotate_left; simp only [Cap.pz]; rfl
     refine Cap.pu (v := undef) (a' := ?_) 11 (some 34) zf32 HT_ rfl rfl (by kernel_rfl) (fun _ _ _ h => h) (Or.inr ⟨by rfl, rfl⟩) ?_ ?_; rotate_left; simp only [Cap.pz]; rfl
     refine Cap.pu (v := undef) (a' := ?_) 12 (some 35) zf33 HT_ rfl rfl (by kernel_rfl) (fun _ _ _ h => h) (Or.inr ⟨by rfl, rfl⟩) ?_ ?_; rotate_left; simp only [Cap.pz]; rfl
     refine Cap.pu (v := undef) (a' := ?_) 13 (some 36) zf34 HT_ rfl rfl (by kernel_rfl) (fun _ _ _ h => h) (Or.inr ⟨by rfl, rfl⟩) ?_ ?_; rotate_left; simp only [Cap.pz]; rfl
     refine Cap.pu (v := ?_) (a' := ?_) 14 (some 37) zf35 HT_ rfl rfl (by kernel_rfl) (fun _ _ _ h => h) (Or.inl ⟨by rfl, ?_⟩) ?_ ?_; rotate_left; intro w'; go_simp; with_reducible rfl; rotate_left; simp only [Cap.pz]; rfl
     refine Cap.pu (v := ?_) (a' := ?_) 15 (some 38) zf36 HT_ rfl rfl (by kernel_rfl) (fun _ _ _ h => h) (Or.inl ⟨by rfl, ?_⟩) ?_ ?_; rotate_left; intro w'; go_simp; with_reducible rfl; rotate_left; simp only [Cap.pz]; rfl
     refine Cap.pu (v := undef) (a' := ?_) 16 (some 39) zf37 HT_ rfl rfl (by kernel_rfl) (fun _ _ _ h => h) (Or.inr ⟨by rfl, rfl⟩) ?_ ?_; rotate_left; simp only [Cap.pz]; rfl
     refine Cap.pu (v := undef) (a' := ?_) 17 (some 40) zf38 HT_ rfl rfl (by kernel_rfl) (fun _ _ _ h => h) (Or.inr ⟨by rfl, rfl⟩) ?_ ?_; rotate_left; simp only [Cap.pz]; rfl
     refine Cap.pu (v := undef) (a' := ?_) 18 (some 41) zf39 HT_ rfl rfl (by kernel_rfl) (fun _ _ _ h => h) (Or.inr ⟨by rfl, rfl⟩) ?_ ?_; rotate_left; simp only [Cap.pz]; rfl
     refine Cap.pu (v := undef) (a' := ?_) 19 (some 42) zf40 HT_ rfl rfl (by kernel_rfl) (fun _ _ _ h => h) (Or.inr ⟨by rfl, rfl⟩) ?_ ?_; rotate_left; simp only [Cap.pz]; rfl
     refine Cap.pu (v := undef) (a' := ?_) 20 (some 43) zf41 HT_ rfl rfl (by kernel_rfl) (fun _ _ _ h => h) (Or.inr ⟨by rfl, rfl⟩) ?_ ?_; rotate_left; simp only [Cap.pz]; rfl
     refine Cap.pu (v := undef) (a' := ?_) 21 (some 44) zf42 HT_ rfl rfl (by kernel_rfl) (fun _ _ _ h => h) (Or.inr ⟨by rfl, rfl⟩) ?_ ?_; rotate_left; simp only [Cap.pz]; rfl
     refine Cap.pu (v := undef) (a' := ?_) 22 (some 45) zf43 HT_ rfl rfl (by kernel_rfl) (fun _ _ _ h => h) (Or.inr ⟨by rfl, rfl⟩) ?_ ?_; rotate_left; simp only [Cap.pz]; rfl
     refine Cap.pu (v := ?_) (a' := ?_) 23 (some 46) zf44 HT_ rfl rfl (by kernel_rfl) (fun _ _ _ h => h) (Or.inl ⟨by rfl, ?_⟩) ?_ ?_; rotate_left; intro w'; go_simp; with_reducible rfl; rotate_left; simp only [Cap.pz]; rfl
     refine Cap.pu (v := ?_) (a' := ?_) 24 (some 47) zf45 HT_ rfl rfl (by kernel_rfl) (fun _ _ _ h => h) (Or.inl ⟨by rfl, ?_⟩) ?_ ?_; rotate_left; intro w'; go_simp; with_reducible rfl; rotate_left; simp only [Cap.pz]; rfl
     refine Cap.pu (v := undef) (a' := ?_) 25 (some 48) zf46 HT_ rfl rfl (by kernel_rfl) (fun _ _ _ h => h) (Or.inr ⟨by rfl, rfl⟩) ?_ ?_; rotate_left; simp only [Cap.pz]; rfl
     refine Cap.pu (v := undef) (a' := ?_) 26 (some 49) zf47 HT_ rfl rfl (by kernel_rfl) (fun _ _ _ h => h) (Or.inr ⟨by rfl, rfl⟩) ?_ ?_; rotate_left; simp only [Cap.pz]; rfl
     refine Cap.pu (v := undef) (a' := ?_) 27 (some 50) zf48 HT_ rfl rfl (by kernel_rfl) (fun _ _ _ h => h) (Or.inr ⟨by rfl, rfl⟩) ?_ ?_; rotate_left; simp only [Cap.pz]; rfl
     refine Cap.pu (v := undef) (a' := ?_) 28 (some 51) zf49 HT_ rfl rfl (by kernel_rfl) (fun _ _ _ h => h) (Or.inr ⟨by rfl, rfl⟩) ?_ ?_; rotate_left; simp only [Cap.pz]; rfl
     refine Cap.pu (v := ?_) (a' := ?_) 29 (some 52) zf50 HT_ rfl rfl (by kernel_rfl) (fun _ _ _ h => h) (Or.inl ⟨by rfl, ?_⟩) ?_ ?_; rotate_left; intro w'; go_simp; with_reducible rfl; rotate_left; simp only [Cap.pz]; rfl
     refine Cap.pu (v := ?_) (a' := ?_) 30 (some 53) zf51 HT_ rfl rfl (by kernel_rfl) (fun _ _ _ h => h) (Or.inl ⟨by rfl, ?_⟩) ?_ ?_; rotate_left; intro w'; go_simp; with_reducible rfl; rotate_left; simp only [Cap.pz]; rfl
     refine Cap.pu (v := undef) (a' := ?_) 31 (some 54) zf52 HT_ rfl rfl (by kernel_rfl) (fun _ _ _ h => h) (Or.inr ⟨by rfl, rfl⟩) ?_ ?_; rotate_left; simp only [Cap.pz]; rfl
     refine Cap.pu (v := undef) (a' := ?_) 32 (some 55) zf53 HT_ rfl rfl (by kernel_rfl) (fun _ _ _ h => h) (Or.inr ⟨by rfl, rfl⟩) ?_ ?_; rotate_left; simp only [Cap.pz]; rfl
     refine Cap.pu (v := undef) (a' := ?_) 33 (some 56) zf54 HT_ rfl rfl (by kernel_rfl) (fun _ _ _ h => h) (Or.inr ⟨by rfl, rfl⟩) ?_ ?_; rotate_left; simp only [Cap.pz]; rfl
     refine Cap.pu (v := undef) (a' := ?_) 34 (some 57) zf55 HT_ rfl rfl (by kernel_rfl) (fun _ _ _ h => h) (Or.inr ⟨by rfl, rfl⟩) ?_ ?_; rotate_left; simp only [Cap.pz]; rfl
     refine Cap.pu (v := undef) (a' := ?_) 35 (some 58) zf56 HT_ rfl rfl (by kernel_rfl) (fun _ _ _ h => h) (Or.inr ⟨by rfl, rfl⟩) ?_ ?_; rotate_left; simp only [Cap.pz]; rfl
     refine Cap.pu (v := undef) (a' := ?_) 36 (some 59) zf57 HT_ rfl rfl (by kernel_rfl) (fun _ _ _ h => h) (Or.inr ⟨by rfl, rfl⟩) ?_ ?_; rotate_left; simp only [Cap.pz]; rfl
     refine Cap.pu (v := undef) (a' := ?_) 37 (some 60) zf58 HT_ rfl rfl (by kernel_rfl) (fun _ _ _ h => h) (Or.inr ⟨by rfl, rfl⟩) ?_ ?_; rotate_left; simp only [Cap.pz]; rfl
     refine Cap.pu (v := undef) (a' := ?_) 38 (some 61) zf59 HT_ rfl rfl (by kernel_rfl) (fun _ _ _ h => h) (Or.inr ⟨by rfl, rfl⟩) ?_ ?_; rotate_left; simp only [Cap.pz]; rfl
     refine Cap.pu (v := undef) (a' := ?_) 39 (some 62) zf60 HT_ rfl rfl (by kernel_rfl) (fun _ _ _ h => h) (Or.inr ⟨by rfl, rfl⟩) ?_ ?_; rotate_left; simp only [Cap.pz]; rfl
     refine Cap.pu (v := undef) (a' := ?_) 40 (some 63) zf61 HT_ rfl rfl (by kernel_rfl) (fun _ _ _ h => h) (Or.inr ⟨by rfl, rfl⟩) ?_ ?_; rotate_left; simp only [Cap.pz]; rfl
     refine Cap.pu (v := undef) (a' := ?_) 41 (some 64) zf62 HT_ rfl rfl (by kernel_rfl) (fun _ _ _ h => h) (Or.inr ⟨by rfl, rfl⟩) ?_ ?_; rotate_left; simp only [Cap.pz]; rfl
     refine Cap.pu (v := undef) (a' := ?_) 42 (some 65) zf63 HT_ rfl rfl (by kernel_rfl) (fun _ _ _ h => h) (Or.inr ⟨by rfl, rfl⟩) ?_ ?_; rotate_left; simp only [Cap.pz]; rfl
     refine Cap.pu (v := undef) (a' := ?_) 43 (some 66) zf64 HT_ rfl rfl (by kernel_rfl) (fun _ _ _ h => h) (Or.inr ⟨by rfl, rfl⟩) ?_ ?_; rotate_left; simp only [Cap.pz]; rfl
     refine Cap.pu (v := ?_) (a' := ?_) 44 (some 67) zf65 HT_ rfl rfl (by kernel_rfl) (fun _ _ _ h => h) (Or.inl ⟨by rfl, ?_⟩) ?_ ?_; rotate_left; intro w'; go_simp; with_reducible rfl; rotate_left; simp only [Cap.pz]; rfl
     refine Cap.pu (v := ?_) (a' := ?_) 45 (some 68) zf66 HT_ rfl rfl (by kernel_rfl) (fun _ _ _ h => h) (Or.inl ⟨by rfl, ?_⟩) ?_ ?_; rotate_left; intro w'; go_simp; with_reducible rfl; rotate_left; simp only [Cap.pz]; rfl
     refine Cap.pu (v := undef) (a' := ?_) 46 (some 69) zf67 HT_ rfl rfl (by kernel_rfl) (fun _ _ _ h => h) (Or.inr ⟨by rfl, rfl⟩) ?_ ?_; rotate_left; simp only [Cap.pz]; rfl
     refine Cap.pu (v := undef) (a' := ?_) 47 (some 70) zf68 HT_ rfl rfl (by kernel_rfl) (fun _ _ _ h => h) (Or.inr ⟨by rfl, rfl⟩) ?_ ?_; rotate_left; simp only [Cap.pz]; rfl
     refine Cap.pu (v := undef) (a' := ?_) 48 (some 71) zf69 HT_ rfl rfl (by kernel_rfl) (fun _ _ _ h => h) (Or.inr ⟨by rfl, rfl⟩) ?_ ?_; rotate_left; simp only [Cap.pz]; rfl
     refine Cap.pu (v := undef) (a' := ?_) 49 (some 72) zf70 HT_ rfl rfl (by kernel_rfl) (fun _ _ _ h => h) (Or.inr ⟨by rfl, rfl⟩) ?_ ?_; rotate_left; simp only [Cap.pz]; rfl
     refine Cap.pu (v := ?_) (a' := ?_) 50 (some 73) zf71 HT_ rfl rfl (by kernel_rfl) (fun _ _ _ h => h) (Or.inl ⟨by rfl, ?_⟩) ?_ ?_; rotate_left; intro w'; go_simp; with_reducible rfl; rotate_left; simp only [Cap.pz]; rfl
     refine done_ (done_of HT_.out (by kernel_rfl)) ?_
     try go_wp2
     go_meet
     case rel => exact ⟨_, (true), (by first | rfl | (simp; done) | (simp [*]; done)), H', ⟨by have := HK1.out; first | omega | exact Nat.le_refl _⟩, ⟨by first | exact Grow.rg HO_3.out | exact HO_3.out⟩, ⟨by first | exact Grow.bk BK111.out | exact BK111.out⟩, ⟨by first | exact Grow.bk BK116.out | exact BK116.out⟩, ⟨by repeat (first | (with_reducible first | exact HB.out | apply below_alloc | apply pw_below_drewN | apply below_drew1 | refine below_set ?_ GE111.out | refine below_set ?_ GE116.out) | exact HB.out)⟩⟩
    rw [if_neg c16] at H
    have c16b0 : decide ((((rd_T43 l0_0 x4_1).f0).size : Int) < 1) = false := decide_eq_false c16
    have c16b1 : decide (((rd_T43 l0_0 x4_1).f0).size < 1) = false := decide_eq_false (by omega)
    clear c16
    (first | rw [c16b0] | rw [c16b1] | (simp only [i64_w, i32_w]; rw [c16b0]) | skip)
    by_cases c19 : (((rd_T43 l0_0 x4_1).f0).size : Int) > 200
    ·
     rw [if_pos c19] at H
     have c19b0 : decide (200 < (((rd_T43 l0_0 x4_1).f0).size : Int)) = true := decide_eq_true c19
     have c19b1 : decide (200 < ((rd_T43 l0_0 x4_1).f0).size) = true := decide_eq_true (by omega)
     clear c19
     have H' := Aside0.mk H
     clear H
     try go_wp2
     have n0_ : Aside0 (Kd.R (Kd.int .i64) 2 ((((w13.setCell ⟨gb116, 0, none⟩ (.string ((rd_T43 l0_0 x4_1).f0))).setCell ⟨gb116, 1, none⟩ (.int .i64 ((rd_T43 l0_0 x4_1).f1))).setCell ⟨gb116, 2, none⟩ (.bool ((rd_T43 l0_0 x4_1).f2))).setCell ⟨gb116, 3, none⟩ (.string ((rd_T43 l0_0 x4_1).f3))) w.heap.size (fun _ => True) u3 x3_1) := ⟨by (with_reducible repeat (first | apply Kd.R_alloc | apply Kd.R_drewN | apply Kd.R_drew)); exact Kd.R_mono (Kd.R_far (p := ⟨gb116, 3, none⟩) (Kd.R_far (p := ⟨gb116, 2, none⟩) (Kd.R_far (p := ⟨gb116, 1, none⟩) (Kd.R_far (p := ⟨gb116, 0, none⟩) (Kd.R_types HO_3.out BK116.out (by decide)) (fun _ hk => hk.2) (.string ((rd_T43 l0_0 x4_1).f0))) (fun _ hk => hk.2) (.int .i64 ((rd_T43 l0_0 x4_1).f1))) (fun _ hk => hk.2) (.bool ((rd_T43 l0_0 x4_1).f2))) (fun _ hk => hk.2) (.string ((rd_T43 l0_0 x4_1).f3))) (fun _ hk => trivial)⟩
     have n1_ : Aside0 (((((w13.setCell ⟨gb116, 0, none⟩ (.string ((rd_T43 l0_0 x4_1).f0))).setCell ⟨gb116, 1, none⟩ (.int .i64 ((rd_T43 l0_0 x4_1).f1))).setCell ⟨gb116, 2, none⟩ (.bool ((rd_T43 l0_0 x4_1).f2))).setCell ⟨gb116, 3, none⟩ (.string ((rd_T43 l0_0 x4_1).f3))).heap[gb111]? = some (.cells #[.slice (some ad115) l0_0.length c0_0] 26 (0, 0))) := ⟨by (with_reducible repeat (first | refine blk_drewN ?_ _ | refine blk_drew ?_ | refine blk_alloc ?_ _)); refine blk_far ?_ NB111_116.out _; (with_reducible repeat (first | refine blk_drewN ?_ _ | refine blk_drew ?_ | refine blk_alloc ?_ _)); refine blk_far ?_ NB111_116.out _; (with_reducible repeat (first | refine blk_drewN ?_ _ | refine blk_drew ?_ | refine blk_alloc ?_ _)); refine blk_far ?_ NB111_116.out _; (with_reducible repeat (first | refine blk_drewN ?_ _ | refine blk_drew ?_ | refine blk_alloc ?_ _)); refine blk_far ?_ NB111_116.out _; (with_reducible repeat (first | refine blk_drewN ?_ _ | refine blk_drew ?_ | refine blk_alloc ?_ _)); exact BK111.out⟩
     have n2_ : Aside0 (((((w13.setCell ⟨gb116, 0, none⟩ (.string ((rd_T43 l0_0 x4_1).f0))).setCell ⟨gb116, 1, none⟩ (.int .i64 ((rd_T43 l0_0 x4_1).f1))).setCell ⟨gb116, 2, none⟩ (.bool ((rd_T43 l0_0 x4_1).f2))).setCell ⟨gb116, 3, none⟩ (.string ((rd_T43 l0_0 x4_1).f3))).heap[gb116]? = some (.cells #[.string ((rd_T43 l0_0 x4_1).f0), .int .i64 ((rd_T43 l0_0 x4_1).f1), .bool ((rd_T43 l0_0 x4_1).f2), .string ((rd_T43 l0_0 x4_1).f3)] 43 (0, 0))) := ⟨by (with_reducible repeat (first | refine blk_drewN ?_ _ | refine blk_drew ?_ | refine blk_alloc ?_ _)); refine blk_put (cs := #[.string ((rd_T43 l0_0 x4_1).f0), .int .i64 ((rd_T43 l0_0 x4_1).f1), .bool ((rd_T43 l0_0 x4_1).f2), .string (⟨#[]⟩ : ByteArray)]) ?_ 3 _ rfl; (with_reducible repeat (first | refine blk_drewN ?_ _ | refine blk_drew ?_ | refine blk_alloc ?_ _)); refine blk_put (cs := #[.string ((rd_T43 l0_0 x4_1).f0), .int .i64 ((rd_T43 l0_0 x4_1).f1), .bool false, .string (⟨#[]⟩ : ByteArray)]) ?_ 2 _ rfl; (with_reducible repeat (first | refine blk_drewN ?_ _ | refine blk_drew ?_ | refine blk_alloc ?_ _)); refine blk_put (cs := #[.string ((rd_T43 l0_0 x4_1).f0), .int .i64 0, .bool false, .string (⟨#[]⟩ : ByteArray)]) ?_ 1 _ rfl; (with_reducible repeat (first | refine blk_drewN ?_ _ | refine blk_drew ?_ | refine blk_alloc ?_ _)); refine blk_put (cs := #[.string (⟨#[]⟩ : ByteArray), .int .i64 0, .bool false, .string (⟨#[]⟩ : ByteArray)]) ?_ 0 _ rfl; (with_reducible repeat (first | refine blk_drewN ?_ _ | refine blk_drew ?_ | refine blk_alloc ?_ _)); exact BK116.out⟩
     have n3_ : Aside0 (Below w.heap.size w ((((w13.setCell ⟨gb116, 0, none⟩ (.string ((rd_T43 l0_0 x4_1).f0))).setCell ⟨gb116, 1, none⟩ (.int .i64 ((rd_T43 l0_0 x4_1).f1))).setCell ⟨gb116, 2, none⟩ (.bool ((rd_T43 l0_0 x4_1).f2))).setCell ⟨gb116, 3, none⟩ (.string ((rd_T43 l0_0 x4_1).f3)))) := ⟨by repeat (first | (with_reducible first | exact HB.out | apply below_alloc | apply pw_below_drewN | apply below_drew1 | refine below_set ?_ GE111.out | refine below_set ?_ GE116.out) | exact HB.out)⟩
     (try clear HO_3)
     (try clear BK111)
     (try clear BK116)
     (try clear HB)
     generalize ((((w13.setCell ⟨gb116, 0, none⟩ (.string ((rd_T43 l0_0 x4_1).f0))).setCell ⟨gb116, 1, none⟩ (.int .i64 ((rd_T43 l0_0 x4_1).f1))).setCell ⟨gb116, 2, none⟩ (.bool ((rd_T43 l0_0 x4_1).f2))).setCell ⟨gb116, 3, none⟩ (.string ((rd_T43 l0_0 x4_1).f3))) = w20 at n0_ n1_ n2_ n3_ ⊢
     have HO_3 := n0_
     have BK111 := n1_
     have BK116 := n2_
     have HB := n3_
     clear n0_ n1_ n2_ n3_
     have n0_ := Aside0.mk (Kd.R_drew HO_3.out)
     have n1_ := Aside0.mk (blk_drew BK111.out)
     have n2_ := Aside0.mk (blk_drew BK116.out)
     have n3_ := Aside0.mk (below_drew1 HB.out)
     clear HO_3
     clear BK111
     clear BK116
     clear HB
     have HO_3 := n0_
     have BK111 := n1_
     have BK116 := n2_
     have HB := n3_
     clear n0_ n1_ n2_ n3_
     refine start_ (n := 51) (S := fun w' => w'.cell? ⟨gb116, 0, none⟩ = some (.string ((rd_T43 l0_0 x4_1).f0)) ∧ w'.cell? ⟨gb116, 1, none⟩ = some (.int .i64 ((rd_T43 l0_0 x4_1).f1)) ∧ w'.cell? ⟨gb116, 2, none⟩ = some (.bool ((rd_T43 l0_0 x4_1).f2)) ∧ w'.cell? ⟨gb116, 3, none⟩ = some (.string ((rd_T43 l0_0 x4_1).f3))) (ds := []) zf20 (by kernel_rfl) rfl rfl ⟨(blk_cell BK116.out 0).trans rfl, (blk_cell BK116.out 1).trans rfl, (blk_cell BK116.out 2).trans rfl, (blk_cell BK116.out 3).trans rfl⟩ (fun hHeld => ?_); refine with_tabW spec_RunFault.tab8 spec_RunFault.bits8 (fun HT_ HW_ => ?_)
     generalize w20.drew = w21 at HO_3 BK111 BK116 HB hHeld ⊢
     refine Cap.pu (v := ?_) (a' := ?_) 0 (some 23) zf21 HT_ rfl rfl (by kernel_rfl) (fun _ _ _ h => h) (Or.inl ⟨by rfl, ?_⟩) ?_ ?_; rotate_left; intro w'; go_simp; with_reducible rfl; rotate_left; simp only [Cap.pz]; rfl
     refine take_ (i := 1) (N := some 24) (v := ?_) (a' := ?_) zf22 rfl rfl (take_ofW HT_.out HW_.out (by kernel_rfl)) (fun _ _ _ h => h) (Or.inl ⟨by rfl, ?_⟩) hHeld ?_ ?_; rotate_left; rintro w' ⟨s0, s1, s2, s3⟩; go_simp; with_reducible rfl; rotate_left; simp only [Cap.pz]; rfl
     refine Cap.pu (v := ?_) (a' := ?_) 2 (some 25) zf23 HT_ rfl rfl (by kernel_rfl) (fun _ _ _ h => h) (Or.inl ⟨by rfl, ?_⟩) ?_ ?_; rotate_left; intro w'; go_simp; with_reducible rfl; rotate_left; simp only [Cap.pz]; rfl
     refine Cap.pu (v := ?_) (a' := ?_) 3 (some 26) zf24 HT_ rfl rfl (by kernel_rfl) (fun _ _ _ h => h) (Or.inl ⟨by rfl, ?_⟩) ?_ ?_; rotate_left; intro w'; go_simp; with_reducible rfl; rotate_left; simp only [Cap.pz]; rfl
     refine Cap.pu (v := ?_) (a' := ?_) 4 (some 27) zf25 HT_ rfl rfl (by kernel_rfl) (fun _ _ _ h => h) (Or.inl ⟨by rfl, ?_⟩) ?_ ?_; rotate_left; intro w'; go_simp; with_reducible rfl; rotate_left; simp only [Cap.pz]; rfl
     refine Cap.pu (v := ?_) (a' := ?_) 5 (some 28) zf26 HT_ rfl rfl (by kernel_rfl) (fun _ _ _ h => h) (Or.inl ⟨by rfl, ?_⟩) ?_ ?_; rotate_left; intro w'; go_simp; with_reducible rfl; rotate_left; simp only [Cap.pz]; rfl
     refine take_ (i := 6) (N := some 29) (v := ?_) (a' := ?_) zf27 rfl rfl (take_ofW HT_.out HW_.out (by kernel_rfl)) (fun _ _ _ h => h) (Or.inl ⟨by rfl, ?_⟩) hHeld ?_ ?_; rotate_left; rintro w' ⟨s0, s1, s2, s3⟩; go_simp; with_reducible rfl; rotate_left; simp only [Cap.pz]; rfl
     refine Cap.pu (v := ?_) (a' := ?_) 7 (some 30) zf28 HT_ rfl rfl (by kernel_rfl) (fun _ _ _ h => h) (Or.inl ⟨by rfl, ?_⟩) ?_ ?_; rotate_left; intro w'; go_simp; with_reducible rfl; rotate_left; simp only [Cap.pz]; rfl
     refine Cap.pu (v := ?_) (a' := ?_) 8 (some 31) zf29 HT_ rfl rfl (by kernel_rfl) (fun _ _ _ h => h) (Or.inl ⟨by rfl, ?_⟩) ?_ ?_; rotate_left; intro w'; go_simp; with_reducible rfl; rotate_left; simp only [Cap.pz]; rfl
     refine Cap.pu (v := ?_) (a' := ?_) 9 (some 32) zf30 HT_ rfl rfl (by kernel_rfl) (fun _ _ _ h => h) (Or.inl ⟨by rfl, ?_⟩) ?_ ?_; rotate_left; intro w'; go_simp; with_reducible rfl; rotate_left; simp only [Cap.pz]; rfl
     refine Cap.pu (v := ?_) (a' := ?_) 10 (some 33) zf31 HT_ rfl rfl (by kernel_rfl) (fun _ _ _ h => h) (Or.inl ⟨by rfl, ?_⟩) ?_ ?_; rotate_left; intro w'; go_simp; with_reducible rfl; rotate_left; simp only [Cap.pz]; rfl
     refine Cap.pu (v := undef) (a' := ?_) 11 (some 34) zf32 HT_ rfl rfl (by kernel_rfl) (fun _ _ _ h => h) (Or.inr ⟨by rfl, rfl⟩) ?_ ?_; rotate_left; simp only [Cap.pz]; rfl
     refine Cap.pu (v := undef) (a' := ?_) 12 (some 35) zf33 HT_ rfl rfl (by kernel_rfl) (fun _ _ _ h => h) (Or.inr ⟨by rfl, rfl⟩) ?_ ?_; rotate_left; simp only [Cap.pz]; rfl
     refine Cap.pu (v := undef) (a' := ?_) 13 (some 36) zf34 HT_ rfl rfl (by kernel_rfl) (fun _ _ _ h => h) (Or.inr ⟨by rfl, rfl⟩) ?_ ?_; rotate_left; simp only [Cap.pz]; rfl
     refine Cap.pu (v := ?_) (a' := ?_) 14 (some 37) zf35 HT_ rfl rfl (by kernel_rfl) (fun _ _ _ h => h) (Or.inl ⟨by rfl, ?_⟩) ?_ ?_; rotate_left; intro w'; go_simp; with_reducible rfl; rotate_left; simp only [Cap.pz]; rfl
     refine Cap.pu (v := ?_) (a' := ?_) 15 (some 38) zf36 HT_ rfl rfl (by kernel_rfl) (fun _ _ _ h => h) (Or.inl ⟨by rfl, ?_⟩) ?_ ?_; rotate_left; intro w'; go_simp; with_reducible rfl; rotate_left; simp only [Cap.pz]; rfl
     refine Cap.pu (v := undef) (a' := ?_) 16 (some 39) zf37 HT_ rfl rfl (by kernel_rfl) (fun _ _ _ h => h) (Or.inr ⟨by rfl, rfl⟩) ?_ ?_; rotate_left; simp only [Cap.pz]; rfl
     refine Cap.pu (v := undef) (a' := ?_) 17 (some 40) zf38 HT_ rfl rfl (by kernel_rfl) (fun _ _ _ h => h) (Or.inr ⟨by rfl, rfl⟩) ?_ ?_; rotate_left; simp only [Cap.pz]; rfl
     refine Cap.pu (v := undef) (a' := ?_) 18 (some 41) zf39 HT_ rfl rfl (by kernel_rfl) (fun _ _ _ h => h) (Or.inr ⟨by rfl, rfl⟩) ?_ ?_; rotate_left; simp only [Cap.pz]; rfl
     refine Cap.pu (v := undef) (a' := ?_) 19 (some 42) zf40 HT_ rfl rfl (by kernel_rfl) (fun _ _ _ h => h) (Or.inr ⟨by rfl, rfl⟩) ?_ ?_; rotate_left; simp only [Cap.pz]; rfl
     refine Cap.pu (v := undef) (a' := ?_) 20 (some 43) zf41 HT_ rfl rfl (by kernel_rfl) (fun _ _ _ h => h) (Or.inr ⟨by rfl, rfl⟩) ?_ ?_; rotate_left; simp only [Cap.pz]; rfl
     refine Cap.pu (v := undef) (a' := ?_) 21 (some 44) zf42 HT_ rfl rfl (by kernel_rfl) (fun _ _ _ h => h) (Or.inr ⟨by rfl, rfl⟩) ?_ ?_; rotate_left; simp only [Cap.pz]; rfl
     refine Cap.pu (v := undef) (a' := ?_) 22 (some 45) zf43 HT_ rfl rfl (by kernel_rfl) (fun _ _ _ h => h) (Or.inr ⟨by rfl, rfl⟩) ?_ ?_; rotate_left; simp only [Cap.pz]; rfl
     refine Cap.pu (v := ?_) (a' := ?_) 23 (some 46) zf44 HT_ rfl rfl (by kernel_rfl) (fun _ _ _ h => h) (Or.inl ⟨by rfl, ?_⟩) ?_ ?_; rotate_left; intro w'; go_simp; with_reducible rfl; rotate_left; simp only [Cap.pz]; rfl
     refine Cap.pu (v := ?_) (a' := ?_) 24 (some 47) zf45 HT_ rfl rfl (by kernel_rfl) (fun _ _ _ h => h) (Or.inl ⟨by rfl, ?_⟩) ?_ ?_; rotate_left; intro w'; go_simp; with_reducible rfl; rotate_left; simp only [Cap.pz]; rfl
     refine Cap.pu (v := undef) (a' := ?_) 25 (some 48) zf46 HT_ rfl rfl (by kernel_rfl) (fun _ _ _ h => h) (Or.inr ⟨by rfl, rfl⟩) ?_ ?_; rotate_left; simp only [Cap.pz]; rfl
     refine Cap.pu (v := undef) (a' := ?_) 26 (some 49) zf47 HT_ rfl rfl (by kernel_rfl) (fun _ _ _ h => h) (Or.inr ⟨by rfl, rfl⟩) ?_ ?_; rotate_left; simp only [Cap.pz]; rfl
     refine Cap.pu (v := undef) (a' := ?_) 27 (some 50) zf48 HT_ rfl rfl (by kernel_rfl) (fun _ _ _ h => h) (Or.inr ⟨by rfl, rfl⟩) ?_ ?_; rotate_left; simp only [Cap.pz]; rfl
     refine Cap.pu (v := undef) (a' := ?_) 28 (some 51) zf49 HT_ rfl rfl (by kernel_rfl) (fun _ _ _ h => h) (Or.inr ⟨by rfl, rfl⟩) ?_ ?_; rotate_left; simp only [Cap.pz]; rfl
     refine Cap.pu (v := ?_) (a' := ?_) 29 (some 52) zf50 HT_ rfl rfl (by kernel_rfl) (fun _ _ _ h => h) (Or.inl ⟨by rfl, ?_⟩) ?_ ?_; rotate_left; intro w'; go_simp; with_reducible rfl; rotate_left; simp only [Cap.pz]; rfl
     refine Cap.pu (v := ?_) (a' := ?_) 30 (some 53) zf51 HT_ rfl rfl (by kernel_rfl) (fun _ _ _ h => h) (Or.inl ⟨by rfl, ?_⟩) ?_ ?_; rotate_left; intro w'; go_simp; with_reducible rfl; rotate_left; simp only [Cap.pz]; rfl
     refine Cap.pu (v := undef) (a' := ?_) 31 (some 54) zf52 HT_ rfl rfl (by kernel_rfl) (fun _ _ _ h => h) (Or.inr ⟨by rfl, rfl⟩) ?_ ?_; rotate_left; simp only [Cap.pz]; rfl
     refine Cap.pu (v := undef) (a' := ?_) 32 (some 55) zf53 HT_ rfl rfl (by kernel_rfl) (fun _ _ _ h => h) (Or.inr ⟨by rfl, rfl⟩) ?_ ?_; rotate_left; simp only [Cap.pz]; rfl
     refine Cap.pu (v := undef) (a' := ?_) 33 (some 56) zf54 HT_ rfl rfl (by kernel_rfl) (fun _ _ _ h => h) (Or.inr ⟨by rfl, rfl⟩) ?_ ?_; rotate_left; simp only [Cap.pz]; rfl
     refine Cap.pu (v := undef) (a' := ?_) 34 (some 57) zf55 HT_ rfl rfl (by kernel_rfl) (fun _ _ _ h => h) (Or.inr ⟨by rfl, rfl⟩) ?_ ?_; rotate_left; simp only [Cap.pz]; rfl
     refine Cap.pu (v := undef) (a' := ?_) 35 (some 58) zf56 HT_ rfl rfl (by kernel_rfl) (fun _ _ _ h => h) (Or.inr ⟨by rfl, rfl⟩) ?_ ?_; rotate_left; simp only [Cap.pz]; rfl
     refine Cap.pu (v := undef) (a' := ?_) 36 (some 59) zf57 HT_ rfl rfl (by kernel_rfl) (fun _ _ _ h => h) (Or.inr ⟨by rfl, rfl⟩) ?_ ?_; rotate_left; simp only [Cap.pz]; rfl
     refine Cap.pu (v := undef) (a' := ?_) 37 (some 60) zf58 HT_ rfl rfl (by kernel_rfl) (fun _ _ _ h => h) (Or.inr ⟨by rfl, rfl⟩) ?_ ?_; rotate_left; simp only [Cap.pz]; rfl
     refine Cap.pu (v := undef) (a' := ?_) 38 (some 61) zf59 HT_ rfl rfl (by kernel_rfl) (fun _ _ _ h => h) (Or.inr ⟨by rfl, rfl⟩) ?_ ?_; rotate_left; simp only [Cap.pz]; rfl
     refine Cap.pu (v := undef) (a' := ?_) 39 (some 62) zf60 HT_ rfl rfl (by kernel_rfl) (fun _ _ _ h => h) (Or.inr ⟨by rfl, rfl⟩) ?_ ?_; rotate_left; simp only [Cap.pz]; rfl
     refine Cap.pu (v := undef) (a' := ?_) 40 (some 63) zf61 HT_ rfl rfl (by kernel_rfl) (fun _ _ _ h => h) (Or.inr ⟨by rfl, rfl⟩) ?_ ?_; rotate_left; simp only [Cap.pz]; rfl
     refine Cap.pu (v := undef) (a' := ?_) 41 (some 64) zf62 HT_ rfl rfl (by kernel_rfl) (fun _ _ _ h => h) (Or.inr ⟨by rfl, rfl⟩) ?_ ?_; rotate_left; simp only [Cap.pz]; rfl
     refine Cap.pu (v := undef) (a' := ?_) 42 (some 65) zf63 HT_ rfl rfl (by kernel_rfl) (fun _ _ _ h => h) (Or.inr ⟨by rfl, rfl⟩) ?_ ?_; rotate_left; simp only [Cap.pz]; rfl
     refine Cap.pu (v := undef) (a' := ?_) 43 (some 66) zf64 HT_ rfl rfl (by kernel_rfl) (fun _ _ _ h => h) (Or.inr ⟨by rfl, rfl⟩) ?_ ?_; rotate_left; simp only [Cap.pz]; rfl
     refine Cap.pu (v := ?_) (a' := ?_) 44 (some 67) zf65 HT_ rfl rfl (by kernel_rfl) (fun _ _ _ h => h) (Or.inl ⟨by rfl, ?_⟩) ?_ ?_; rotate_left; intro w'; go_simp; with_reducible rfl; rotate_left; simp only [Cap.pz]; rfl
     refine Cap.pu (v := ?_) (a' := ?_) 45 (some 68) zf66 HT_ rfl rfl (by kernel_rfl) (fun _ _ _ h => h) (Or.inl ⟨by rfl, ?_⟩) ?_ ?_; rotate_left; intro w'; go_simp; with_reducible rfl; rotate_left; simp only [Cap.pz]; rfl
     refine Cap.pu (v := undef) (a' := ?_) 46 (some 69) zf67 HT_ rfl rfl (by kernel_rfl) (fun _ _ _ h => h) (Or.inr ⟨by rfl, rfl⟩) ?_ ?_; rotate_left; simp only [Cap.pz]; rfl
     refine Cap.pu (v := undef) (a' := ?_) 47 (some 70) zf68 HT_ rfl rfl (by kernel_rfl) (fun _ _ _ h => h) (Or.inr ⟨by rfl, rfl⟩) ?_ ?_; rotate_left; simp only [Cap.pz]; rfl
     refine Cap.pu (v := undef) (a' := ?_) 48 (some 71) zf69 HT_ rfl rfl (by kernel_rfl) (fun _ _ _ h => h) (Or.inr ⟨by rfl, rfl⟩) ?_ ?_; rotate_left; simp only [Cap.pz]; rfl
     refine Cap.pu (v := undef) (a' := ?_) 49 (some 72) zf70 HT_ rfl rfl (by kernel_rfl) (fun _ _ _ h => h) (Or.inr ⟨by rfl, rfl⟩) ?_ ?_; rotate_left; simp only [Cap.pz]; rfl
     refine Cap.pu (v := ?_) (a' := ?_) 50 (some 73) zf71 HT_ rfl rfl (by kernel_rfl) (fun _ _ _ h => h) (Or.inl ⟨by rfl, ?_⟩) ?_ ?_; rotate_left; intro w'; go_simp; with_reducible rfl; rotate_left; simp only [Cap.pz]; rfl
     refine done_ (done_of HT_.out (by kernel_rfl)) ?_
     try go_wp2
     go_meet
     case rel => exact ⟨_, (true), (by first | rfl | (simp; done) | (simp [*]; done)), H', ⟨by have := HK1.out; first | omega | exact Nat.le_refl _⟩, ⟨by first | exact Grow.rg HO_3.out | exact HO_3.out⟩, ⟨by first | exact Grow.bk BK111.out | exact BK111.out⟩, ⟨by first | exact Grow.bk BK116.out | exact BK116.out⟩, ⟨by repeat (first | (with_reducible first | exact HB.out | apply below_alloc | apply pw_below_drewN | apply below_drew1 | refine below_set ?_ GE111.out | refine below_set ?_ GE116.out) | exact HB.out)⟩⟩
    rw [if_neg c19] at H
    have c19b0 : decide (200 < (((rd_T43 l0_0 x4_1).f0).size : Int)) = false := decide_eq_false c19
    have c19b1 : decide (200 < ((rd_T43 l0_0 x4_1).f0).size) = false := decide_eq_false (by omega)
    clear c19
    by_cases c22 : ((rd_T43 l0_0 x4_1).f1) < 1
    ·
     rw [if_pos c22] at H
     have c22b0 : decide (((rd_T43 l0_0 x4_1).f1) < 1) = true := decide_eq_true c22
     clear c22
     have H' := Aside0.mk H
     clear H
     try go_wp2
     have n0_ : Aside0 (Kd.R (Kd.int .i64) 2 ((((w13.setCell ⟨gb116, 0, none⟩ (.string ((rd_T43 l0_0 x4_1).f0))).setCell ⟨gb116, 1, none⟩ (.int .i64 ((rd_T43 l0_0 x4_1).f1))).setCell ⟨gb116, 2, none⟩ (.bool ((rd_T43 l0_0 x4_1).f2))).setCell ⟨gb116, 3, none⟩ (.string ((rd_T43 l0_0 x4_1).f3))) w.heap.size (fun _ => True) u3 x3_1) := ⟨by (with_reducible repeat (first | apply Kd.R_alloc | apply Kd.R_drewN | apply Kd.R_drew)); exact Kd.R_mono (Kd.R_far (p := ⟨gb116, 3, none⟩) (Kd.R_far (p := ⟨gb116, 2, none⟩) (Kd.R_far (p := ⟨gb116, 1, none⟩) (Kd.R_far (p := ⟨gb116, 0, none⟩) (Kd.R_types HO_3.out BK116.out (by decide)) (fun _ hk => hk.2) (.string ((rd_T43 l0_0 x4_1).f0))) (fun _ hk => hk.2) (.int .i64 ((rd_T43 l0_0 x4_1).f1))) (fun _ hk => hk.2) (.bool ((rd_T43 l0_0 x4_1).f2))) (fun _ hk => hk.2) (.string ((rd_T43 l0_0 x4_1).f3))) (fun _ hk => trivial)⟩
     have n1_ : Aside0 (((((w13.setCell ⟨gb116, 0, none⟩ (.string ((rd_T43 l0_0 x4_1).f0))).setCell ⟨gb116, 1, none⟩ (.int .i64 ((rd_T43 l0_0 x4_1).f1))).setCell ⟨gb116, 2, none⟩ (.bool ((rd_T43 l0_0 x4_1).f2))).setCell ⟨gb116, 3, none⟩ (.string ((rd_T43 l0_0 x4_1).f3))).heap[gb111]? = some (.cells #[.slice (some ad115) l0_0.length c0_0] 26 (0, 0))) := ⟨by (with_reducible repeat (first | refine blk_drewN ?_ _ | refine blk_drew ?_ | refine blk_alloc ?_ _)); refine blk_far ?_ NB111_116.out _; (with_reducible repeat (first | refine blk_drewN ?_ _ | refine blk_drew ?_ | refine blk_alloc ?_ _)); refine blk_far ?_ NB111_116.out _; (with_reducible repeat (first | refine blk_drewN ?_ _ | refine blk_drew ?_ | refine blk_alloc ?_ _)); refine blk_far ?_ NB111_116.out _; (with_reducible repeat (first | refine blk_drewN ?_ _ | refine blk_drew ?_ | refine blk_alloc ?_ _)); refine blk_far ?_ NB111_116.out _; (with_reducible repeat (first | refine blk_drewN ?_ _ | refine blk_drew ?_ | refine blk_alloc ?_ _)); exact BK111.out⟩
     have n2_ : Aside0 (((((w13.setCell ⟨gb116, 0, none⟩ (.string ((rd_T43 l0_0 x4_1).f0))).setCell ⟨gb116, 1, none⟩ (.int .i64 ((rd_T43 l0_0 x4_1).f1))).setCell ⟨gb116, 2, none⟩ (.bool ((rd_T43 l0_0 x4_1).f2))).setCell ⟨gb116, 3, none⟩ (.string ((rd_T43 l0_0 x4_1).f3))).heap[gb116]? = some (.cells #[.string ((rd_T43 l0_0 x4_1).f0), .int .i64 ((rd_T43 l0_0 x4_1).f1), .bool ((rd_T43 l0_0 x4_1).f2), .string ((rd_T43 l0_0 x4_1).f3)] 43 (0, 0))) := ⟨by (with_reducible repeat (first | refine blk_drewN ?_ _ | refine blk_drew ?_ | refine blk_alloc ?_ _)); refine blk_put (cs := #[.string ((rd_T43 l0_0 x4_1).f0), .int .i64 ((rd_T43 l0_0 x4_1).f1), .bool ((rd_T43 l0_0 x4_1).f2), .string (⟨#[]⟩ : ByteArray)]) ?_ 3 _ rfl; (with_reducible repeat (first | refine blk_drewN ?_ _ | refine blk_drew ?_ | refine blk_alloc ?_ _)); refine blk_put (cs := #[.string ((rd_T43 l0_0 x4_1).f0), .int .i64 ((rd_T43 l0_0 x4_1).f1), .bool false, .string (⟨#[]⟩ : ByteArray)]) ?_ 2 _ rfl; (with_reducible repeat (first | refine blk_drewN ?_ _ | refine blk_drew ?_ | refine blk_alloc ?_ _)); refine blk_put (cs := #[.string ((rd_T43 l0_0 x4_1).f0), .int .i64 0, .bool false, .string (⟨#[]⟩ : ByteArray)]) ?_ 1 _ rfl; (with_reducible repeat (first | refine blk_drewN ?_ _ | refine blk_drew ?_ | refine blk_alloc ?_ _)); refine blk_put (cs := #[.string (⟨#[]⟩ : ByteArray), .int .i64 0, .bool false, .string (⟨#[]⟩ : ByteArray)]) ?_ 0 _ rfl; (with_reducible repeat (first | refine blk_drewN ?_ _ | refine blk_drew ?_ | refine blk_alloc ?_ _)); exact BK116.out⟩
     have n3_ : Aside0 (Below w.heap.size w ((((w13.setCell ⟨gb116, 0, none⟩ (.string ((rd_T43 l0_0 x4_1).f0))).setCell ⟨gb116, 1, none⟩ (.int .i64 ((rd_T43 l0_0 x4_1).f1))).setCell ⟨gb116, 2, none⟩ (.bool ((rd_T43 l0_0 x4_1).f2))).setCell ⟨gb116, 3, none⟩ (.string ((rd_T43 l0_0 x4_1).f3)))) := ⟨by repeat (first | (with_reducible first | exact HB.out | apply below_alloc | apply pw_below_drewN | apply below_drew1 | refine below_set ?_ GE111.out | refine below_set ?_ GE116.out) | exact HB.out)⟩
     (try clear HO_3)
     (try clear BK111)
     (try clear BK116)
     (try clear HB)
     generalize ((((w13.setCell ⟨gb116, 0, none⟩ (.string ((rd_T43 l0_0 x4_1).f0))).setCell ⟨gb116, 1, none⟩ (.int .i64 ((rd_T43 l0_0 x4_1).f1))).setCell ⟨gb116, 2, none⟩ (.bool ((rd_T43 l0_0 x4_1).f2))).setCell ⟨gb116, 3, none⟩ (.string ((rd_T43 l0_0 x4_1).f3))) = w23 at n0_ n1_ n2_ n3_ ⊢
     have HO_3 := n0_
     have BK111 := n1_
     have BK116 := n2_
     have HB := n3_
     clear n0_ n1_ n2_ n3_
     have n0_ := Aside0.mk (Kd.R_drew HO_3.out)
     have n1_ := Aside0.mk (blk_drew BK111.out)
     have n2_ := Aside0.mk (blk_drew BK116.out)
     have n3_ := Aside0.mk (below_drew1 HB.out)
     clear HO_3
     clear BK111
     clear BK116
     clear HB
     have HO_3 := n0_
     have BK111 := n1_
     have BK116 := n2_
     have HB := n3_
     clear n0_ n1_ n2_ n3_
     refine start_ (n := 51) (S := fun w' => w'.cell? ⟨gb116, 0, none⟩ = some (.string ((rd_T43 l0_0 x4_1).f0)) ∧ w'.cell? ⟨gb116, 1, none⟩ = some (.int .i64 ((rd_T43 l0_0 x4_1).f1)) ∧ w'.cell? ⟨gb116, 2, none⟩ = some (.bool ((rd_T43 l0_0 x4_1).f2)) ∧ w'.cell? ⟨gb116, 3, none⟩ = some (.string ((rd_T43 l0_0 x4_1).f3))) (ds := []) zf20 (by kernel_rfl) rfl rfl ⟨(blk_cell BK116.out 0).trans rfl, (blk_cell BK116.out 1).trans rfl, (blk_cell BK116.out 2).trans rfl, (blk_cell BK116.out 3).trans rfl⟩ (fun hHeld => ?_); refine with_tabW spec_RunFault.tab8 spec_RunFault.bits8 (fun HT_ HW_ => ?_)
     generalize w23.drew = w24 at HO_3 BK111 BK116 HB hHeld ⊢
     refine Cap.pu (v := ?_) (a' := ?_) 0 (some 23) zf21 HT_ rfl rfl (by kernel_rfl) (fun _ _ _ h => h) (Or.inl ⟨by rfl, ?_⟩) ?_ ?_; rotate_left; intro w'; go_simp; with_reducible rfl; rotate_left; simp only [Cap.pz]; rfl
     refine take_ (i := 1) (N := some 24) (v := ?_) (a' := ?_) zf22 rfl rfl (take_ofW HT_.out HW_.out (by kernel_rfl)) (fun _ _ _ h => h) (Or.inl ⟨by rfl, ?_⟩) hHeld ?_ ?_; rotate_left; rintro w' ⟨s0, s1, s2, s3⟩; go_simp; with_reducible rfl; rotate_left; simp only [Cap.pz]; rfl
     refine Cap.pu (v := ?_) (a' := ?_) 2 (some 25) zf23 HT_ rfl rfl (by kernel_rfl) (fun _ _ _ h => h) (Or.inl ⟨by rfl, ?_⟩) ?_ ?_; rotate_left; intro w'; go_simp; with_reducible rfl; rotate_left; simp only [Cap.pz]; rfl
     refine Cap.pu (v := ?_) (a' := ?_) 3 (some 26) zf24 HT_ rfl rfl (by kernel_rfl) (fun _ _ _ h => h) (Or.inl ⟨by rfl, ?_⟩) ?_ ?_; rotate_left; intro w'; go_simp; with_reducible rfl; rotate_left; simp only [Cap.pz]; rfl
     refine Cap.pu (v := ?_) (a' := ?_) 4 (some 27) zf25 HT_ rfl rfl (by kernel_rfl) (fun _ _ _ h => h) (Or.inl ⟨by rfl, ?_⟩) ?_ ?_; rotate_left; intro w'; go_simp; with_reducible rfl; rotate_left; simp only [Cap.pz]; rfl
     refine Cap.pu (v := ?_) (a' := ?_) 5 (some 28) zf26 HT_ rfl rfl (by kernel_rfl) (fun _ _ _ h => h) (Or.inl ⟨by rfl, ?_⟩) ?_ ?_; rotate_left; intro w'; go_simp; with_reducible rfl; rotate_left; simp only [Cap.pz]; rfl
     refine take_ (i := 6) (N := some 29) (v := ?_) (a' := ?_) zf27 rfl rfl (take_ofW HT_.out HW_.out (by kernel_rfl)) (fun _ _ _ h => h) (Or.inl ⟨by rfl, ?_⟩) hHeld ?_ ?_; rotate_left; rintro w' ⟨s0, s1, s2, s3⟩; go_simp; with_reducible rfl; rotate_left; simp only [Cap.pz]; rfl
     refine Cap.pu (v := ?_) (a' := ?_) 7 (some 30) zf28 HT_ rfl rfl (by kernel_rfl) (fun _ _ _ h => h) (Or.inl ⟨by rfl, ?_⟩) ?_ ?_; rotate_left; intro w'; go_simp; with_reducible rfl; rotate_left; simp only [Cap.pz]; rfl
     refine Cap.pu (v := ?_) (a' := ?_) 8 (some 31) zf29 HT_ rfl rfl (by kernel_rfl) (fun _ _ _ h => h) (Or.inl ⟨by rfl, ?_⟩) ?_ ?_; rotate_left; intro w'; go_simp; with_reducible rfl; rotate_left; simp only [Cap.pz]; rfl
     refine Cap.pu (v := ?_) (a' := ?_) 9 (some 32) zf30 HT_ rfl rfl (by kernel_rfl) (fun _ _ _ h => h) (Or.inl ⟨by rfl, ?_⟩) ?_ ?_; rotate_left; intro w'; go_simp; with_reducible rfl; rotate_left; simp only [Cap.pz]; rfl
     refine Cap.pu (v := ?_) (a' := ?_) 10 (some 33) zf31 HT_ rfl rfl (by kernel_rfl) (fun _ _ _ h => h) (Or.inl ⟨by rfl, ?_⟩) ?_ ?_; rotate_left; intro w'; go_simp; with_reducible rfl; rotate_left; simp only [Cap.pz]; rfl
     refine Cap.pu (v := ?_) (a' := ?_) 11 (some 34) zf32 HT_ rfl rfl (by kernel_rfl) (fun _ _ _ h => h) (Or.inl ⟨by rfl, ?_⟩) ?_ ?_; rotate_left; intro w'; go_simp; with_reducible rfl; rotate_left; simp only [Cap.pz]; rfl
     refine take_ (i := 12) (N := some 35) (v := ?_) (a' := ?_) zf33 rfl rfl (take_ofW HT_.out HW_.out (by kernel_rfl)) (fun _ _ _ h => h) (Or.inl ⟨by rfl, ?_⟩) hHeld ?_ ?_; rotate_left; rintro w' ⟨s0, s1, s2, s3⟩; go_simp; with_reducible rfl; rotate_left; simp only [Cap.pz]; rfl
     refine Cap.pu (v := ?_) (a' := ?_) 13 (some 36) zf34 HT_ rfl rfl (by kernel_rfl) (fun _ _ _ h => h) (Or.inl ⟨by rfl, ?_⟩) ?_ ?_; rotate_left; intro w'; go_simp; with_reducible rfl; rotate_left; simp only [Cap.pz]; rfl
     refine Cap.pu (v := ?_) (a' := ?_) 14 (some 37) zf35 HT_ rfl rfl (by kernel_rfl) (fun _ _ _ h => h) (Or.inl ⟨by rfl, ?_⟩) ?_ ?_; rotate_left; intro w'; go_simp; with_reducible rfl; rotate_left; simp only [Cap.pz]; rfl
     refine Cap.pu (v := ?_) (a' := ?_) 15 (some 38) zf36 HT_ rfl rfl (by kernel_rfl) (fun _ _ _ h => h) (Or.inl ⟨by rfl, ?_⟩) ?_ ?_; rotate_left; intro w'; go_simp; with_reducible rfl; rotate_left; simp only [Cap.pz]; rfl
     refine Cap.pu (v := undef) (a' := ?_) 16 (some 39) zf37 HT_ rfl rfl (by kernel_rfl) (fun _ _ _ h => h) (Or.inr ⟨by rfl, rfl⟩) ?_ ?_; rotate_left; simp only [Cap.pz]; rfl
     refine Cap.pu (v := undef) (a' := ?_) 17 (some 40) zf38 HT_ rfl rfl (by kernel_rfl) (fun _ _ _ h => h) (Or.inr ⟨by rfl, rfl⟩) ?_ ?_; rotate_left; simp only [Cap.pz]; rfl
     refine Cap.pu (v := undef) (a' := ?_) 18 (some 41) zf39 HT_ rfl rfl (by kernel_rfl) (fun _ _ _ h => h) (Or.inr ⟨by rfl, rfl⟩) ?_ ?_; rotate_left; simp only [Cap.pz]; rfl
     refine Cap.pu (v := undef) (a' := ?_) 19 (some 42) zf40 HT_ rfl rfl (by kernel_rfl) (fun _ _ _ h => h) (Or.inr ⟨by rfl, rfl⟩) ?_ ?_; rotate_left; simp only [Cap.pz]; rfl
     refine Cap.pu (v := undef) (a' := ?_) 20 (some 43) zf41 HT_ rfl rfl (by kernel_rfl) (fun _ _ _ h => h) (Or.inr ⟨by rfl, rfl⟩) ?_ ?_; rotate_left; simp only [Cap.pz]; rfl
     refine Cap.pu (v := undef) (a' := ?_) 21 (some 44) zf42 HT_ rfl rfl (by kernel_rfl) (fun _ _ _ h => h) (Or.inr ⟨by rfl, rfl⟩) ?_ ?_; rotate_left; simp only [Cap.pz]; rfl
     refine Cap.pu (v := undef) (a' := ?_) 22 (some 45) zf43 HT_ rfl rfl (by kernel_rfl) (fun _ _ _ h => h) (Or.inr ⟨by rfl, rfl⟩) ?_ ?_; rotate_left; simp only [Cap.pz]; rfl
     refine Cap.pu (v := ?_) (a' := ?_) 23 (some 46) zf44 HT_ rfl rfl (by kernel_rfl) (fun _ _ _ h => h) (Or.inl ⟨by rfl, ?_⟩) ?_ ?_; rotate_left; intro w'; go_simp; with_reducible rfl; rotate_left; simp only [Cap.pz]; rfl
     refine Cap.pu (v := ?_) (a' := ?_) 24 (some 47) zf45 HT_ rfl rfl (by kernel_rfl) (fun _ _ _ h => h) (Or.inl ⟨by rfl, ?_⟩) ?_ ?_; rotate_left; intro w'; go_simp; with_reducible rfl; rotate_left; simp only [Cap.pz]; rfl
     refine Cap.pu (v := undef) (a' := ?_) 25 (some 48) zf46 HT_ rfl rfl (by kernel_rfl) (fun _ _ _ h => h) (Or.inr ⟨by rfl, rfl⟩) ?_ ?_; rotate_left; simp only [Cap.pz]; rfl
     refine Cap.pu (v := undef) (a' := ?_) 26 (some 49) zf47 HT_ rfl rfl (by kernel_rfl) (fun _ _ _ h => h) (Or.inr ⟨by rfl, rfl⟩) ?_ ?_; rotate_left; simp only [Cap.pz]; rfl
     refine Cap.pu (v := undef) (a' := ?_) 27 (some 50) zf48 HT_ rfl rfl (by kernel_rfl) (fun _ _ _ h => h) (Or.inr ⟨by rfl, rfl⟩) ?_ ?_; rotate_left; simp only [Cap.pz]; rfl
     refine Cap.pu (v := undef) (a' := ?_) 28 (some 51) zf49 HT_ rfl rfl (by kernel_rfl) (fun _ _ _ h => h) (Or.inr ⟨by rfl, rfl⟩) ?_ ?_; rotate_left; simp only [Cap.pz]; rfl
     refine Cap.pu (v := ?_) (a' := ?_) 29 (some 52) zf50 HT_ rfl rfl (by kernel_rfl) (fun _ _ _ h => h) (Or.inl ⟨by rfl, ?_⟩) ?_ ?_; rotate_left; intro w'; go_simp; with_reducible rfl; rotate_left; simp only [Cap.pz]; rfl
     refine Cap.pu (v := ?_) (a' := ?_) 30 (some 53) zf51 HT_ rfl rfl (by kernel_rfl) (fun _ _ _ h => h) (Or.inl ⟨by rfl, ?_⟩) ?_ ?_; rotate_left; intro w'; go_simp; with_reducible rfl; rotate_left; simp only [Cap.pz]; rfl
     refine Cap.pu (v := undef) (a' := ?_) 31 (some 54) zf52 HT_ rfl rfl (by kernel_rfl) (fun _ _ _ h => h) (Or.inr ⟨by rfl, rfl⟩) ?_ ?_; rotate_left; simp only [Cap.pz]; rfl
     refine Cap.pu (v := undef) (a' := ?_) 32 (some 55) zf53 HT_ rfl rfl (by kernel_rfl) (fun _ _ _ h => h) (Or.inr ⟨by rfl, rfl⟩) ?_ ?_; rotate_left; simp only [Cap.pz]; rfl
     refine Cap.pu (v := undef) (a' := ?_) 33 (some 56) zf54 HT_ rfl rfl (by kernel_rfl) (fun _ _ _ h => h) (Or.inr ⟨by rfl, rfl⟩) ?_ ?_; rotate_left; simp only [Cap.pz]; rfl
     refine Cap.pu (v := undef) (a' := ?_) 34 (some 57) zf55 HT_ rfl rfl (by kernel_rfl) (fun _ _ _ h => h) (Or.inr ⟨by rfl, rfl⟩) ?_ ?_; rotate_left; simp only [Cap.pz]; rfl
     refine Cap.pu (v := undef) (a' := ?_) 35 (some 58) zf56 HT_ rfl rfl (by kernel_rfl) (fun _ _ _ h => h) (Or.inr ⟨by rfl, rfl⟩) ?_ ?_; rotate_left; simp only [Cap.pz]; rfl
     refine Cap.pu (v := undef) (a' := ?_) 36 (some 59) zf57 HT_ rfl rfl (by kernel_rfl) (fun _ _ _ h => h) (Or.inr ⟨by rfl, rfl⟩) ?_ ?_; rotate_left; simp only [Cap.pz]; rfl
     refine Cap.pu (v := undef) (a' := ?_) 37 (some 60) zf58 HT_ rfl rfl (by kernel_rfl) (fun _ _ _ h => h) (Or.inr ⟨by rfl, rfl⟩) ?_ ?_; rotate_left; simp only [Cap.pz]; rfl
     refine Cap.pu (v := undef) (a' := ?_) 38 (some 61) zf59 HT_ rfl rfl (by kernel_rfl) (fun _ _ _ h => h) (Or.inr ⟨by rfl, rfl⟩) ?_ ?_; rotate_left; simp only [Cap.pz]; rfl
     refine Cap.pu (v := undef) (a' := ?_) 39 (some 62) zf60 HT_ rfl rfl (by kernel_rfl) (fun _ _ _ h => h) (Or.inr ⟨by rfl, rfl⟩) ?_ ?_; rotate_left; simp only [Cap.pz]; rfl
     refine Cap.pu (v := undef) (a' := ?_) 40 (some 63) zf61 HT_ rfl rfl (by kernel_rfl) (fun _ _ _ h => h) (Or.inr ⟨by rfl, rfl⟩) ?_ ?_; rotate_left; simp only [Cap.pz]; rfl
     refine Cap.pu (v := undef) (a' := ?_) 41 (some 64) zf62 HT_ rfl rfl (by kernel_rfl) (fun _ _ _ h => h) (Or.inr ⟨by rfl, rfl⟩) ?_ ?_; rotate_left; simp only [Cap.pz]; rfl
     refine Cap.pu (v := undef) (a' := ?_) 42 (some 65) zf63 HT_ rfl rfl (by kernel_rfl) (fun _ _ _ h => h) (Or.inr ⟨by rfl, rfl⟩) ?_ ?_; rotate_left; simp only [Cap.pz]; rfl
     refine Cap.pu (v := undef) (a' := ?_) 43 (some 66) zf64 HT_ rfl rfl (by kernel_rfl) (fun _ _ _ h => h) (Or.inr ⟨by rfl, rfl⟩) ?_ ?_; rotate_left; simp only [Cap.pz]; rfl
     refine Cap.pu (v := ?_) (a' := ?_) 44 (some 67) zf65 HT_ rfl rfl (by kernel_rfl) (fun _ _ _ h => h) (Or.inl ⟨by rfl, ?_⟩) ?_ ?_; rotate_left; intro w'; go_simp; with_reducible rfl; rotate_left; simp only [Cap.pz]; rfl
     refine Cap.pu (v := ?_) (a' := ?_) 45 (some 68) zf66 HT_ rfl rfl (by kernel_rfl) (fun _ _ _ h => h) (Or.inl ⟨by rfl, ?_⟩) ?_ ?_; rotate_left; intro w'; go_simp; with_reducible rfl; rotate_left; simp only [Cap.pz]; rfl
     refine Cap.pu (v := undef) (a' := ?_) 46 (some 69) zf67 HT_ rfl rfl (by kernel_rfl) (fun _ _ _ h => h) (Or.inr ⟨by rfl, rfl⟩) ?_ ?_; rotate_left; simp only [Cap.pz]; rfl
     refine Cap.pu (v := undef) (a' := ?_) 47 (some 70) zf68 HT_ rfl rfl (by kernel_rfl) (fun _ _ _ h => h) (Or.inr ⟨by rfl, rfl⟩) ?_ ?_; rotate_left; simp only [Cap.pz]; rfl
     refine Cap.pu (v := undef) (a' := ?_) 48 (some 71) zf69 HT_ rfl rfl (by kernel_rfl) (fun _ _ _ h => h) (Or.inr ⟨by rfl, rfl⟩) ?_ ?_; rotate_left; simp only [Cap.pz]; rfl
     refine Cap.pu (v := undef) (a' := ?_) 49 (some 72) zf70 HT_ rfl rfl (by kernel_rfl) (fun _ _ _ h => h) (Or.inr ⟨by rfl, rfl⟩) ?_ ?_; rotate_left; simp only [Cap.pz]; rfl
     refine Cap.pu (v := ?_) (a' := ?_) 50 (some 73) zf71 HT_ rfl rfl (by kernel_rfl) (fun _ _ _ h => h) (Or.inl ⟨by rfl, ?_⟩) ?_ ?_; rotate_left; intro w'; go_simp; with_reducible rfl; rotate_left; simp only [Cap.pz]; rfl
     refine done_ (done_of HT_.out (by kernel_rfl)) ?_
     try go_wp2
     go_meet
     case rel => exact ⟨_, (true), (by first | rfl | (simp; done) | (simp [*]; done)), H', ⟨by have := HK1.out; first | omega | exact Nat.le_refl _⟩, ⟨by first | exact Grow.rg HO_3.out | exact HO_3.out⟩, ⟨by first | exact Grow.bk BK111.out | exact BK111.out⟩, ⟨by first | exact Grow.bk BK116.out | exact BK116.out⟩, ⟨by repeat (first | (with_reducible first | exact HB.out | apply below_alloc | apply pw_below_drewN | apply below_drew1 | refine below_set ?_ GE111.out | refine below_set ?_ GE116.out) | exact HB.out)⟩⟩
    rw [if_neg c22] at H
    have c22b0 : decide (((rd_T43 l0_0 x4_1).f1) < 1) = false := decide_eq_false c22
    clear c22
    obtain ⟨bq25, hbq25⟩ : ∃ b_ : Bool, b_ = ((rd_T43 l0_0 x4_1).f2) := ⟨_, rfl⟩
    replace H : (if bq25 = true then (if ((rd_T43 l0_0 x4_1).f3).toList = ([] : List UInt8) then (if (((rd_T43 l0_0 x4_1).f3).size : Int) > 100000 then (spec_RunFault.j1 k1 x3_1 x4_1 true l0_0 ((rd_T43 l0_0 x4_1).f0) ((rd_T43 l0_0 x4_1).f1) bq25 ((rd_T43 l0_0 x4_1).f3)) else (if x4_1 > 0 then (if 0 ≤ (wrap64 (x4_1 - 1)) then (if (wrap64 (x4_1 - 1)) < (l0_0.length : Int) then ((spec_l08Less.f ((rd_T43 l0_0 (wrap64 (x4_1 - 1))).f0) ((rd_T43 l0_0 (wrap64 (x4_1 - 1))).f1) ((rd_T43 l0_0 (wrap64 (x4_1 - 1))).f2) ((rd_T43 l0_0 (wrap64 (x4_1 - 1))).f3) ((rd_T43 l0_0 x4_1).f0) ((rd_T43 l0_0 x4_1).f1) (bq25) ((rd_T43 l0_0 x4_1).f3)).bind fun t118 => (if t118 = true then ((spec_l01InInts.f k1 x3_1 ((rd_T43 l0_0 x4_1).f1)).bind fun t119 => (spec_RunFault.j1 k1 x3_1 x4_1 t119 l0_0 ((rd_T43 l0_0 x4_1).f0) ((rd_T43 l0_0 x4_1).f1) bq25 ((rd_T43 l0_0 x4_1).f3))) else (spec_RunFault.j1 k1 x3_1 x4_1 true l0_0 ((rd_T43 l0_0 x4_1).f0) ((rd_T43 l0_0 x4_1).f1) bq25 ((rd_T43 l0_0 x4_1).f3)))) else (none)) else (none)) else ((spec_l01InInts.f k1 x3_1 ((rd_T43 l0_0 x4_1).f1)).bind fun t120 => (spec_RunFault.j1 k1 x3_1 x4_1 t120 l0_0 ((rd_T43 l0_0 x4_1).f0) ((rd_T43 l0_0 x4_1).f1) bq25 ((rd_T43 l0_0 x4_1).f3))))) else (spec_RunFault.j1 k1 x3_1 x4_1 true l0_0 ((rd_T43 l0_0 x4_1).f0) ((rd_T43 l0_0 x4_1).f1) bq25 ((rd_T43 l0_0 x4_1).f3))) else (if (((rd_T43 l0_0 x4_1).f3).size : Int) > 100000 then (spec_RunFault.j1 k1 x3_1 x4_1 true l0_0 ((rd_T43 l0_0 x4_1).f0) ((rd_T43 l0_0 x4_1).f1) bq25 ((rd_T43 l0_0 x4_1).f3)) else (if x4_1 > 0 then (if 0 ≤ (wrap64 (x4_1 - 1)) then (if (wrap64 (x4_1 - 1)) < (l0_0.length : Int) then ((spec_l08Less.f ((rd_T43 l0_0 (wrap64 (x4_1 - 1))).f0) ((rd_T43 l0_0 (wrap64 (x4_1 - 1))).f1) ((rd_T43 l0_0 (wrap64 (x4_1 - 1))).f2) ((rd_T43 l0_0 (wrap64 (x4_1 - 1))).f3) ((rd_T43 l0_0 x4_1).f0) ((rd_T43 l0_0 x4_1).f1) (bq25) ((rd_T43 l0_0 x4_1).f3)).bind fun t122 => (if t122 = true then ((spec_l01InInts.f k1 x3_1 ((rd_T43 l0_0 x4_1).f1)).bind fun t123 => (spec_RunFault.j1 k1 x3_1 x4_1 t123 l0_0 ((rd_T43 l0_0 x4_1).f0) ((rd_T43 l0_0 x4_1).f1) bq25 ((rd_T43 l0_0 x4_1).f3))) else (spec_RunFault.j1 k1 x3_1 x4_1 true l0_0 ((rd_T43 l0_0 x4_1).f0) ((rd_T43 l0_0 x4_1).f1) bq25 ((rd_T43 l0_0 x4_1).f3)))) else (none)) else (none)) else ((spec_l01InInts.f k1 x3_1 ((rd_T43 l0_0 x4_1).f1)).bind fun t124 => (spec_RunFault.j1 k1 x3_1 x4_1 t124 l0_0 ((rd_T43 l0_0 x4_1).f0) ((rd_T43 l0_0 x4_1).f1) bq25 ((rd_T43 l0_0 x4_1).f3)))))) = some r := by rw [← hbq25] at H; exact H
    have Nbq25 := Aside0.mk hbq25
    clear hbq25
    by_cases c26 : bq25 = true
    rotate_left
    ·
     replace c26 := Bool.eq_false_iff.mpr c26
     subst c26
     (try rw [← Nbq25.out])
     have H1 : (if (((rd_T43 l0_0 x4_1).f3).size : Int) > 100000 then (spec_RunFault.j1 k1 x3_1 x4_1 true l0_0 ((rd_T43 l0_0 x4_1).f0) ((rd_T43 l0_0 x4_1).f1) false ((rd_T43 l0_0 x4_1).f3)) else (if x4_1 > 0 then (if 0 ≤ (wrap64 (x4_1 - 1)) then (if (wrap64 (x4_1 - 1)) < (l0_0.length : Int) then ((spec_l08Less.f ((rd_T43 l0_0 (wrap64 (x4_1 - 1))).f0) ((rd_T43 l0_0 (wrap64 (x4_1 - 1))).f1) ((rd_T43 l0_0 (wrap64 (x4_1 - 1))).f2) ((rd_T43 l0_0 (wrap64 (x4_1 - 1))).f3) ((rd_T43 l0_0 x4_1).f0) ((rd_T43 l0_0 x4_1).f1) (false) ((rd_T43 l0_0 x4_1).f3)).bind fun t122 => (if t122 = true then ((spec_l01InInts.f k1 x3_1 ((rd_T43 l0_0 x4_1).f1)).bind fun t123 => (spec_RunFault.j1 k1 x3_1 x4_1 t123 l0_0 ((rd_T43 l0_0 x4_1).f0) ((rd_T43 l0_0 x4_1).f1) false ((rd_T43 l0_0 x4_1).f3))) else (spec_RunFault.j1 k1 x3_1 x4_1 true l0_0 ((rd_T43 l0_0 x4_1).f0) ((rd_T43 l0_0 x4_1).f1) false ((rd_T43 l0_0 x4_1).f3)))) else (none)) else (none)) else ((spec_l01InInts.f k1 x3_1 ((rd_T43 l0_0 x4_1).f1)).bind fun t124 => (spec_RunFault.j1 k1 x3_1 x4_1 t124 l0_0 ((rd_T43 l0_0 x4_1).f0) ((rd_T43 l0_0 x4_1).f1) false ((rd_T43 l0_0 x4_1).f3))))) = some r := by rw [if_neg (show ¬ (false = true) by decide)] at H; exact H
     clear H
     have H := H1
     clear H1
     by_cases c51 : (((rd_T43 l0_0 x4_1).f3).size : Int) > 100000
     ·
      rw [if_pos c51] at H
      have c51b0 : decide (100000 < (((rd_T43 l0_0 x4_1).f3).size : Int)) = true := decide_eq_true c51
      have c51b1 : decide (100000 < ((rd_T43 l0_0 x4_1).f3).size) = true := decide_eq_true (by omega)
      clear c51
      have H' := Aside0.mk H
      clear H
      try go_wp2
      have n0_ : Aside0 (Kd.R (Kd.int .i64) 2 ((((w13.setCell ⟨gb116, 0, none⟩ (.string ((rd_T43 l0_0 x4_1).f0))).setCell ⟨gb116, 1, none⟩ (.int .i64 ((rd_T43 l0_0 x4_1).f1))).setCell ⟨gb116, 2, none⟩ (.bool (false))).setCell ⟨gb116, 3, none⟩ (.string ((rd_T43 l0_0 x4_1).f3))) w.heap.size (fun _ => True) u3 x3_1) := ⟨by (with_reducible repeat (first | apply Kd.R_alloc | apply Kd.R_drewN | apply Kd.R_drew)); exact Kd.R_mono (Kd.R_far (p := ⟨gb116, 3, none⟩) (Kd.R_far (p := ⟨gb116, 2, none⟩) (Kd.R_far (p := ⟨gb116, 1, none⟩) (Kd.R_far (p := ⟨gb116, 0, none⟩) (Kd.R_types HO_3.out BK116.out (by decide)) (fun _ hk => hk.2) (.string ((rd_T43 l0_0 x4_1).f0))) (fun _ hk => hk.2) (.int .i64 ((rd_T43 l0_0 x4_1).f1))) (fun _ hk => hk.2) (.bool (false))) (fun _ hk => hk.2) (.string ((rd_T43 l0_0 x4_1).f3))) (fun _ hk => trivial)⟩
      have n1_ : Aside0 (((((w13.setCell ⟨gb116, 0, none⟩ (.string ((rd_T43 l0_0 x4_1).f0))).setCell ⟨gb116, 1, none⟩ (.int .i64 ((rd_T43 l0_0 x4_1).f1))).setCell ⟨gb116, 2, none⟩ (.bool (false))).setCell ⟨gb116, 3, none⟩ (.string ((rd_T43 l0_0 x4_1).f3))).heap[gb111]? = some (.cells #[.slice (some ad115) l0_0.length c0_0] 26 (0, 0))) := ⟨by (with_reducible repeat (first | refine blk_drewN ?_ _ | refine blk_drew ?_ | refine blk_alloc ?_ _)); refine blk_far ?_ NB111_116.out _; (with_reducible repeat (first | refine blk_drewN ?_ _ | refine blk_drew ?_ | refine blk_alloc ?_ _)); refine blk_far ?_ NB111_116.out _; (with_reducible repeat (first | refine blk_drewN ?_ _ | refine blk_drew ?_ | refine blk_alloc ?_ _)); refine blk_far ?_ NB111_116.out _; (with_reducible repeat (first | refine blk_drewN ?_ _ | refine blk_drew ?_ | refine blk_alloc ?_ _)); refine blk_far ?_ NB111_116.out _; (with_reducible repeat (first | refine blk_drewN ?_ _ | refine blk_drew ?_ | refine blk_alloc ?_ _)); exact BK111.out⟩
      have n2_ : Aside0 (((((w13.setCell ⟨gb116, 0, none⟩ (.string ((rd_T43 l0_0 x4_1).f0))).setCell ⟨gb116, 1, none⟩ (.int .i64 ((rd_T43 l0_0 x4_1).f1))).setCell ⟨gb116, 2, none⟩ (.bool (false))).setCell ⟨gb116, 3, none⟩ (.string ((rd_T43 l0_0 x4_1).f3))).heap[gb116]? = some (.cells #[.string ((rd_T43 l0_0 x4_1).f0), .int .i64 ((rd_T43 l0_0 x4_1).f1), .bool false, .string ((rd_T43 l0_0 x4_1).f3)] 43 (0, 0))) := ⟨by (with_reducible repeat (first | refine blk_drewN ?_ _ | refine blk_drew ?_ | refine blk_alloc ?_ _)); refine blk_put (cs := #[.string ((rd_T43 l0_0 x4_1).f0), .int .i64 ((rd_T43 l0_0 x4_1).f1), .bool (false), .string (⟨#[]⟩ : ByteArray)]) ?_ 3 _ rfl; (with_reducible repeat (first | refine blk_drewN ?_ _ | refine blk_drew ?_ | refine blk_alloc ?_ _)); refine blk_put (cs := #[.string ((rd_T43 l0_0 x4_1).f0), .int .i64 ((rd_T43 l0_0 x4_1).f1), .bool false, .string (⟨#[]⟩ : ByteArray)]) ?_ 2 _ rfl; (with_reducible repeat (first | refine blk_drewN ?_ _ | refine blk_drew ?_ | refine blk_alloc ?_ _)); refine blk_put (cs := #[.string ((rd_T43 l0_0 x4_1).f0), .int .i64 0, .bool false, .string (⟨#[]⟩ : ByteArray)]) ?_ 1 _ rfl; (with_reducible repeat (first | refine blk_drewN ?_ _ | refine blk_drew ?_ | refine blk_alloc ?_ _)); refine blk_put (cs := #[.string (⟨#[]⟩ : ByteArray), .int .i64 0, .bool false, .string (⟨#[]⟩ : ByteArray)]) ?_ 0 _ rfl; (with_reducible repeat (first | refine blk_drewN ?_ _ | refine blk_drew ?_ | refine blk_alloc ?_ _)); exact BK116.out⟩
      have n3_ : Aside0 (Below w.heap.size w ((((w13.setCell ⟨gb116, 0, none⟩ (.string ((rd_T43 l0_0 x4_1).f0))).setCell ⟨gb116, 1, none⟩ (.int .i64 ((rd_T43 l0_0 x4_1).f1))).setCell ⟨gb116, 2, none⟩ (.bool (false))).setCell ⟨gb116, 3, none⟩ (.string ((rd_T43 l0_0 x4_1).f3)))) := ⟨by repeat (first | (with_reducible first | exact HB.out | apply below_alloc | apply pw_below_drewN | apply below_drew1 | refine below_set ?_ GE111.out | refine below_set ?_ GE116.out) | exact HB.out)⟩
      (try clear HO_3)
      (try clear BK111)
      (try clear BK116)
      (try clear HB)
      generalize ((((w13.setCell ⟨gb116, 0, none⟩ (.string ((rd_T43 l0_0 x4_1).f0))).setCell ⟨gb116, 1, none⟩ (.int .i64 ((rd_T43 l0_0 x4_1).f1))).setCell ⟨gb116, 2, none⟩ (.bool (false))).setCell ⟨gb116, 3, none⟩ (.string ((rd_T43 l0_0 x4_1).f3))) = w52 at n0_ n1_ n2_ n3_ ⊢
      have HO_3 := n0_
      have BK111 := n1_
      have BK116 := n2_
      have HB := n3_
      clear n0_ n1_ n2_ n3_
      have n0_ := Aside0.mk (Kd.R_drew HO_3.out)
      have n1_ := Aside0.mk (blk_drew BK111.out)
      have n2_ := Aside0.mk (blk_drew BK116.out)
      have n3_ := Aside0.mk (below_drew1 HB.out)
      clear HO_3
      clear BK111
      clear BK116
      clear HB
      have HO_3 := n0_
      have BK111 := n1_
      have BK116 := n2_
      have HB := n3_
      clear n0_ n1_ n2_ n3_
      refine start_ (n := 51) (S := fun w' => w'.cell? ⟨gb116, 0, none⟩ = some (.string ((rd_T43 l0_0 x4_1).f0)) ∧ w'.cell? ⟨gb116, 1, none⟩ = some (.int .i64 ((rd_T43 l0_0 x4_1).f1)) ∧ w'.cell? ⟨gb116, 2, none⟩ = some (.bool false) ∧ w'.cell? ⟨gb116, 3, none⟩ = some (.string ((rd_T43 l0_0 x4_1).f3))) (ds := []) zf20 (by kernel_rfl) rfl rfl ⟨(blk_cell BK116.out 0).trans rfl, (blk_cell BK116.out 1).trans rfl, (blk_cell BK116.out 2).trans rfl, (blk_cell BK116.out 3).trans rfl⟩ (fun hHeld => ?_); refine with_tabW spec_RunFault.tab8 spec_RunFault.bits8 (fun HT_ HW_ => ?_)
      generalize w52.drew = w53 at HO_3 BK111 BK116 HB hHeld ⊢
      refine Cap.pu (v := ?_) (a' := ?_) 0 (some 23) zf21 HT_ rfl rfl (by kernel_rfl) (fun _ _ _ h => h) (Or.inl ⟨by rfl, ?_⟩) ?_ ?_; rotate_left; intro w'; go_simp; with_reducible rfl; rotate_left; simp only [Cap.pz]; rfl
      refine take_ (i := 1) (N := some 24) (v := ?_) (a' := ?_) zf22 rfl rfl (take_ofW HT_.out HW_.out (by kernel_rfl)) (fun _ _ _ h => h) (Or.inl ⟨by rfl, ?_⟩) hHeld ?_ ?_; rotate_left; rintro w' ⟨s0, s1, s2, s3⟩; go_simp; with_reducible rfl; rotate_left; simp only [Cap.pz]; rfl
      refine Cap.pu (v := ?_) (a' := ?_) 2 (some 25) zf23 HT_ rfl rfl (by kernel_rfl) (fun _ _ _ h => h) (Or.inl ⟨by rfl, ?_⟩) ?_ ?_; rotate_left; intro w'; go_simp; with_reducible rfl; rotate_left; simp only [Cap.pz]; rfl
      refine Cap.pu (v := ?_) (a' := ?_) 3 (some 26) zf24 HT_ rfl rfl (by kernel_rfl) (fun _ _ _ h => h) (Or.inl ⟨by rfl, ?_⟩) ?_ ?_; rotate_left; intro w'; go_simp; with_reducible rfl; rotate_left; simp only [Cap.pz]; rfl
      refine Cap.pu (v := ?_) (a' := ?_) 4 (some 27) zf25 HT_ rfl rfl (by kernel_rfl) (fun _ _ _ h => h) (Or.inl ⟨by rfl, ?_⟩) ?_ ?_; rotate_left; intro w'; go_simp; with_reducible rfl; rotate_left; simp only [Cap.pz]; rfl
      refine Cap.pu (v := ?_) (a' := ?_) 5 (some 28) zf26 HT_ rfl rfl (by kernel_rfl) (fun _ _ _ h => h) (Or.inl ⟨by rfl, ?_⟩) ?_ ?_; rotate_left; intro w'; go_simp; with_reducible rfl; rotate_left; simp only [Cap.pz]; rfl
      refine take_ (i := 6) (N := some 29) (v := ?_) (a' := ?_) zf27 rfl rfl (take_ofW HT_.out HW_.out (by kernel_rfl)) (fun _ _ _ h => h) (Or.inl ⟨by rfl, ?_⟩) hHeld ?_ ?_; rotate_left; rintro w' ⟨s0, s1, s2, s3⟩; go_simp; with_reducible rfl; rotate_left; simp only [Cap.pz]; rfl
      refine Cap.pu (v := ?_) (a' := ?_) 7 (some 30) zf28 HT_ rfl rfl (by kernel_rfl) (fun _ _ _ h => h) (Or.inl ⟨by rfl, ?_⟩) ?_ ?_; rotate_left; intro w'; go_simp; with_reducible rfl; rotate_left; simp only [Cap.pz]; rfl
      refine Cap.pu (v := ?_) (a' := ?_) 8 (some 31) zf29 HT_ rfl rfl (by kernel_rfl) (fun _ _ _ h => h) (Or.inl ⟨by rfl, ?_⟩) ?_ ?_; rotate_left; intro w'; go_simp; with_reducible rfl; rotate_left; simp only [Cap.pz]; rfl
      refine Cap.pu (v := ?_) (a' := ?_) 9 (some 32) zf30 HT_ rfl rfl (by kernel_rfl) (fun _ _ _ h => h) (Or.inl ⟨by rfl, ?_⟩) ?_ ?_; rotate_left; intro w'; go_simp; with_reducible rfl; rotate_left; simp only [Cap.pz]; rfl
      refine Cap.pu (v := ?_) (a' := ?_) 10 (some 33) zf31 HT_ rfl rfl (by kernel_rfl) (fun _ _ _ h => h) (Or.inl ⟨by rfl, ?_⟩) ?_ ?_; rotate_left; intro w'; go_simp; with_reducible rfl; rotate_left; simp only [Cap.pz]; rfl
      refine Cap.pu (v := ?_) (a' := ?_) 11 (some 34) zf32 HT_ rfl rfl (by kernel_rfl) (fun _ _ _ h => h) (Or.inl ⟨by rfl, ?_⟩) ?_ ?_; rotate_left; intro w'; go_simp; with_reducible rfl; rotate_left; simp only [Cap.pz]; rfl
      refine take_ (i := 12) (N := some 35) (v := ?_) (a' := ?_) zf33 rfl rfl (take_ofW HT_.out HW_.out (by kernel_rfl)) (fun _ _ _ h => h) (Or.inl ⟨by rfl, ?_⟩) hHeld ?_ ?_; rotate_left; rintro w' ⟨s0, s1, s2, s3⟩; go_simp; with_reducible rfl; rotate_left; simp only [Cap.pz]; rfl
      refine Cap.pu (v := ?_) (a' := ?_) 13 (some 36) zf34 HT_ rfl rfl (by kernel_rfl) (fun _ _ _ h => h) (Or.inl ⟨by rfl, ?_⟩) ?_ ?_; rotate_left; intro w'; go_simp; with_reducible rfl; rotate_left; simp only [Cap.pz]; rfl
      refine Cap.pu (v := ?_) (a' := ?_) 14 (some 37) zf35 HT_ rfl rfl (by kernel_rfl) (fun _ _ _ h => h) (Or.inl ⟨by rfl, ?_⟩) ?_ ?_; rotate_left; intro w'; go_simp; with_reducible rfl; rotate_left; simp only [Cap.pz]; rfl
      refine Cap.pu (v := ?_) (a' := ?_) 15 (some 38) zf36 HT_ rfl rfl (by kernel_rfl) (fun _ _ _ h => h) (Or.inl ⟨by rfl, ?_⟩) ?_ ?_; rotate_left; intro w'; go_simp; with_reducible rfl; rotate_left; simp only [Cap.pz]; rfl
      refine Cap.pu (v := ?_) (a' := ?_) 16 (some 39) zf37 HT_ rfl rfl (by kernel_rfl) (fun _ _ _ h => h) (Or.inl ⟨by rfl, ?_⟩) ?_ ?_; rotate_left; intro w'; go_simp; with_reducible rfl; rotate_left; simp only [Cap.pz]; rfl
      refine take_ (i := 17) (N := some 40) (v := ?_) (a' := ?_) zf38 rfl rfl (take_ofW HT_.out HW_.out (by kernel_rfl)) (fun _ _ _ h => h) (Or.inl ⟨by rfl, ?_⟩) hHeld ?_ ?_; rotate_left; rintro w' ⟨s0, s1, s2, s3⟩; go_simp; with_reducible rfl; rotate_left; simp only [Cap.pz]; rfl
      refine Cap.pu (v := ?_) (a' := ?_) 18 (some 41) zf39 HT_ rfl rfl (by kernel_rfl) (fun _ _ _ h => h) (Or.inl ⟨by rfl, ?_⟩) ?_ ?_; rotate_left; intro w'; go_simp; with_reducible rfl; rotate_left; simp only [Cap.pz]; rfl
      refine Cap.pu (v := undef) (a' := ?_) 19 (some 42) zf40 HT_ rfl rfl (by kernel_rfl) (fun _ _ _ h => h) (Or.inr ⟨by rfl, rfl⟩) ?_ ?_; rotate_left; simp only [Cap.pz]; rfl
      refine Cap.pu (v := undef) (a' := ?_) 20 (some 43) zf41 HT_ rfl rfl (by kernel_rfl) (fun _ _ _ h => h) (Or.inr ⟨by rfl, rfl⟩) ?_ ?_; rotate_left; simp only [Cap.pz]; rfl
      refine Cap.pu (v := undef) (a' := ?_) 21 (some 44) zf42 HT_ rfl rfl (by kernel_rfl) (fun _ _ _ h => h) (Or.inr ⟨by rfl, rfl⟩) ?_ ?_; rotate_left; simp only [Cap.pz]; rfl
      refine Cap.pu (v := ?_) (a' := ?_) 22 (some 45) zf43 HT_ rfl rfl (by kernel_rfl) (fun _ _ _ h => h) (Or.inl ⟨by rfl, ?_⟩) ?_ ?_; rotate_left; intro w'; go_simp; with_reducible rfl; rotate_left; simp only [Cap.pz]; rfl
      refine Cap.pu (v := ?_) (a' := ?_) 23 (some 46) zf44 HT_ rfl rfl (by kernel_rfl) (fun _ _ _ h => h) (Or.inl ⟨by rfl, ?_⟩) ?_ ?_; rotate_left; intro w'; go_simp; with_reducible rfl; rotate_left; simp only [Cap.pz]; rfl
      refine Cap.pu (v := ?_) (a' := ?_) 24 (some 47) zf45 HT_ rfl rfl (by kernel_rfl) (fun _ _ _ h => h) (Or.inl ⟨by rfl, ?_⟩) ?_ ?_; rotate_left; intro w'; go_simp; with_reducible rfl; rotate_left; simp only [Cap.pz]; rfl
      refine Cap.pu (v := ?_) (a' := ?_) 25 (some 48) zf46 HT_ rfl rfl (by kernel_rfl) (fun _ _ _ h => h) (Or.inl ⟨by rfl, ?_⟩) ?_ ?_; rotate_left; intro w'; go_simp; with_reducible rfl; rotate_left; simp only [Cap.pz]; rfl
      refine take_ (i := 26) (N := some 49) (v := ?_) (a' := ?_) zf47 rfl rfl (take_ofW HT_.out HW_.out (by kernel_rfl)) (fun _ _ _ h => h) (Or.inl ⟨by rfl, ?_⟩) hHeld ?_ ?_; rotate_left; rintro w' ⟨s0, s1, s2, s3⟩; go_simp; with_reducible rfl; rotate_left; simp only [Cap.pz]; rfl
      refine Cap.pu (v := ?_) (a' := ?_) 27 (some 50) zf48 HT_ rfl rfl (by kernel_rfl) (fun _ _ _ h => h) (Or.inl ⟨by rfl, ?_⟩) ?_ ?_; rotate_left; intro w'; go_simp; with_reducible rfl; rotate_left; simp only [Cap.pz]; rfl
      refine Cap.pu (v := ?_) (a' := ?_) 28 (some 51) zf49 HT_ rfl rfl (by kernel_rfl) (fun _ _ _ h => h) (Or.inl ⟨by rfl, ?_⟩) ?_ ?_; rotate_left; intro w'; go_simp; with_reducible rfl; rotate_left; simp only [Cap.pz]; rfl
      refine Cap.pu (v := ?_) (a' := ?_) 29 (some 52) zf50 HT_ rfl rfl (by kernel_rfl) (fun _ _ _ h => h) (Or.inl ⟨by rfl, ?_⟩) ?_ ?_; rotate_left; intro w'; go_simp; with_reducible rfl; rotate_left; simp only [Cap.pz]; rfl
      refine Cap.pu (v := ?_) (a' := ?_) 30 (some 53) zf51 HT_ rfl rfl (by kernel_rfl) (fun _ _ _ h => h) (Or.inl ⟨by rfl, ?_⟩) ?_ ?_; rotate_left; intro w'; go_simp; with_reducible rfl; rotate_left; simp only [Cap.pz]; rfl
      refine Cap.pu (v := undef) (a' := ?_) 31 (some 54) zf52 HT_ rfl rfl (by kernel_rfl) (fun _ _ _ h => h) (Or.inr ⟨by rfl, rfl⟩) ?_ ?_; rotate_left; simp only [Cap.pz]; rfl
      refine Cap.pu (v := undef) (a' := ?_) 32 (some 55) zf53 HT_ rfl rfl (by kernel_rfl) (fun _ _ _ h => h) (Or.inr ⟨by rfl, rfl⟩) ?_ ?_; rotate_left; simp only [Cap.pz]; rfl
      refine Cap.pu (v := undef) (a' := ?_) 33 (some 56) zf54 HT_ rfl rfl (by kernel_rfl) (fun _ _ _ h => h) (Or.inr ⟨by rfl, rfl⟩) ?_ ?_; rotate_left; simp only [Cap.pz]; rfl
      refine Cap.pu (v := undef) (a' := ?_) 34 (some 57) zf55 HT_ rfl rfl (by kernel_rfl) (fun _ _ _ h => h) (Or.inr ⟨by rfl, rfl⟩) ?_ ?_; rotate_left; simp only [Cap.pz]; rfl
      refine Cap.pu (v := undef) (a' := ?_) 35 (some 58) zf56 HT_ rfl rfl (by kernel_rfl) (fun _ _ _ h => h) (Or.inr ⟨by rfl, rfl⟩) ?_ ?_; rotate_left; simp only [Cap.pz]; rfl
      refine Cap.pu (v := undef) (a' := ?_) 36 (some 59) zf57 HT_ rfl rfl (by kernel_rfl) (fun _ _ _ h => h) (Or.inr ⟨by rfl, rfl⟩) ?_ ?_; rotate_left; simp only [Cap.pz]; rfl
      refine Cap.pu (v := undef) (a' := ?_) 37 (some 60) zf58 HT_ rfl rfl (by kernel_rfl) (fun _ _ _ h => h) (Or.inr ⟨by rfl, rfl⟩) ?_ ?_; rotate_left; simp only [Cap.pz]; rfl
      refine Cap.pu (v := undef) (a' := ?_) 38 (some 61) zf59 HT_ rfl rfl (by kernel_rfl) (fun _ _ _ h => h) (Or.inr ⟨by rfl, rfl⟩) ?_ ?_; rotate_left; simp only [Cap.pz]; rfl
      refine Cap.pu (v := undef) (a' := ?_) 39 (some 62) zf60 HT_ rfl rfl (by kernel_rfl) (fun _ _ _ h => h) (Or.inr ⟨by rfl, rfl⟩) ?_ ?_; rotate_left; simp only [Cap.pz]; rfl
      refine Cap.pu (v := undef) (a' := ?_) 40 (some 63) zf61 HT_ rfl rfl (by kernel_rfl) (fun _ _ _ h => h) (Or.inr ⟨by rfl, rfl⟩) ?_ ?_; rotate_left; simp only [Cap.pz]; rfl
      refine Cap.pu (v := undef) (a' := ?_) 41 (some 64) zf62 HT_ rfl rfl (by kernel_rfl) (fun _ _ _ h => h) (Or.inr ⟨by rfl, rfl⟩) ?_ ?_; rotate_left; simp only [Cap.pz]; rfl
      refine Cap.pu (v := undef) (a' := ?_) 42 (some 65) zf63 HT_ rfl rfl (by kernel_rfl) (fun _ _ _ h => h) (Or.inr ⟨by rfl, rfl⟩) ?_ ?_; rotate_left; simp only [Cap.pz]; rfl
      refine Cap.pu (v := undef) (a' := ?_) 43 (some 66) zf64 HT_ rfl rfl (by kernel_rfl) (fun _ _ _ h => h) (Or.inr ⟨by rfl, rfl⟩) ?_ ?_; rotate_left; simp only [Cap.pz]; rfl
      refine Cap.pu (v := ?_) (a' := ?_) 44 (some 67) zf65 HT_ rfl rfl (by kernel_rfl) (fun _ _ _ h => h) (Or.inl ⟨by rfl, ?_⟩) ?_ ?_; rotate_left; intro w'; go_simp; with_reducible rfl; rotate_left; simp only [Cap.pz]; rfl
      refine Cap.pu (v := ?_) (a' := ?_) 45 (some 68) zf66 HT_ rfl rfl (by kernel_rfl) (fun _ _ _ h => h) (Or.inl ⟨by rfl, ?_⟩) ?_ ?_; rotate_left; intro w'; go_simp; with_reducible rfl; rotate_left; simp only [Cap.pz]; rfl
      refine Cap.pu (v := undef) (a' := ?_) 46 (some 69) zf67 HT_ rfl rfl (by kernel_rfl) (fun _ _ _ h => h) (Or.inr ⟨by rfl, rfl⟩) ?_ ?_; rotate_left; simp only [Cap.pz]; rfl
      refine Cap.pu (v := undef) (a' := ?_) 47 (some 70) zf68 HT_ rfl rfl (by kernel_rfl) (fun _ _ _ h => h) (Or.inr ⟨by rfl, rfl⟩) ?_ ?_; rotate_left; simp only [Cap.pz]; rfl
      refine Cap.pu (v := undef) (a' := ?_) 48 (some 71) zf69 HT_ rfl rfl (by kernel_rfl) (fun _ _ _ h => h) (Or.inr ⟨by rfl, rfl⟩) ?_ ?_; rotate_left; simp only [Cap.pz]; rfl
      refine Cap.pu (v := undef) (a' := ?_) 49 (some 72) zf70 HT_ rfl rfl (by kernel_rfl) (fun _ _ _ h => h) (Or.inr ⟨by rfl, rfl⟩) ?_ ?_; rotate_left; simp only [Cap.pz]; rfl
      refine Cap.pu (v := ?_) (a' := ?_) 50 (some 73) zf71 HT_ rfl rfl (by kernel_rfl) (fun _ _ _ h => h) (Or.inl ⟨by rfl, ?_⟩) ?_ ?_; rotate_left; intro w'; go_simp; with_reducible rfl; rotate_left; simp only [Cap.pz]; rfl
      refine done_ (done_of HT_.out (by kernel_rfl)) ?_
      try go_wp2
      go_meet
      case rel => (try rw [← Nbq25.out]); exact ⟨_, (true), (by first | rfl | (simp; done) | (simp [*]; done)), H', ⟨by have := HK1.out; first | omega | exact Nat.le_refl _⟩, ⟨by first | exact Grow.rg HO_3.out | exact HO_3.out⟩, ⟨by first | exact Grow.bk BK111.out | exact BK111.out⟩, ⟨by first | exact Grow.bk BK116.out | exact BK116.out⟩, ⟨by repeat (first | (with_reducible first | exact HB.out | apply below_alloc | apply pw_below_drewN | apply below_drew1 | refine below_set ?_ GE111.out | refine below_set ?_ GE116.out) | exact HB.out)⟩⟩
     rw [if_neg c51] at H
     have c51b0 : decide (100000 < (((rd_T43 l0_0 x4_1).f3).size : Int)) = false := decide_eq_false c51
     have c51b1 : decide (100000 < ((rd_T43 l0_0 x4_1).f3).size) = false := decide_eq_false (by omega)
     clear c51
     by_cases c54 : x4_1 > 0
     rotate_left
     ·
      rw [if_neg c54] at H
      have c54b0 : decide (0 < x4_1) = false := decide_eq_false c54
      clear c54
      replace H := Option.bind_eq_some_iff.mp H
      obtain ⟨t124, A680, H⟩ := H
      replace H : (spec_RunFault.j1 k1 x3_1 x4_1 t124 l0_0 ((rd_T43 l0_0 x4_1).f0) ((rd_T43 l0_0 x4_1).f1) false ((rd_T43 l0_0 x4_1).f3)) = some r := H
      have A68 := Aside0.mk A680
      clear A680
      have H' := Aside0.mk H
      clear H
      try go_wp2
      have n0_ : Aside0 (Kd.R (Kd.int .i64) 2 ((((w13.setCell ⟨gb116, 0, none⟩ (.string ((rd_T43 l0_0 x4_1).f0))).setCell ⟨gb116, 1, none⟩ (.int .i64 ((rd_T43 l0_0 x4_1).f1))).setCell ⟨gb116, 2, none⟩ (.bool (false))).setCell ⟨gb116, 3, none⟩ (.string ((rd_T43 l0_0 x4_1).f3))) w.heap.size (fun _ => True) u3 x3_1) := ⟨by (with_reducible repeat (first | apply Kd.R_alloc | apply Kd.R_drewN | apply Kd.R_drew)); exact Kd.R_mono (Kd.R_far (p := ⟨gb116, 3, none⟩) (Kd.R_far (p := ⟨gb116, 2, none⟩) (Kd.R_far (p := ⟨gb116, 1, none⟩) (Kd.R_far (p := ⟨gb116, 0, none⟩) (Kd.R_types HO_3.out BK116.out (by decide)) (fun _ hk => hk.2) (.string ((rd_T43 l0_0 x4_1).f0))) (fun _ hk => hk.2) (.int .i64 ((rd_T43 l0_0 x4_1).f1))) (fun _ hk => hk.2) (.bool (false))) (fun _ hk => hk.2) (.string ((rd_T43 l0_0 x4_1).f3))) (fun _ hk => trivial)⟩
      have n1_ : Aside0 (((((w13.setCell ⟨gb116, 0, none⟩ (.string ((rd_T43 l0_0 x4_1).f0))).setCell ⟨gb116, 1, none⟩ (.int .i64 ((rd_T43 l0_0 x4_1).f1))).setCell ⟨gb116, 2, none⟩ (.bool (false))).setCell ⟨gb116, 3, none⟩ (.string ((rd_T43 l0_0 x4_1).f3))).heap[gb111]? = some (.cells #[.slice (some ad115) l0_0.length c0_0] 26 (0, 0))) := ⟨by (with_reducible repeat (first | refine blk_drewN ?_ _ | refine blk_drew ?_ | refine blk_alloc ?_ _)); refine blk_far ?_ NB111_116.out _; (with_reducible repeat (first | refine blk_drewN ?_ _ | refine blk_drew ?_ | refine blk_alloc ?_ _)); refine blk_far ?_ NB111_116.out _; (with_reducible repeat (first | refine blk_drewN ?_ _ | refine blk_drew ?_ | refine blk_alloc ?_ _)); refine blk_far ?_ NB111_116.out _; (with_reducible repeat (first | refine blk_drewN ?_ _ | refine blk_drew ?_ | refine blk_alloc ?_ _)); refine blk_far ?_ NB111_116.out _; (with_reducible repeat (first | refine blk_drewN ?_ _ | refine blk_drew ?_ | refine blk_alloc ?_ _)); exact BK111.out⟩
      have n2_ : Aside0 (((((w13.setCell ⟨gb116, 0, none⟩ (.string ((rd_T43 l0_0 x4_1).f0))).setCell ⟨gb116, 1, none⟩ (.int .i64 ((rd_T43 l0_0 x4_1).f1))).setCell ⟨gb116, 2, none⟩ (.bool (false))).setCell ⟨gb116, 3, none⟩ (.string ((rd_T43 l0_0 x4_1).f3))).heap[gb116]? = some (.cells #[.string ((rd_T43 l0_0 x4_1).f0), .int .i64 ((rd_T43 l0_0 x4_1).f1), .bool false, .string ((rd_T43 l0_0 x4_1).f3)] 43 (0, 0))) := ⟨by (with_reducible repeat (first | refine blk_drewN ?_ _ | refine blk_drew ?_ | refine blk_alloc ?_ _)); refine blk_put (cs := #[.string ((rd_T43 l0_0 x4_1).f0), .int .i64 ((rd_T43 l0_0 x4_1).f1), .bool (false), .string (⟨#[]⟩ : ByteArray)]) ?_ 3 _ rfl; (with_reducible repeat (first | refine blk_drewN ?_ _ | refine blk_drew ?_ | refine blk_alloc ?_ _)); refine blk_put (cs := #[.string ((rd_T43 l0_0 x4_1).f0), .int .i64 ((rd_T43 l0_0 x4_1).f1), .bool false, .string (⟨#[]⟩ : ByteArray)]) ?_ 2 _ rfl; (with_reducible repeat (first | refine blk_drewN ?_ _ | refine blk_drew ?_ | refine blk_alloc ?_ _)); refine blk_put (cs := #[.string ((rd_T43 l0_0 x4_1).f0), .int .i64 0, .bool false, .string (⟨#[]⟩ : ByteArray)]) ?_ 1 _ rfl; (with_reducible repeat (first | refine blk_drewN ?_ _ | refine blk_drew ?_ | refine blk_alloc ?_ _)); refine blk_put (cs := #[.string (⟨#[]⟩ : ByteArray), .int .i64 0, .bool false, .string (⟨#[]⟩ : ByteArray)]) ?_ 0 _ rfl; (with_reducible repeat (first | refine blk_drewN ?_ _ | refine blk_drew ?_ | refine blk_alloc ?_ _)); exact BK116.out⟩
      have n3_ : Aside0 (Below w.heap.size w ((((w13.setCell ⟨gb116, 0, none⟩ (.string ((rd_T43 l0_0 x4_1).f0))).setCell ⟨gb116, 1, none⟩ (.int .i64 ((rd_T43 l0_0 x4_1).f1))).setCell ⟨gb116, 2, none⟩ (.bool (false))).setCell ⟨gb116, 3, none⟩ (.string ((rd_T43 l0_0 x4_1).f3)))) := ⟨by repeat (first | (with_reducible first | exact HB.out | apply below_alloc | apply pw_below_drewN | apply below_drew1 | refine below_set ?_ GE111.out | refine below_set ?_ GE116.out) | exact HB.out)⟩
      (try clear HO_3)
      (try clear BK111)
      (try clear BK116)
      (try clear HB)
      generalize ((((w13.setCell ⟨gb116, 0, none⟩ (.string ((rd_T43 l0_0 x4_1).f0))).setCell ⟨gb116, 1, none⟩ (.int .i64 ((rd_T43 l0_0 x4_1).f1))).setCell ⟨gb116, 2, none⟩ (.bool (false))).setCell ⟨gb116, 3, none⟩ (.string ((rd_T43 l0_0 x4_1).f3))) = w69 at n0_ n1_ n2_ n3_ ⊢
      have HO_3 := n0_
      have BK111 := n1_
      have BK116 := n2_
      have HB := n3_
      clear n0_ n1_ n2_ n3_
      have n0_ := Aside0.mk (Kd.R_drew HO_3.out)
      have n1_ := Aside0.mk (blk_drew BK111.out)
      have n2_ := Aside0.mk (blk_drew BK116.out)
      have n3_ := Aside0.mk (below_drew1 HB.out)
      clear HO_3
      clear BK111
      clear BK116
      clear HB
      have HO_3 := n0_
      have BK111 := n1_
      have BK116 := n2_
      have HB := n3_
      clear n0_ n1_ n2_ n3_
      obtain ⟨Ao71, co71, eo71⟩ := Kd.R_slice HO_3.out
      (first | subst eo71 | (injection eo71 with f1_ f2_ f3_; have f4_ := f1_.symm; have f5_ := f3_.symm; clear f1_ f2_ f3_; subst f4_; subst f5_))
      refine start_ (n := 51) (S := fun w' => w'.cell? ⟨gb116, 0, none⟩ = some (.string ((rd_T43 l0_0 x4_1).f0)) ∧ w'.cell? ⟨gb116, 1, none⟩ = some (.int .i64 ((rd_T43 l0_0 x4_1).f1)) ∧ w'.cell? ⟨gb116, 2, none⟩ = some (.bool false) ∧ w'.cell? ⟨gb116, 3, none⟩ = some (.string ((rd_T43 l0_0 x4_1).f3))) (ds := []) zf20 (by kernel_rfl) rfl rfl ⟨(blk_cell BK116.out 0).trans rfl, (blk_cell BK116.out 1).trans rfl, (blk_cell BK116.out 2).trans rfl, (blk_cell BK116.out 3).trans rfl⟩ (fun hHeld => ?_); refine with_tabW spec_RunFault.tab8 spec_RunFault.bits8 (fun HT_ HW_ => ?_)
      generalize w69.drew = w70 at HO_3 BK111 BK116 HB hHeld ⊢
      refine Cap.pu (v := ?_) (a' := ?_) 0 (some 23) zf21 HT_ rfl rfl (by kernel_rfl) (fun _ _ _ h => h) (Or.inl ⟨by rfl, ?_⟩) ?_ ?_; rotate_left; intro w'; go_simp; with_reducible rfl; rotate_left; simp only [Cap.pz]; rfl
      refine take_ (i := 1) (N := some 24) (v := ?_) (a' := ?_) zf22 rfl rfl (take_ofW HT_.out HW_.out (by kernel_rfl)) (fun _ _ _ h => h) (Or.inl ⟨by rfl, ?_⟩) hHeld ?_ ?_; rotate_left; rintro w' ⟨s0, s1, s2, s3⟩; go_simp; with_reducible rfl; rotate_left; simp only [Cap.pz]; rfl
      refine Cap.pu (v := ?_) (a' := ?_) 2 (some 25) zf23 HT_ rfl rfl (by kernel_rfl) (fun _ _ _ h => h) (Or.inl ⟨by rfl, ?_⟩) ?_ ?_; rotate_left; intro w'; go_simp; with_reducible rfl; rotate_left; simp only [Cap.pz]; rfl
      refine Cap.pu (v := ?_) (a' := ?_) 3 (some 26) zf24 HT_ rfl rfl (by kernel_rfl) (fun _ _ _ h => h) (Or.inl ⟨by rfl, ?_⟩) ?_ ?_; rotate_left; intro w'; go_simp; with_reducible rfl; rotate_left; simp only [Cap.pz]; rfl
      refine Cap.pu (v := ?_) (a' := ?_) 4 (some 27) zf25 HT_ rfl rfl (by kernel_rfl) (fun _ _ _ h => h) (Or.inl ⟨by rfl, ?_⟩) ?_ ?_; rotate_left; intro w'; go_simp; with_reducible rfl; rotate_left; simp only [Cap.pz]; rfl
      refine Cap.pu (v := ?_) (a' := ?_) 5 (some 28) zf26 HT_ rfl rfl (by kernel_rfl) (fun _ _ _ h => h) (Or.inl ⟨by rfl, ?_⟩) ?_ ?_; rotate_left; intro w'; go_simp; with_reducible rfl; rotate_left; simp only [Cap.pz]; rfl
      refine take_ (i := 6) (N := some 29) (v := ?_) (a' := ?_) zf27 rfl rfl (take_ofW HT_.out HW_.out (by kernel_rfl)) (fun _ _ _ h => h) (Or.inl ⟨by rfl, ?_⟩) hHeld ?_ ?_; rotate_left; rintro w' ⟨s0, s1, s2, s3⟩; go_simp; with_reducible rfl; rotate_left; simp only [Cap.pz]; rfl
      refine Cap.pu (v := ?_) (a' := ?_) 7 (some 30) zf28 HT_ rfl rfl (by kernel_rfl) (fun _ _ _ h => h) (Or.inl ⟨by rfl, ?_⟩) ?_ ?_; rotate_left; intro w'; go_simp; with_reducible rfl; rotate_left; simp only [Cap.pz]; rfl
      refine Cap.pu (v := ?_) (a' := ?_) 8 (some 31) zf29 HT_ rfl rfl (by kernel_rfl) (fun _ _ _ h => h) (Or.inl ⟨by rfl, ?_⟩) ?_ ?_; rotate_left; intro w'; go_simp; with_reducible rfl; rotate_left; simp only [Cap.pz]; rfl
      refine Cap.pu (v := ?_) (a' := ?_) 9 (some 32) zf30 HT_ rfl rfl (by kernel_rfl) (fun _ _ _ h => h) (Or.inl ⟨by rfl, ?_⟩) ?_ ?_; rotate_left; intro w'; go_simp; with_reducible rfl; rotate_left; simp only [Cap.pz]; rfl
      refine Cap.pu (v := ?_) (a' := ?_) 10 (some 33) zf31 HT_ rfl rfl (by kernel_rfl) (fun _ _ _ h => h) (Or.inl ⟨by rfl, ?_⟩) ?_ ?_; rotate_left; intro w'; go_simp; with_reducible rfl; rotate_left; simp only [Cap.pz]; rfl
      refine Cap.pu (v := ?_) (a' := ?_) 11 (some 34) zf32 HT_ rfl rfl (by kernel_rfl) (fun _ _ _ h => h) (Or.inl ⟨by rfl, ?_⟩) ?_ ?_; rotate_left; intro w'; go_simp; with_reducible rfl; rotate_left; simp only [Cap.pz]; rfl
      refine take_ (i := 12) (N := some 35) (v := ?_) (a' := ?_) zf33 rfl rfl (take_ofW HT_.out HW_.out (by kernel_rfl)) (fun _ _ _ h => h) (Or.inl ⟨by rfl, ?_⟩) hHeld ?_ ?_; rotate_left; rintro w' ⟨s0, s1, s2, s3⟩; go_simp; with_reducible rfl; rotate_left; simp only [Cap.pz]; rfl
      refine Cap.pu (v := ?_) (a' := ?_) 13 (some 36) zf34 HT_ rfl rfl (by kernel_rfl) (fun _ _ _ h => h) (Or.inl ⟨by rfl, ?_⟩) ?_ ?_; rotate_left; intro w'; go_simp; with_reducible rfl; rotate_left; simp only [Cap.pz]; rfl
      refine Cap.pu (v := ?_) (a' := ?_) 14 (some 37) zf35 HT_ rfl rfl (by kernel_rfl) (fun _ _ _ h => h) (Or.inl ⟨by rfl, ?_⟩) ?_ ?_; rotate_left; intro w'; go_simp; with_reducible rfl; rotate_left; simp only [Cap.pz]; rfl
      refine Cap.pu (v := ?_) (a' := ?_) 15 (some 38) zf36 HT_ rfl rfl (by kernel_rfl) (fun _ _ _ h => h) (Or.inl ⟨by rfl, ?_⟩) ?_ ?_; rotate_left; intro w'; go_simp; with_reducible rfl; rotate_left; simp only [Cap.pz]; rfl
      refine Cap.pu (v := ?_) (a' := ?_) 16 (some 39) zf37 HT_ rfl rfl (by kernel_rfl) (fun _ _ _ h => h) (Or.inl ⟨by rfl, ?_⟩) ?_ ?_; rotate_left; intro w'; go_simp; with_reducible rfl; rotate_left; simp only [Cap.pz]; rfl
      refine take_ (i := 17) (N := some 40) (v := ?_) (a' := ?_) zf38 rfl rfl (take_ofW HT_.out HW_.out (by kernel_rfl)) (fun _ _ _ h => h) (Or.inl ⟨by rfl, ?_⟩) hHeld ?_ ?_; rotate_left; rintro w' ⟨s0, s1, s2, s3⟩; go_simp; with_reducible rfl; rotate_left; simp only [Cap.pz]; rfl
      refine Cap.pu (v := ?_) (a' := ?_) 18 (some 41) zf39 HT_ rfl rfl (by kernel_rfl) (fun _ _ _ h => h) (Or.inl ⟨by rfl, ?_⟩) ?_ ?_; rotate_left; intro w'; go_simp; with_reducible rfl; rotate_left; simp only [Cap.pz]; rfl
      refine Cap.pu (v := undef) (a' := ?_) 19 (some 42) zf40 HT_ rfl rfl (by kernel_rfl) (fun _ _ _ h => h) (Or.inr ⟨by rfl, rfl⟩) ?_ ?_; rotate_left; simp only [Cap.pz]; rfl
      refine Cap.pu (v := undef) (a' := ?_) 20 (some 43) zf41 HT_ rfl rfl (by kernel_rfl) (fun _ _ _ h => h) (Or.inr ⟨by rfl, rfl⟩) ?_ ?_; rotate_left; simp only [Cap.pz]; rfl
      refine Cap.pu (v := undef) (a' := ?_) 21 (some 44) zf42 HT_ rfl rfl (by kernel_rfl) (fun _ _ _ h => h) (Or.inr ⟨by rfl, rfl⟩) ?_ ?_; rotate_left; simp only [Cap.pz]; rfl
      refine Cap.pu (v := ?_) (a' := ?_) 22 (some 45) zf43 HT_ rfl rfl (by kernel_rfl) (fun _ _ _ h => h) (Or.inl ⟨by rfl, ?_⟩) ?_ ?_; rotate_left; intro w'; go_simp; with_reducible rfl; rotate_left; simp only [Cap.pz]; rfl
      refine Cap.pu (v := ?_) (a' := ?_) 23 (some 46) zf44 HT_ rfl rfl (by kernel_rfl) (fun _ _ _ h => h) (Or.inl ⟨by rfl, ?_⟩) ?_ ?_; rotate_left; intro w'; go_simp; with_reducible rfl; rotate_left; simp only [Cap.pz]; rfl
      refine Cap.pu (v := ?_) (a' := ?_) 24 (some 47) zf45 HT_ rfl rfl (by kernel_rfl) (fun _ _ _ h => h) (Or.inl ⟨by rfl, ?_⟩) ?_ ?_; rotate_left; intro w'; go_simp; with_reducible rfl; rotate_left; simp only [Cap.pz]; rfl
      refine Cap.pu (v := ?_) (a' := ?_) 25 (some 48) zf46 HT_ rfl rfl (by kernel_rfl) (fun _ _ _ h => h) (Or.inl ⟨by rfl, ?_⟩) ?_ ?_; rotate_left; intro w'; go_simp; with_reducible rfl; rotate_left; simp only [Cap.pz]; rfl
      refine take_ (i := 26) (N := some 49) (v := ?_) (a' := ?_) zf47 rfl rfl (take_ofW HT_.out HW_.out (by kernel_rfl)) (fun _ _ _ h => h) (Or.inl ⟨by rfl, ?_⟩) hHeld ?_ ?_; rotate_left; rintro w' ⟨s0, s1, s2, s3⟩; go_simp; with_reducible rfl; rotate_left; simp only [Cap.pz]; rfl
      refine Cap.pu (v := ?_) (a' := ?_) 27 (some 50) zf48 HT_ rfl rfl (by kernel_rfl) (fun _ _ _ h => h) (Or.inl ⟨by rfl, ?_⟩) ?_ ?_; rotate_left; intro w'; go_simp; with_reducible rfl; rotate_left; simp only [Cap.pz]; rfl
      refine Cap.pu (v := ?_) (a' := ?_) 28 (some 51) zf49 HT_ rfl rfl (by kernel_rfl) (fun _ _ _ h => h) (Or.inl ⟨by rfl, ?_⟩) ?_ ?_; rotate_left; intro w'; go_simp; with_reducible rfl; rotate_left; simp only [Cap.pz]; rfl
      refine Cap.pu (v := ?_) (a' := ?_) 29 (some 52) zf50 HT_ rfl rfl (by kernel_rfl) (fun _ _ _ h => h) (Or.inl ⟨by rfl, ?_⟩) ?_ ?_; rotate_left; intro w'; go_simp; with_reducible rfl; rotate_left; simp only [Cap.pz]; rfl
      refine Cap.pu (v := ?_) (a' := ?_) 30 (some 53) zf51 HT_ rfl rfl (by kernel_rfl) (fun _ _ _ h => h) (Or.inl ⟨by rfl, ?_⟩) ?_ ?_; rotate_left; intro w'; go_simp; with_reducible rfl; rotate_left; simp only [Cap.pz]; rfl
      refine Cap.pu (v := ?_) (a' := ?_) 31 (some 54) zf52 HT_ rfl rfl (by kernel_rfl) (fun _ _ _ h => h) (Or.inl ⟨by rfl, ?_⟩) ?_ ?_; rotate_left; intro w'; go_simp; with_reducible rfl; rotate_left; simp only [Cap.pz]; rfl
      refine Cap.pu (v := ?_) (a' := ?_) 32 (some 55) zf53 HT_ rfl rfl (by kernel_rfl) (fun _ _ _ h => h) (Or.inl ⟨by rfl, ?_⟩) ?_ ?_; rotate_left; intro w'; go_simp; with_reducible rfl; rotate_left; simp only [Cap.pz]; rfl
      refine Cap.pu (v := ?_) (a' := ?_) 33 (some 56) zf54 HT_ rfl rfl (by kernel_rfl) (fun _ _ _ h => h) (Or.inl ⟨by rfl, ?_⟩) ?_ ?_; rotate_left; intro w'; go_simp; with_reducible rfl; rotate_left; simp only [Cap.pz]; rfl
      refine Cap.pu (v := undef) (a' := ?_) 34 (some 57) zf55 HT_ rfl rfl (by kernel_rfl) (fun _ _ _ h => h) (Or.inr ⟨by rfl, rfl⟩) ?_ ?_; rotate_left; simp only [Cap.pz]; rfl
      refine Cap.pu (v := undef) (a' := ?_) 35 (some 58) zf56 HT_ rfl rfl (by kernel_rfl) (fun _ _ _ h => h) (Or.inr ⟨by rfl, rfl⟩) ?_ ?_; rotate_left; simp only [Cap.pz]; rfl
      refine Cap.pu (v := undef) (a' := ?_) 36 (some 59) zf57 HT_ rfl rfl (by kernel_rfl) (fun _ _ _ h => h) (Or.inr ⟨by rfl, rfl⟩) ?_ ?_; rotate_left; simp only [Cap.pz]; rfl
      refine Cap.pu (v := undef) (a' := ?_) 37 (some 60) zf58 HT_ rfl rfl (by kernel_rfl) (fun _ _ _ h => h) (Or.inr ⟨by rfl, rfl⟩) ?_ ?_; rotate_left; simp only [Cap.pz]; rfl
      refine Cap.pu (v := undef) (a' := ?_) 38 (some 61) zf59 HT_ rfl rfl (by kernel_rfl) (fun _ _ _ h => h) (Or.inr ⟨by rfl, rfl⟩) ?_ ?_; rotate_left; simp only [Cap.pz]; rfl
      refine Cap.pu (v := undef) (a' := ?_) 39 (some 62) zf60 HT_ rfl rfl (by kernel_rfl) (fun _ _ _ h => h) (Or.inr ⟨by rfl, rfl⟩) ?_ ?_; rotate_left; simp only [Cap.pz]; rfl
      refine Cap.pu (v := undef) (a' := ?_) 40 (some 63) zf61 HT_ rfl rfl (by kernel_rfl) (fun _ _ _ h => h) (Or.inr ⟨by rfl, rfl⟩) ?_ ?_; rotate_left; simp only [Cap.pz]; rfl
      refine Cap.pu (v := undef) (a' := ?_) 41 (some 64) zf62 HT_ rfl rfl (by kernel_rfl) (fun _ _ _ h => h) (Or.inr ⟨by rfl, rfl⟩) ?_ ?_; rotate_left; simp only [Cap.pz]; rfl
      refine Cap.pu (v := undef) (a' := ?_) 42 (some 65) zf63 HT_ rfl rfl (by kernel_rfl) (fun _ _ _ h => h) (Or.inr ⟨by rfl, rfl⟩) ?_ ?_; rotate_left; simp only [Cap.pz]; rfl
      refine Cap.pu (v := ?_) (a' := ?_) 43 (some 66) zf64 HT_ rfl rfl (by kernel_rfl) (fun _ _ _ h => h) (Or.inl ⟨by rfl, ?_⟩) ?_ ?_; rotate_left; intro w'; go_simp; with_reducible rfl; rotate_left; simp only [Cap.pz]; rfl
      refine Cap.pu (v := ?_) (a' := ?_) 44 (some 67) zf65 HT_ rfl rfl (by kernel_rfl) (fun _ _ _ h => h) (Or.inl ⟨by rfl, ?_⟩) ?_ ?_; rotate_left; intro w'; go_simp; with_reducible rfl; rotate_left; simp only [Cap.pz]; rfl
      refine Cap.pu (v := ?_) (a' := ?_) 45 (some 68) zf66 HT_ rfl rfl (by kernel_rfl) (fun _ _ _ h => h) (Or.inl ⟨by rfl, ?_⟩) ?_ ?_; rotate_left; intro w'; go_simp; with_reducible rfl; rotate_left; simp only [Cap.pz]; rfl
      refine Cap.pu (v := ?_) (a' := ?_) 46 (some 69) zf67 HT_ rfl rfl (by kernel_rfl) (fun _ _ _ h => h) (Or.inl ⟨by rfl, ?_⟩) ?_ ?_; rotate_left; intro w'; go_simp; with_reducible rfl; rotate_left; simp only [Cap.pz]; rfl
      refine Cap.pu (v := ?_) (a' := ?_) 47 (some 70) zf68 HT_ rfl rfl (by kernel_rfl) (fun _ _ _ h => h) (Or.inl ⟨by rfl, ?_⟩) ?_ ?_; rotate_left; intro w'; go_simp; with_reducible rfl; rotate_left; simp only [Cap.pz]; rfl
      refine take_ (i := 48) (N := some 71) (v := ?_) (a' := ?_) zf69 rfl rfl (take_ofW HT_.out HW_.out (by kernel_rfl)) (fun _ _ _ h => h) (Or.inl ⟨by rfl, ?_⟩) hHeld ?_ ?_; rotate_left; rintro w' ⟨s0, s1, s2, s3⟩; go_simp; with_reducible rfl; rotate_left; simp only [Cap.pz]; rfl
      refine one_ (i := 49) (N := some 72) zf70 rfl rfl (one_of HT_.out (by kernel_rfl)) (by decide) (fun K hK => ?_)
      refine goes_ Try.func24 (by kernel_rfl) rfl #[.slice Ao71 x3_1.length co71, .int .i64 ((rd_T43 l0_0 x4_1).f1)] (by rfl) rfl rfl (by (try simp only [List.map_toArray, List.map_cons, List.map_nil]); first | done | rfl | (simp only [List.length_drop, List.length_take]; rfl)) ?_
      with_reducible refine (spec_l01InInts.calls k1 _ _ x3_1 ((rd_T43 l0_0 x4_1).f1) t124 _ ?side1 ?side2 A68.out).mono ?_
      (case side1 => repeat (first | exact (Kd.R_reads' HO_3.out).2.2 | (with_reducible refine Kd.C_alloc ?_ _) | (with_reducible refine Kd.C_drewN ?_ _) | (with_reducible refine Kd.C_drew ?_)))
      (case side2 => exact (Kd.R_reads' HO_3.out).2.1)
      rintro e w' ⟨rfl, ⟨nd, rfl⟩⟩
      refine ⟨_, rfl, ?_⟩
      refine hK.out _ _ ⟨(blk_cell BK116.out 0).trans rfl, (blk_cell BK116.out 1).trans rfl, (blk_cell BK116.out 2).trans rfl, (blk_cell BK116.out 3).trans rfl⟩ (fun hHeld => ?_)
      clear hK K
      refine norm_ (a' := ?_) ?_ ?_; rotate_left; show Act.put _ (some 72) _ = _; simp only [Cap.pz]; rfl
      refine Cap.pu (v := ?_) (a' := ?_) 50 (some 73) zf71 HT_ rfl rfl (by kernel_rfl) (fun _ _ _ h => h) (Or.inl ⟨by rfl, ?_⟩) ?_ ?_; rotate_left; intro w'; go_simp; with_reducible rfl; rotate_left; simp only [Cap.pz]; rfl
      refine done_ (done_of HT_.out (by kernel_rfl)) ?_
      try go_wp2
      go_meet
      case rel => (try rw [← Nbq25.out]); exact ⟨_, (t124), (by first | rfl | (simp; done) | (simp [*]; done)), H', ⟨by have := HK1.out; first | omega | exact Nat.le_refl _⟩, ⟨by first | exact Grow.rg HO_3.out | exact HO_3.out⟩, ⟨by first | exact Grow.bk BK111.out | exact BK111.out⟩, ⟨by first | exact Grow.bk BK116.out | exact BK116.out⟩, ⟨by repeat (first | (with_reducible first | exact HB.out | apply below_alloc | apply pw_below_drewN | apply below_drew1 | refine below_set ?_ GE111.out | refine below_set ?_ GE116.out) | exact HB.out)⟩⟩
     rw [if_pos c54] at H
     have c54b0 : decide (0 < x4_1) = true := decide_eq_true c54
     clear c54
     obtain ⟨ji55, hji55⟩ : ∃ j_ : Int, (wrap64 (x4_1 - 1)) = j_ := ⟨_, rfl⟩
     replace H : (if 0 ≤ (ji55) then (if (ji55) < (l0_0.length : Int) then ((spec_l08Less.f ((rd_T43 l0_0 (ji55)).f0) ((rd_T43 l0_0 (ji55)).f1) ((rd_T43 l0_0 (ji55)).f2) ((rd_T43 l0_0 (ji55)).f3) ((rd_T43 l0_0 x4_1).f0) ((rd_T43 l0_0 x4_1).f1) (false) ((rd_T43 l0_0 x4_1).f3)).bind fun t122 => (if t122 = true then ((spec_l01InInts.f k1 x3_1 ((rd_T43 l0_0 x4_1).f1)).bind fun t123 => (spec_RunFault.j1 k1 x3_1 x4_1 t123 l0_0 ((rd_T43 l0_0 x4_1).f0) ((rd_T43 l0_0 x4_1).f1) false ((rd_T43 l0_0 x4_1).f3))) else (spec_RunFault.j1 k1 x3_1 x4_1 true l0_0 ((rd_T43 l0_0 x4_1).f0) ((rd_T43 l0_0 x4_1).f1) false ((rd_T43 l0_0 x4_1).f3)))) else (none)) else (none)) = some r := by first | (rw [hji55] at H; exact H) | (simp only [hji55] at H ⊢; exact H)
     have hji55w : (IntKind.i64.wrap (x4_1 - 1)) = ji55 := (i64_w _).trans hji55
     by_cases c56 : 0 ≤ (ji55)
     rotate_left
     ·
      rw [if_neg c56] at H
      exact absurd H (by simp)
     rw [if_pos c56] at H
     have c56b0 : decide (0 ≤ (ji55)) = true := decide_eq_true c56
     clear c56
     by_cases c57 : (ji55) < (l0_0.length : Int)
     rotate_left
     ·
      rw [if_neg c57] at H
      exact absurd H (by simp)
     rw [if_pos c57] at H
     have c57b0 : decide ((ji55) < (l0_0.length : Int)) = true := decide_eq_true c57
     clear c57
     replace H := Option.bind_eq_some_iff.mp H
     obtain ⟨t122, A580, H⟩ := H
     replace H : (if t122 = true then ((spec_l01InInts.f k1 x3_1 ((rd_T43 l0_0 x4_1).f1)).bind fun t123 => (spec_RunFault.j1 k1 x3_1 x4_1 t123 l0_0 ((rd_T43 l0_0 x4_1).f0) ((rd_T43 l0_0 x4_1).f1) false ((rd_T43 l0_0 x4_1).f3))) else (spec_RunFault.j1 k1 x3_1 x4_1 true l0_0 ((rd_T43 l0_0 x4_1).f0) ((rd_T43 l0_0 x4_1).f1) false ((rd_T43 l0_0 x4_1).f3))) = some r := H
     have A58 := Aside0.mk A580
     clear A580
     by_cases c59 : t122 = true
     rotate_left
     ·
      replace c59 := Bool.eq_false_iff.mpr c59
      subst c59
      have H1 : (spec_RunFault.j1 k1 x3_1 x4_1 true l0_0 ((rd_T43 l0_0 x4_1).f0) ((rd_T43 l0_0 x4_1).f1) false ((rd_T43 l0_0 x4_1).f3)) = some r := by rw [if_neg (show ¬ (false = true) by decide)] at H; exact H
      clear H
      have H := H1
      clear H1
      have H' := Aside0.mk H
      clear H
      try go_wp2
      have n0_ : Aside0 (Kd.R (Kd.int .i64) 2 ((((w13.setCell ⟨gb116, 0, none⟩ (.string ((rd_T43 l0_0 x4_1).f0))).setCell ⟨gb116, 1, none⟩ (.int .i64 ((rd_T43 l0_0 x4_1).f1))).setCell ⟨gb116, 2, none⟩ (.bool (false))).setCell ⟨gb116, 3, none⟩ (.string ((rd_T43 l0_0 x4_1).f3))) w.heap.size (fun _ => True) u3 x3_1) := ⟨by (with_reducible repeat (first | apply Kd.R_alloc | apply Kd.R_drewN | apply Kd.R_drew)); exact Kd.R_mono (Kd.R_far (p := ⟨gb116, 3, none⟩) (Kd.R_far (p := ⟨gb116, 2, none⟩) (Kd.R_far (p := ⟨gb116, 1, none⟩) (Kd.R_far (p := ⟨gb116, 0, none⟩) (Kd.R_types HO_3.out BK116.out (by decide)) (fun _ hk => hk.2) (.string ((rd_T43 l0_0 x4_1).f0))) (fun _ hk => hk.2) (.int .i64 ((rd_T43 l0_0 x4_1).f1))) (fun _ hk => hk.2) (.bool (false))) (fun _ hk => hk.2) (.string ((rd_T43 l0_0 x4_1).f3))) (fun _ hk => trivial)⟩
      have n1_ : Aside0 (((((w13.setCell ⟨gb116, 0, none⟩ (.string ((rd_T43 l0_0 x4_1).f0))).setCell ⟨gb116, 1, none⟩ (.int .i64 ((rd_T43 l0_0 x4_1).f1))).setCell ⟨gb116, 2, none⟩ (.bool (false))).setCell ⟨gb116, 3, none⟩ (.string ((rd_T43 l0_0 x4_1).f3))).heap[gb111]? = some (.cells #[.slice (some ad115) l0_0.length c0_0] 26 (0, 0))) := ⟨by (with_reducible repeat (first | refine blk_drewN ?_ _ | refine blk_drew ?_ | refine blk_alloc ?_ _)); refine blk_far ?_ NB111_116.out _; (with_reducible repeat (first | refine blk_drewN ?_ _ | refine blk_drew ?_ | refine blk_alloc ?_ _)); refine blk_far ?_ NB111_116.out _; (with_reducible repeat (first | refine blk_drewN ?_ _ | refine blk_drew ?_ | refine blk_alloc ?_ _)); refine blk_far ?_ NB111_116.out _; (with_reducible repeat (first | refine blk_drewN ?_ _ | refine blk_drew ?_ | refine blk_alloc ?_ _)); refine blk_far ?_ NB111_116.out _; (with_reducible repeat (first | refine blk_drewN ?_ _ | refine blk_drew ?_ | refine blk_alloc ?_ _)); exact BK111.out⟩
      have n2_ : Aside0 (((((w13.setCell ⟨gb116, 0, none⟩ (.string ((rd_T43 l0_0 x4_1).f0))).setCell ⟨gb116, 1, none⟩ (.int .i64 ((rd_T43 l0_0 x4_1).f1))).setCell ⟨gb116, 2, none⟩ (.bool (false))).setCell ⟨gb116, 3, none⟩ (.string ((rd_T43 l0_0 x4_1).f3))).heap[gb116]? = some (.cells #[.string ((rd_T43 l0_0 x4_1).f0), .int .i64 ((rd_T43 l0_0 x4_1).f1), .bool false, .string ((rd_T43 l0_0 x4_1).f3)] 43 (0, 0))) := ⟨by (with_reducible repeat (first | refine blk_drewN ?_ _ | refine blk_drew ?_ | refine blk_alloc ?_ _)); refine blk_put (cs := #[.string ((rd_T43 l0_0 x4_1).f0), .int .i64 ((rd_T43 l0_0 x4_1).f1), .bool (false), .string (⟨#[]⟩ : ByteArray)]) ?_ 3 _ rfl; (with_reducible repeat (first | refine blk_drewN ?_ _ | refine blk_drew ?_ | refine blk_alloc ?_ _)); refine blk_put (cs := #[.string ((rd_T43 l0_0 x4_1).f0), .int .i64 ((rd_T43 l0_0 x4_1).f1), .bool false, .string (⟨#[]⟩ : ByteArray)]) ?_ 2 _ rfl; (with_reducible repeat (first | refine blk_drewN ?_ _ | refine blk_drew ?_ | refine blk_alloc ?_ _)); refine blk_put (cs := #[.string ((rd_T43 l0_0 x4_1).f0), .int .i64 0, .bool false, .string (⟨#[]⟩ : ByteArray)]) ?_ 1 _ rfl; (with_reducible repeat (first | refine blk_drewN ?_ _ | refine blk_drew ?_ | refine blk_alloc ?_ _)); refine blk_put (cs := #[.string (⟨#[]⟩ : ByteArray), .int .i64 0, .bool false, .string (⟨#[]⟩ : ByteArray)]) ?_ 0 _ rfl; (with_reducible repeat (first | refine blk_drewN ?_ _ | refine blk_drew ?_ | refine blk_alloc ?_ _)); exact BK116.out⟩
      have n3_ : Aside0 (Below w.heap.size w ((((w13.setCell ⟨gb116, 0, none⟩ (.string ((rd_T43 l0_0 x4_1).f0))).setCell ⟨gb116, 1, none⟩ (.int .i64 ((rd_T43 l0_0 x4_1).f1))).setCell ⟨gb116, 2, none⟩ (.bool (false))).setCell ⟨gb116, 3, none⟩ (.string ((rd_T43 l0_0 x4_1).f3)))) := ⟨by repeat (first | (with_reducible first | exact HB.out | apply below_alloc | apply pw_below_drewN | apply below_drew1 | refine below_set ?_ GE111.out | refine below_set ?_ GE116.out) | exact HB.out)⟩
      (try clear HO_3)
      (try clear BK111)
      (try clear BK116)
      (try clear HB)
      generalize ((((w13.setCell ⟨gb116, 0, none⟩ (.string ((rd_T43 l0_0 x4_1).f0))).setCell ⟨gb116, 1, none⟩ (.int .i64 ((rd_T43 l0_0 x4_1).f1))).setCell ⟨gb116, 2, none⟩ (.bool (false))).setCell ⟨gb116, 3, none⟩ (.string ((rd_T43 l0_0 x4_1).f3))) = w65 at n0_ n1_ n2_ n3_ ⊢
      have HO_3 := n0_
      have BK111 := n1_
      have BK116 := n2_
      have HB := n3_
      clear n0_ n1_ n2_ n3_
      have n0_ := Aside0.mk (Kd.R_drew HO_3.out)
      have n1_ := Aside0.mk (blk_drew BK111.out)
      have n2_ := Aside0.mk (blk_drew BK116.out)
      have n3_ := Aside0.mk (below_drew1 HB.out)
      clear HO_3
      clear BK111
      clear BK116
      clear HB
      have HO_3 := n0_
      have BK111 := n1_
      have BK116 := n2_
      have HB := n3_
      clear n0_ n1_ n2_ n3_
      have p121 : 0 ≤ ((ji55) : Int) := of_decide_eq_true (by first | (with_reducible assumption) | assumption)
      have q121 : (ji55) < (l0_0.length : Int) := of_decide_eq_true (by first | (with_reducible assumption) | assumption)
      obtain ⟨ad121, e121, hx121_0, hx121_1, hx121_2, hx121_3⟩ := at_T43 HR0_0.out (ji55) p121 q121
      have hw121_3 := hx121_3
      have hw121_2 := hx121_2
      have hw121_1 := hx121_1
      have hw121_0 := hx121_0
      (try rw [← Nbq25.out] at hx121_2)
      obtain rfl : ad115 = ad121 := (by injection e121)
      replace hx121_0 := Grow.bc HB.out hx121_0
      replace hx121_1 := Grow.bc HB.out hx121_1
      replace hx121_2 := Grow.bc HB.out hx121_2
      replace hx121_3 := Grow.bc HB.out hx121_3
      replace p121 := eq_true p121
      replace q121 := eq_true q121
      refine start_ (n := 51) (S := fun w' => w'.cell? ⟨gb116, 0, none⟩ = some (.string ((rd_T43 l0_0 x4_1).f0)) ∧ w'.cell? ⟨gb116, 1, none⟩ = some (.int .i64 ((rd_T43 l0_0 x4_1).f1)) ∧ w'.cell? ⟨gb116, 2, none⟩ = some (.bool false) ∧ w'.cell? ⟨gb116, 3, none⟩ = some (.string ((rd_T43 l0_0 x4_1).f3)) ∧ w'.cell? ⟨gb111, 0, none⟩ = some (.slice (some ad115) l0_0.length c0_0) ∧ w'.cell? (ad115.add (((ji55)).toNat * 4)) = some (.string ((rd_T43 l0_0 (ji55)).f0)) ∧ w'.cell? ⟨(ad115.add (((ji55)).toNat * 4)).block, (ad115.add (((ji55)).toNat * 4)).off + 1, none⟩ = some (.int .i64 ((rd_T43 l0_0 (ji55)).f1)) ∧ w'.cell? ⟨(ad115.add (((ji55)).toNat * 4)).block, (ad115.add (((ji55)).toNat * 4)).off + 2, none⟩ = some (.bool ((rd_T43 l0_0 (ji55)).f2)) ∧ w'.cell? ⟨(ad115.add (((ji55)).toNat * 4)).block, (ad115.add (((ji55)).toNat * 4)).off + 3, none⟩ = some (.string ((rd_T43 l0_0 (ji55)).f3))) (ds := []) zf20 (by kernel_rfl) rfl rfl ⟨(blk_cell BK116.out 0).trans rfl, (blk_cell BK116.out 1).trans rfl, (blk_cell BK116.out 2).trans rfl, (blk_cell BK116.out 3).trans rfl, (blk_cell BK111.out 0).trans rfl, ((HB.out.cell (World.block_lt_of_cell? w _ hw121_0)).trans hw121_0), ((HB.out.cell (World.block_lt_of_cell? w _ hw121_1)).trans hw121_1), ((HB.out.cell (World.block_lt_of_cell? w _ hw121_2)).trans hw121_2), ((HB.out.cell (World.block_lt_of_cell? w _ hw121_3)).trans hw121_3)⟩ (fun hHeld => ?_); refine with_tabW spec_RunFault.tab8 spec_RunFault.bits8 (fun HT_ HW_ => ?_)
      generalize w65.drew = w66 at HO_3 BK111 BK116 HB hx121_0 hx121_1 hx121_2 hx121_3 hHeld ⊢
      refine Cap.pu (v := ?_) (a' := ?_) 0 (some 23) zf21 HT_ rfl rfl (by kernel_rfl) (fun _ _ _ h => h) (Or.inl ⟨by rfl, ?_⟩) ?_ ?_; rotate_left; intro w'; go_simp; with_reducible rfl; rotate_left; simp only [Cap.pz]; rfl
      refine take_ (i := 1) (N := some 24) (v := ?_) (a' := ?_) zf22 rfl rfl (take_ofW HT_.out HW_.out (by kernel_rfl)) (fun _ _ _ h => h) (Or.inl ⟨by rfl, ?_⟩) hHeld ?_ ?_; rotate_left; rintro w' ⟨s0, s1, s2, s3, s4, s5, s6, s7, s8⟩; go_simp; with_reducible rfl; rotate_left; simp only [Cap.pz]; rfl
      refine Cap.pu (v := ?_) (a' := ?_) 2 (some 25) zf23 HT_ rfl rfl (by kernel_rfl) (fun _ _ _ h => h) (Or.inl ⟨by rfl, ?_⟩) ?_ ?_; rotate_left; intro w'; go_simp; with_reducible rfl; rotate_left; simp only [Cap.pz]; rfl
      refine Cap.pu (v := ?_) (a' := ?_) 3 (some 26) zf24 HT_ rfl rfl (by kernel_rfl) (fun _ _ _ h => h) (Or.inl ⟨by rfl, ?_⟩) ?_ ?_; rotate_left; intro w'; go_simp; with_reducible rfl; rotate_left; simp only [Cap.pz]; rfl
      refine Cap.pu (v := ?_) (a' := ?_) 4 (some 27) zf25 HT_ rfl rfl (by kernel_rfl) (fun _ _ _ h => h) (Or.inl ⟨by rfl, ?_⟩) ?_ ?_; rotate_left; intro w'; go_simp; with_reducible rfl; rotate_left; simp only [Cap.pz]; rfl
      refine Cap.pu (v := ?_) (a' := ?_) 5 (some 28) zf26 HT_ rfl rfl (by kernel_rfl) (fun _ _ _ h => h) (Or.inl ⟨by rfl, ?_⟩) ?_ ?_; rotate_left; intro w'; go_simp; with_reducible rfl; rotate_left; simp only [Cap.pz]; rfl
      refine take_ (i := 6) (N := some 29) (v := ?_) (a' := ?_) zf27 rfl rfl (take_ofW HT_.out HW_.out (by kernel_rfl)) (fun _ _ _ h => h) (Or.inl ⟨by rfl, ?_⟩) hHeld ?_ ?_; rotate_left; rintro w' ⟨s0, s1, s2, s3, s4, s5, s6, s7, s8⟩; go_simp; with_reducible rfl; rotate_left; simp only [Cap.pz]; rfl
      refine Cap.pu (v := ?_) (a' := ?_) 7 (some 30) zf28 HT_ rfl rfl (by kernel_rfl) (fun _ _ _ h => h) (Or.inl ⟨by rfl, ?_⟩) ?_ ?_; rotate_left; intro w'; go_simp; with_reducible rfl; rotate_left; simp only [Cap.pz]; rfl
      refine Cap.pu (v := ?_) (a' := ?_) 8 (some 31) zf29 HT_ rfl rfl (by kernel_rfl) (fun _ _ _ h => h) (Or.inl ⟨by rfl, ?_⟩) ?_ ?_; rotate_left; intro w'; go_simp; with_reducible rfl; rotate_left; simp only [Cap.pz]; rfl
      refine Cap.pu (v := ?_) (a' := ?_) 9 (some 32) zf30 HT_ rfl rfl (by kernel_rfl) (fun _ _ _ h => h) (Or.inl ⟨by rfl, ?_⟩) ?_ ?_; rotate_left; intro w'; go_simp; with_reducible rfl; rotate_left; simp only [Cap.pz]; rfl
      refine Cap.pu (v := ?_) (a' := ?_) 10 (some 33) zf31 HT_ rfl rfl (by kernel_rfl) (fun _ _ _ h => h) (Or.inl ⟨by rfl, ?_⟩) ?_ ?_; rotate_left; intro w'; go_simp; with_reducible rfl; rotate_left; simp only [Cap.pz]; rfl
      refine Cap.pu (v := ?_) (a' := ?_) 11 (some 34) zf32 HT_ rfl rfl (by kernel_rfl) (fun _ _ _ h => h) (Or.inl ⟨by rfl, ?_⟩) ?_ ?_; rotate_left; intro w'; go_simp; with_reducible rfl; rotate_left; simp only [Cap.pz]; rfl
      refine take_ (i := 12) (N := some 35) (v := ?_) (a' := ?_) zf33 rfl rfl (take_ofW HT_.out HW_.out (by kernel_rfl)) (fun _ _ _ h => h) (Or.inl ⟨by rfl, ?_⟩) hHeld ?_ ?_; rotate_left; rintro w' ⟨s0, s1, s2, s3, s4, s5, s6, s7, s8⟩; go_simp; with_reducible rfl; rotate_left; simp only [Cap.pz]; rfl
      refine Cap.pu (v := ?_) (a' := ?_) 13 (some 36) zf34 HT_ rfl rfl (by kernel_rfl) (fun _ _ _ h => h) (Or.inl ⟨by rfl, ?_⟩) ?_ ?_; rotate_left; intro w'; go_simp; with_reducible rfl; rotate_left; simp only [Cap.pz]; rfl
      refine Cap.pu (v := ?_) (a' := ?_) 14 (some 37) zf35 HT_ rfl rfl (by kernel_rfl) (fun _ _ _ h => h) (Or.inl ⟨by rfl, ?_⟩) ?_ ?_; rotate_left; intro w'; go_simp; with_reducible rfl; rotate_left; simp only [Cap.pz]; rfl
      refine Cap.pu (v := ?_) (a' := ?_) 15 (some 38) zf36 HT_ rfl rfl (by kernel_rfl) (fun _ _ _ h => h) (Or.inl ⟨by rfl, ?_⟩) ?_ ?_; rotate_left; intro w'; go_simp; with_reducible rfl; rotate_left; simp only [Cap.pz]; rfl
      refine Cap.pu (v := ?_) (a' := ?_) 16 (some 39) zf37 HT_ rfl rfl (by kernel_rfl) (fun _ _ _ h => h) (Or.inl ⟨by rfl, ?_⟩) ?_ ?_; rotate_left; intro w'; go_simp; with_reducible rfl; rotate_left; simp only [Cap.pz]; rfl
      refine take_ (i := 17) (N := some 40) (v := ?_) (a' := ?_) zf38 rfl rfl (take_ofW HT_.out HW_.out (by kernel_rfl)) (fun _ _ _ h => h) (Or.inl ⟨by rfl, ?_⟩) hHeld ?_ ?_; rotate_left; rintro w' ⟨s0, s1, s2, s3, s4, s5, s6, s7, s8⟩; go_simp; with_reducible rfl; rotate_left; simp only [Cap.pz]; rfl
      refine Cap.pu (v := ?_) (a' := ?_) 18 (some 41) zf39 HT_ rfl rfl (by kernel_rfl) (fun _ _ _ h => h) (Or.inl ⟨by rfl, ?_⟩) ?_ ?_; rotate_left; intro w'; go_simp; with_reducible rfl; rotate_left; simp only [Cap.pz]; rfl
      refine Cap.pu (v := undef) (a' := ?_) 19 (some 42) zf40 HT_ rfl rfl (by kernel_rfl) (fun _ _ _ h => h) (Or.inr ⟨by rfl, rfl⟩) ?_ ?_; rotate_left; simp only [Cap.pz]; rfl
      refine Cap.pu (v := undef) (a' := ?_) 20 (some 43) zf41 HT_ rfl rfl (by kernel_rfl) (fun _ _ _ h => h) (Or.inr ⟨by rfl, rfl⟩) ?_ ?_; rotate_left; simp only [Cap.pz]; rfl
      refine Cap.pu (v := undef) (a' := ?_) 21 (some 44) zf42 HT_ rfl rfl (by kernel_rfl) (fun _ _ _ h => h) (Or.inr ⟨by rfl, rfl⟩) ?_ ?_; rotate_left; simp only [Cap.pz]; rfl
      refine Cap.pu (v := ?_) (a' := ?_) 22 (some 45) zf43 HT_ rfl rfl (by kernel_rfl) (fun _ _ _ h => h) (Or.inl ⟨by rfl, ?_⟩) ?_ ?_; rotate_left; intro w'; go_simp; with_reducible rfl; rotate_left; simp only [Cap.pz]; rfl
      refine Cap.pu (v := ?_) (a' := ?_) 23 (some 46) zf44 HT_ rfl rfl (by kernel_rfl) (fun _ _ _ h => h) (Or.inl ⟨by rfl, ?_⟩) ?_ ?_; rotate_left; intro w'; go_simp; with_reducible rfl; rotate_left; simp only [Cap.pz]; rfl
      refine Cap.pu (v := ?_) (a' := ?_) 24 (some 47) zf45 HT_ rfl rfl (by kernel_rfl) (fun _ _ _ h => h) (Or.inl ⟨by rfl, ?_⟩) ?_ ?_; rotate_left; intro w'; go_simp; with_reducible rfl; rotate_left; simp only [Cap.pz]; rfl
      refine Cap.pu (v := ?_) (a' := ?_) 25 (some 48) zf46 HT_ rfl rfl (by kernel_rfl) (fun _ _ _ h => h) (Or.inl ⟨by rfl, ?_⟩) ?_ ?_; rotate_left; intro w'; go_simp; with_reducible rfl; rotate_left; simp only [Cap.pz]; rfl
      refine take_ (i := 26) (N := some 49) (v := ?_) (a' := ?_) zf47 rfl rfl (take_ofW HT_.out HW_.out (by kernel_rfl)) (fun _ _ _ h => h) (Or.inl ⟨by rfl, ?_⟩) hHeld ?_ ?_; rotate_left; rintro w' ⟨s0, s1, s2, s3, s4, s5, s6, s7, s8⟩; go_simp; with_reducible rfl; rotate_left; simp only [Cap.pz]; rfl
      refine Cap.pu (v := ?_) (a' := ?_) 27 (some 50) zf48 HT_ rfl rfl (by kernel_rfl) (fun _ _ _ h => h) (Or.inl ⟨by rfl, ?_⟩) ?_ ?_; rotate_left; intro w'; go_simp; with_reducible rfl; rotate_left; simp only [Cap.pz]; rfl
      refine Cap.pu (v := ?_) (a' := ?_) 28 (some 51) zf49 HT_ rfl rfl (by kernel_rfl) (fun _ _ _ h => h) (Or.inl ⟨by rfl, ?_⟩) ?_ ?_; rotate_left; intro w'; go_simp; with_reducible rfl; rotate_left; simp only [Cap.pz]; rfl
      refine Cap.pu (v := ?_) (a' := ?_) 29 (some 52) zf50 HT_ rfl rfl (by kernel_rfl) (fun _ _ _ h => h) (Or.inl ⟨by rfl, ?_⟩) ?_ ?_; rotate_left; intro w'; go_simp; with_reducible rfl; rotate_left; simp only [Cap.pz]; rfl
      refine Cap.pu (v := ?_) (a' := ?_) 30 (some 53) zf51 HT_ rfl rfl (by kernel_rfl) (fun _ _ _ h => h) (Or.inl ⟨by rfl, ?_⟩) ?_ ?_; rotate_left; intro w'; go_simp; with_reducible rfl; rotate_left; simp only [Cap.pz]; rfl
      refine Cap.pu (v := ?_) (a' := ?_) 31 (some 54) zf52 HT_ rfl rfl (by kernel_rfl) (fun _ _ _ h => h) (Or.inl ⟨by rfl, ?_⟩) ?_ ?_; rotate_left; intro w'; go_simp; with_reducible rfl; rotate_left; simp only [Cap.pz]; rfl
      refine Cap.pu (v := ?_) (a' := ?_) 32 (some 55) zf53 HT_ rfl rfl (by kernel_rfl) (fun _ _ _ h => h) (Or.inl ⟨by rfl, ?_⟩) ?_ ?_; rotate_left; intro w'; go_simp; with_reducible rfl; rotate_left; simp only [Cap.pz]; rfl
      refine Cap.pu (v := ?_) (a' := ?_) 33 (some 56) zf54 HT_ rfl rfl (by kernel_rfl) (fun _ _ _ h => h) (Or.inl ⟨by rfl, ?_⟩) ?_ ?_; rotate_left; intro w'; go_simp; with_reducible rfl; rotate_left; simp only [Cap.pz]; rfl
      refine Cap.pu (v := ?_) (a' := ?_) 34 (some 57) zf55 HT_ rfl rfl (by kernel_rfl) (fun _ _ _ h => h) (Or.inl ⟨by rfl, ?_⟩) ?_ ?_; rotate_left; intro w'; go_simp; with_reducible rfl; rotate_left; simp only [Cap.pz]; rfl
      refine Cap.pu (v := ?_) (a' := ?_) 36 (some 59) zf72 HT_ rfl rfl (by kernel_rfl) (fun _ _ _ h => h) (Or.inl ⟨by rfl, ?_⟩) ?_ ?_; rotate_left; intro w'; go_simp; with_reducible rfl; rotate_left; simp only [Cap.pz]; rfl
      refine Cap.pu (v := ?_) (a' := ?_) 37 (some 60) zf73 HT_ rfl rfl (by kernel_rfl) (fun _ _ _ h => h) (Or.inl ⟨by rfl, ?_⟩) ?_ ?_; rotate_left; intro w'; go_simp; with_reducible rfl; rotate_left; simp only [Cap.pz]; rfl
      refine take_ (i := 35) (N := some 58) (v := ?_) (a' := ?_) zf58 rfl rfl (take_ofW HT_.out HW_.out (by kernel_rfl)) (fun _ _ _ h => h) (Or.inl ⟨by rfl, ?_⟩) hHeld ?_ ?_; rotate_left; rintro w' ⟨s0, s1, s2, s3, s4, s5, s6, s7, s8⟩; go_simp; with_reducible rfl; rotate_left; simp only [Cap.pz]; rfl
      refine Cap.pu (v := ?_) (a' := ?_) 38 (some 61) zf59 HT_ rfl rfl (by kernel_rfl) (fun _ _ _ h => h) (Or.inl ⟨by rfl, ?_⟩) ?_ ?_; rotate_left; intro w'; go_simp; with_reducible rfl; rotate_left; simp only [Cap.pz]; rfl
      refine take_ (i := 39) (N := some 62) (v := ?_) (a' := ?_) zf60 rfl rfl (take_ofW HT_.out HW_.out (by kernel_rfl)) (fun _ _ _ h => h) (Or.inl ⟨by rfl, ?_⟩) hHeld ?_ ?_; rotate_left; rintro w' ⟨s0, s1, s2, s3, s4, s5, s6, s7, s8⟩; go_simp; with_reducible rfl; rotate_left; simp only [Cap.pz]; rfl
      refine take_ (i := 40) (N := some 63) (v := ?_) (a' := ?_) zf61 rfl rfl (take_ofW HT_.out HW_.out (by kernel_rfl)) (fun _ _ _ h => h) (Or.inl ⟨by rfl, ?_⟩) hHeld ?_ ?_; rotate_left; rintro w' ⟨s0, s1, s2, s3, s4, s5, s6, s7, s8⟩; go_simp; with_reducible rfl; rotate_left; simp only [Cap.pz]; rfl
      refine one_ (i := 41) (N := some 64) zf62 rfl rfl (one_of HT_.out (by kernel_rfl)) (by decide) (fun K hK => ?_)
      refine goes_ Try.func23 (by kernel_rfl) rfl #[.agg #[.string ((rd_T43 l0_0 (ji55)).f0), .int .i64 ((rd_T43 l0_0 (ji55)).f1), .bool ((rd_T43 l0_0 (ji55)).f2), .string ((rd_T43 l0_0 (ji55)).f3)], .agg #[.string ((rd_T43 l0_0 x4_1).f0), .int .i64 ((rd_T43 l0_0 x4_1).f1), .bool false, .string ((rd_T43 l0_0 x4_1).f3)]] (by rfl) rfl rfl (by (try simp only [List.map_toArray, List.map_cons, List.map_nil]); first | done | (simp only [hji55]; rfl) | rfl | (simp only [List.length_drop, List.length_take]; rfl)) ?_
      with_reducible refine (spec_l08Less.calls ((rd_T43 l0_0 (ji55)).f0) ((rd_T43 l0_0 (ji55)).f1) ((rd_T43 l0_0 (ji55)).f2) ((rd_T43 l0_0 (ji55)).f3) ((rd_T43 l0_0 x4_1).f0) ((rd_T43 l0_0 x4_1).f1) false ((rd_T43 l0_0 x4_1).f3) false _ A58.out).mono ?_
      rintro e w67 ⟨rfl, hb⟩
      refine ⟨_, rfl, ?_⟩
      have n0_ := Aside0.mk (Kd.R_below (by first | exact Grow.rg HO_3.out | exact HO_3.out) hb)
      have n1_ := Aside0.mk (blk_below (g := gb111) (o := .cells #[.slice (some ad115) l0_0.length c0_0] 26 (0, 0)) (by first | exact Grow.bk BK111.out | exact BK111.out) hb)
      have n2_ := Aside0.mk (blk_below (g := gb116) (o := .cells #[.string ((rd_T43 l0_0 x4_1).f0), .int .i64 ((rd_T43 l0_0 x4_1).f1), .bool false, .string ((rd_T43 l0_0 x4_1).f3)] 43 (0, 0)) (by first | exact Grow.bk BK116.out | exact BK116.out) hb)
      have n3_ := Aside0.mk (below_step (by repeat (first | (with_reducible first | exact HB.out | apply below_alloc | apply pw_below_drewN | apply below_drew1 | refine below_set ?_ GE111.out | refine below_set ?_ GE116.out) | exact HB.out)) hb)
      clear HO_3
      clear BK111
      clear BK116
      clear HB
      have HO_3 := n0_
      have BK111 := n1_
      have BK116 := n2_
      have HB := n3_
      clear n0_ n1_ n2_ n3_
      (try clear hb)
      (try clear hb2)
      (try clear hk)
      (try clear hi)
      refine hK.out _ _ ⟨(blk_cell BK116.out 0).trans rfl, (blk_cell BK116.out 1).trans rfl, (blk_cell BK116.out 2).trans rfl, (blk_cell BK116.out 3).trans rfl, (blk_cell BK111.out 0).trans rfl, ((HB.out.cell (World.block_lt_of_cell? w _ hw121_0)).trans hw121_0), ((HB.out.cell (World.block_lt_of_cell? w _ hw121_1)).trans hw121_1), ((HB.out.cell (World.block_lt_of_cell? w _ hw121_2)).trans hw121_2), ((HB.out.cell (World.block_lt_of_cell? w _ hw121_3)).trans hw121_3)⟩ (fun hHeld => ?_)
      clear hK K
      refine norm_ (a' := ?_) ?_ ?_; rotate_left; show Act.put _ (some 64) _ = _; simp only [Cap.pz]; rfl
      refine Cap.pu (v := ?_) (a' := ?_) 42 (some 65) zf63 HT_ rfl rfl (by kernel_rfl) (fun _ _ _ h => h) (Or.inl ⟨by rfl, ?_⟩) ?_ ?_; rotate_left; intro w'; go_simp; with_reducible rfl; rotate_left; simp only [Cap.pz]; rfl
      refine Cap.pu (v := ?_) (a' := ?_) 43 (some 66) zf64 HT_ rfl rfl (by kernel_rfl) (fun _ _ _ h => h) (Or.inl ⟨by rfl, ?_⟩) ?_ ?_; rotate_left; intro w'; go_simp; with_reducible rfl; rotate_left; simp only [Cap.pz]; rfl
      refine Cap.pu (v := ?_) (a' := ?_) 44 (some 67) zf65 HT_ rfl rfl (by kernel_rfl) (fun _ _ _ h => h) (Or.inl ⟨by rfl, ?_⟩) ?_ ?_; rotate_left; intro w'; go_simp; with_reducible rfl; rotate_left; simp only [Cap.pz]; rfl
      refine Cap.pu (v := ?_) (a' := ?_) 45 (some 68) zf66 HT_ rfl rfl (by kernel_rfl) (fun _ _ _ h => h) (Or.inl ⟨by rfl, ?_⟩) ?_ ?_; rotate_left; intro w'; go_simp; with_reducible rfl; rotate_left; simp only [Cap.pz]; rfl
      refine Cap.pu (v := undef) (a' := ?_) 46 (some 69) zf67 HT_ rfl rfl (by kernel_rfl) (fun _ _ _ h => h) (Or.inr ⟨by rfl, rfl⟩) ?_ ?_; rotate_left; simp only [Cap.pz]; rfl
      refine Cap.pu (v := undef) (a' := ?_) 47 (some 70) zf68 HT_ rfl rfl (by kernel_rfl) (fun _ _ _ h => h) (Or.inr ⟨by rfl, rfl⟩) ?_ ?_; rotate_left; simp only [Cap.pz]; rfl
      refine Cap.pu (v := undef) (a' := ?_) 48 (some 71) zf69 HT_ rfl rfl (by kernel_rfl) (fun _ _ _ h => h) (Or.inr ⟨by rfl, rfl⟩) ?_ ?_; rotate_left; simp only [Cap.pz]; rfl
      refine Cap.pu (v := undef) (a' := ?_) 49 (some 72) zf70 HT_ rfl rfl (by kernel_rfl) (fun _ _ _ h => h) (Or.inr ⟨by rfl, rfl⟩) ?_ ?_; rotate_left; simp only [Cap.pz]; rfl
      refine Cap.pu (v := ?_) (a' := ?_) 50 (some 73) zf71 HT_ rfl rfl (by kernel_rfl) (fun _ _ _ h => h) (Or.inl ⟨by rfl, ?_⟩) ?_ ?_; rotate_left; intro w'; go_simp; with_reducible rfl; rotate_left; simp only [Cap.pz]; rfl
      refine done_ (done_of HT_.out (by kernel_rfl)) ?_
      try go_wp2
      go_meet
      case rel => (try rw [← Nbq25.out]); exact ⟨_, (true), (by first | rfl | (simp; done) | (simp [*]; done)), H', ⟨by have := HK1.out; first | omega | exact Nat.le_refl _⟩, ⟨by first | exact Grow.rg HO_3.out | exact HO_3.out⟩, ⟨by first | exact Grow.bk BK111.out | exact BK111.out⟩, ⟨by first | exact Grow.bk BK116.out | exact BK116.out⟩, ⟨by repeat (first | (with_reducible first | exact HB.out | apply below_alloc | apply pw_below_drewN | apply below_drew1 | refine below_set ?_ GE111.out | refine below_set ?_ GE116.out) | exact HB.out)⟩⟩
     subst c59
     have H1 : ((spec_l01InInts.f k1 x3_1 ((rd_T43 l0_0 x4_1).f1)).bind fun t123 => (spec_RunFault.j1 k1 x3_1 x4_1 t123 l0_0 ((rd_T43 l0_0 x4_1).f0) ((rd_T43 l0_0 x4_1).f1) false ((rd_T43 l0_0 x4_1).f3))) = some r := by rw [if_pos rfl] at H; exact H
     clear H
     have H := H1
     clear H1
     replace H := Option.bind_eq_some_iff.mp H
     obtain ⟨t123, A600, H⟩ := H
     replace H : (spec_RunFault.j1 k1 x3_1 x4_1 t123 l0_0 ((rd_T43 l0_0 x4_1).f0) ((rd_T43 l0_0 x4_1).f1) false ((rd_T43 l0_0 x4_1).f3)) = some r := H
     have A60 := Aside0.mk A600
     clear A600
     have H' := Aside0.mk H
     clear H
     try go_wp2
     have n0_ : Aside0 (Kd.R (Kd.int .i64) 2 ((((w13.setCell ⟨gb116, 0, none⟩ (.string ((rd_T43 l0_0 x4_1).f0))).setCell ⟨gb116, 1, none⟩ (.int .i64 ((rd_T43 l0_0 x4_1).f1))).setCell ⟨gb116, 2, none⟩ (.bool (false))).setCell ⟨gb116, 3, none⟩ (.string ((rd_T43 l0_0 x4_1).f3))) w.heap.size (fun _ => True) u3 x3_1) := ⟨by (with_reducible repeat (first | apply Kd.R_alloc | apply Kd.R_drewN | apply Kd.R_drew)); exact Kd.R_mono (Kd.R_far (p := ⟨gb116, 3, none⟩) (Kd.R_far (p := ⟨gb116, 2, none⟩) (Kd.R_far (p := ⟨gb116, 1, none⟩) (Kd.R_far (p := ⟨gb116, 0, none⟩) (Kd.R_types HO_3.out BK116.out (by decide)) (fun _ hk => hk.2) (.string ((rd_T43 l0_0 x4_1).f0))) (fun _ hk => hk.2) (.int .i64 ((rd_T43 l0_0 x4_1).f1))) (fun _ hk => hk.2) (.bool (false))) (fun _ hk => hk.2) (.string ((rd_T43 l0_0 x4_1).f3))) (fun _ hk => trivial)⟩
     have n1_ : Aside0 (((((w13.setCell ⟨gb116, 0, none⟩ (.string ((rd_T43 l0_0 x4_1).f0))).setCell ⟨gb116, 1, none⟩ (.int .i64 ((rd_T43 l0_0 x4_1).f1))).setCell ⟨gb116, 2, none⟩ (.bool (false))).setCell ⟨gb116, 3, none⟩ (.string ((rd_T43 l0_0 x4_1).f3))).heap[gb111]? = some (.cells #[.slice (some ad115) l0_0.length c0_0] 26 (0, 0))) := ⟨by (with_reducible repeat (first | refine blk_drewN ?_ _ | refine blk_drew ?_ | refine blk_alloc ?_ _)); refine blk_far ?_ NB111_116.out _; (with_reducible repeat (first | refine blk_drewN ?_ _ | refine blk_drew ?_ | refine blk_alloc ?_ _)); refine blk_far ?_ NB111_116.out _; (with_reducible repeat (first | refine blk_drewN ?_ _ | refine blk_drew ?_ | refine blk_alloc ?_ _)); refine blk_far ?_ NB111_116.out _; (with_reducible repeat (first | refine blk_drewN ?_ _ | refine blk_drew ?_ | refine blk_alloc ?_ _)); refine blk_far ?_ NB111_116.out _; (with_reducible repeat (first | refine blk_drewN ?_ _ | refine blk_drew ?_ | refine blk_alloc ?_ _)); exact BK111.out⟩
     have n2_ : Aside0 (((((w13.setCell ⟨gb116, 0, none⟩ (.string ((rd_T43 l0_0 x4_1).f0))).setCell ⟨gb116, 1, none⟩ (.int .i64 ((rd_T43 l0_0 x4_1).f1))).setCell ⟨gb116, 2, none⟩ (.bool (false))).setCell ⟨gb116, 3, none⟩ (.string ((rd_T43 l0_0 x4_1).f3))).heap[gb116]? = some (.cells #[.string ((rd_T43 l0_0 x4_1).f0), .int .i64 ((rd_T43 l0_0 x4_1).f1), .bool false, .string ((rd_T43 l0_0 x4_1).f3)] 43 (0, 0))) := ⟨by (with_reducible repeat (first | refine blk_drewN ?_ _ | refine blk_drew ?_ | refine blk_alloc ?_ _)); refine blk_put (cs := #[.string ((rd_T43 l0_0 x4_1).f0), .int .i64 ((rd_T43 l0_0 x4_1).f1), .bool (false), .string (⟨#[]⟩ : ByteArray)]) ?_ 3 _ rfl; (with_reducible repeat (first | refine blk_drewN ?_ _ | refine blk_drew ?_ | refine blk_alloc ?_ _)); refine blk_put (cs := #[.string ((rd_T43 l0_0 x4_1).f0), .int .i64 ((rd_T43 l0_0 x4_1).f1), .bool false, .string (⟨#[]⟩ : ByteArray)]) ?_ 2 _ rfl; (with_reducible repeat (first | refine blk_drewN ?_ _ | refine blk_drew ?_ | refine blk_alloc ?_ _)); refine blk_put (cs := #[.string ((rd_T43 l0_0 x4_1).f0), .int .i64 0, .bool false, .string (⟨#[]⟩ : ByteArray)]) ?_ 1 _ rfl; (with_reducible repeat (first | refine blk_drewN ?_ _ | refine blk_drew ?_ | refine blk_alloc ?_ _)); refine blk_put (cs := #[.string (⟨#[]⟩ : ByteArray), .int .i64 0, .bool false, .string (⟨#[]⟩ : ByteArray)]) ?_ 0 _ rfl; (with_reducible repeat (first | refine blk_drewN ?_ _ | refine blk_drew ?_ | refine blk_alloc ?_ _)); exact BK116.out⟩
     have n3_ : Aside0 (Below w.heap.size w ((((w13.setCell ⟨gb116, 0, none⟩ (.string ((rd_T43 l0_0 x4_1).f0))).setCell ⟨gb116, 1, none⟩ (.int .i64 ((rd_T43 l0_0 x4_1).f1))).setCell ⟨gb116, 2, none⟩ (.bool (false))).setCell ⟨gb116, 3, none⟩ (.string ((rd_T43 l0_0 x4_1).f3)))) := ⟨by repeat (first | (with_reducible first | exact HB.out | apply below_alloc | apply pw_below_drewN | apply below_drew1 | refine below_set ?_ GE111.out | refine below_set ?_ GE116.out) | exact HB.out)⟩
     (try clear HO_3)
     (try clear BK111)
     (try clear BK116)
     (try clear HB)
     generalize ((((w13.setCell ⟨gb116, 0, none⟩ (.string ((rd_T43 l0_0 x4_1).f0))).setCell ⟨gb116, 1, none⟩ (.int .i64 ((rd_T43 l0_0 x4_1).f1))).setCell ⟨gb116, 2, none⟩ (.bool (false))).setCell ⟨gb116, 3, none⟩ (.string ((rd_T43 l0_0 x4_1).f3))) = w61 at n0_ n1_ n2_ n3_ ⊢
     have HO_3 := n0_
     have BK111 := n1_
     have BK116 := n2_
     have HB := n3_
     clear n0_ n1_ n2_ n3_
     have n0_ := Aside0.mk (Kd.R_drew HO_3.out)
     have n1_ := Aside0.mk (blk_drew BK111.out)
     have n2_ := Aside0.mk (blk_drew BK116.out)
     have n3_ := Aside0.mk (below_drew1 HB.out)
     clear HO_3
     clear BK111
     clear BK116
     clear HB
     have HO_3 := n0_
     have BK111 := n1_
     have BK116 := n2_
     have HB := n3_
     clear n0_ n1_ n2_ n3_
     have p121 : 0 ≤ ((ji55) : Int) := of_decide_eq_true (by first | (with_reducible assumption) | assumption)
     have q121 : (ji55) < (l0_0.length : Int) := of_decide_eq_true (by first | (with_reducible assumption) | assumption)
     obtain ⟨ad121, e121, hx121_0, hx121_1, hx121_2, hx121_3⟩ := at_T43 HR0_0.out (ji55) p121 q121
     have hw121_3 := hx121_3
     have hw121_2 := hx121_2
     have hw121_1 := hx121_1
     have hw121_0 := hx121_0
     (try rw [← Nbq25.out] at hx121_2)
     obtain rfl : ad115 = ad121 := (by injection e121)
     replace hx121_0 := Grow.bc HB.out hx121_0
     replace hx121_1 := Grow.bc HB.out hx121_1
     replace hx121_2 := Grow.bc HB.out hx121_2
     replace hx121_3 := Grow.bc HB.out hx121_3
     replace p121 := eq_true p121
     replace q121 := eq_true q121
     refine start_ (n := 51) (S := fun w' => w'.cell? ⟨gb116, 0, none⟩ = some (.string ((rd_T43 l0_0 x4_1).f0)) ∧ w'.cell? ⟨gb116, 1, none⟩ = some (.int .i64 ((rd_T43 l0_0 x4_1).f1)) ∧ w'.cell? ⟨gb116, 2, none⟩ = some (.bool false) ∧ w'.cell? ⟨gb116, 3, none⟩ = some (.string ((rd_T43 l0_0 x4_1).f3)) ∧ w'.cell? ⟨gb111, 0, none⟩ = some (.slice (some ad115) l0_0.length c0_0) ∧ w'.cell? (ad115.add (((ji55)).toNat * 4)) = some (.string ((rd_T43 l0_0 (ji55)).f0)) ∧ w'.cell? ⟨(ad115.add (((ji55)).toNat * 4)).block, (ad115.add (((ji55)).toNat * 4)).off + 1, none⟩ = some (.int .i64 ((rd_T43 l0_0 (ji55)).f1)) ∧ w'.cell? ⟨(ad115.add (((ji55)).toNat * 4)).block, (ad115.add (((ji55)).toNat * 4)).off + 2, none⟩ = some (.bool ((rd_T43 l0_0 (ji55)).f2)) ∧ w'.cell? ⟨(ad115.add (((ji55)).toNat * 4)).block, (ad115.add (((ji55)).toNat * 4)).off + 3, none⟩ = some (.string ((rd_T43 l0_0 (ji55)).f3))) (ds := []) zf20 (by kernel_rfl) rfl rfl ⟨(blk_cell BK116.out 0).trans rfl, (blk_cell BK116.out 1).trans rfl, (blk_cell BK116.out 2).trans rfl, (blk_cell BK116.out 3).trans rfl, (blk_cell BK111.out 0).trans rfl, ((HB.out.cell (World.block_lt_of_cell? w _ hw121_0)).trans hw121_0), ((HB.out.cell (World.block_lt_of_cell? w _ hw121_1)).trans hw121_1), ((HB.out.cell (World.block_lt_of_cell? w _ hw121_2)).trans hw121_2), ((HB.out.cell (World.block_lt_of_cell? w _ hw121_3)).trans hw121_3)⟩ (fun hHeld => ?_); refine with_tabW spec_RunFault.tab8 spec_RunFault.bits8 (fun HT_ HW_ => ?_)
     generalize w61.drew = w62 at HO_3 BK111 BK116 HB hx121_0 hx121_1 hx121_2 hx121_3 hHeld ⊢
     refine Cap.pu (v := ?_) (a' := ?_) 0 (some 23) zf21 HT_ rfl rfl (by kernel_rfl) (fun _ _ _ h => h) (Or.inl ⟨by rfl, ?_⟩) ?_ ?_; rotate_left; intro w'; go_simp; with_reducible rfl; rotate_left; simp only [Cap.pz]; rfl
     refine take_ (i := 1) (N := some 24) (v := ?_) (a' := ?_) zf22 rfl rfl (take_ofW HT_.out HW_.out (by kernel_rfl)) (fun _ _ _ h => h) (Or.inl ⟨by rfl, ?_⟩) hHeld ?_ ?_; rotate_left; rintro w' ⟨s0, s1, s2, s3, s4, s5, s6, s7, s8⟩; go_simp; with_reducible rfl; rotate_left; simp only [Cap.pz]; rfl
     refine Cap.pu (v := ?_) (a' := ?_) 2 (some 25) zf23 HT_ rfl rfl (by kernel_rfl) (fun _ _ _ h => h) (Or.inl ⟨by rfl, ?_⟩) ?_ ?_; rotate_left; intro w'; go_simp; with_reducible rfl; rotate_left; simp only [Cap.pz]; rfl
     refine Cap.pu (v := ?_) (a' := ?_) 3 (some 26) zf24 HT_ rfl rfl (by kernel_rfl) (fun _ _ _ h => h) (Or.inl ⟨by rfl, ?_⟩) ?_ ?_; rotate_left; intro w'; go_simp; with_reducible rfl; rotate_left; simp only [Cap.pz]; rfl
     refine Cap.pu (v := ?_) (a' := ?_) 4 (some 27) zf25 HT_ rfl rfl (by kernel_rfl) (fun _ _ _ h => h) (Or.inl ⟨by rfl, ?_⟩) ?_ ?_; rotate_left; intro w'; go_simp; with_reducible rfl; rotate_left; simp only [Cap.pz]; rfl
     refine Cap.pu (v := ?_) (a' := ?_) 5 (some 28) zf26 HT_ rfl rfl (by kernel_rfl) (fun _ _ _ h => h) (Or.inl ⟨by rfl, ?_⟩) ?_ ?_; rotate_left; intro w'; go_simp; with_reducible rfl; rotate_left; simp only [Cap.pz]; rfl
     refine take_ (i := 6) (N := some 29) (v := ?_) (a' := ?_) zf27 rfl rfl (take_ofW HT_.out HW_.out (by kernel_rfl)) (fun _ _ _ h => h) (Or.inl ⟨by rfl, ?_⟩) hHeld ?_ ?_; rotate_left; rintro w' ⟨s0, s1, s2, s3, s4, s5, s6, s7, s8⟩; go_simp; with_reducible rfl; rotate_left; simp only [Cap.pz]; rfl
     refine Cap.pu (v := ?_) (a' := ?_) 7 (some 30) zf28 HT_ rfl rfl (by kernel_rfl) (fun _ _ _ h => h) (Or.inl ⟨by rfl, ?_⟩) ?_ ?_; rotate_left; intro w'; go_simp; with_reducible rfl; rotate_left; simp only [Cap.pz]; rfl
     refine Cap.pu (v := ?_) (a' := ?_) 8 (some 31) zf29 HT_ rfl rfl (by kernel_rfl) (fun _ _ _ h => h) (Or.inl ⟨by rfl, ?_⟩) ?_ ?_; rotate_left; intro w'; go_simp; with_reducible rfl; rotate_left; simp only [Cap.pz]; rfl
     refine Cap.pu (v := ?_) (a' := ?_) 9 (some 32) zf30 HT_ rfl rfl (by kernel_rfl) (fun _ _ _ h => h) (Or.inl ⟨by rfl, ?_⟩) ?_ ?_; rotate_left; intro w'; go_simp; with_reducible rfl; rotate_left; simp only [Cap.pz]; rfl
     refine Cap.pu (v := ?_) (a' := ?_) 10 (some 33) zf31 HT_ rfl rfl (by kernel_rfl) (fun _ _ _ h => h) (Or.inl ⟨by rfl, ?_⟩) ?_ ?_; rotate_left; intro w'; go_simp; with_reducible rfl; rotate_left; simp only [Cap.pz]; rfl
     refine Cap.pu (v := ?_) (a' := ?_) 11 (some 34) zf32 HT_ rfl rfl (by kernel_rfl) (fun _ _ _ h => h) (Or.inl ⟨by rfl, ?_⟩) ?_ ?_; rotate_left; intro w'; go_simp; with_reducible rfl; rotate_left; simp only [Cap.pz]; rfl
     refine take_ (i := 12) (N := some 35) (v := ?_) (a' := ?_) zf33 rfl rfl (take_ofW HT_.out HW_.out (by kernel_rfl)) (fun _ _ _ h => h) (Or.inl ⟨by rfl, ?_⟩) hHeld ?_ ?_; rotate_left; rintro w' ⟨s0, s1, s2, s3, s4, s5, s6, s7, s8⟩; go_simp; with_reducible rfl; rotate_left; simp only [Cap.pz]; rfl
     refine Cap.pu (v := ?_) (a' := ?_) 13 (some 36) zf34 HT_ rfl rfl (by kernel_rfl) (fun _ _ _ h => h) (Or.inl ⟨by rfl, ?_⟩) ?_ ?_; rotate_left; intro w'; go_simp; with_reducible rfl; rotate_left; simp only [Cap.pz]; rfl
     refine Cap.pu (v := ?_) (a' := ?_) 14 (some 37) zf35 HT_ rfl rfl (by kernel_rfl) (fun _ _ _ h => h) (Or.inl ⟨by rfl, ?_⟩) ?_ ?_; rotate_left; intro w'; go_simp; with_reducible rfl; rotate_left; simp only [Cap.pz]; rfl
     refine Cap.pu (v := ?_) (a' := ?_) 15 (some 38) zf36 HT_ rfl rfl (by kernel_rfl) (fun _ _ _ h => h) (Or.inl ⟨by rfl, ?_⟩) ?_ ?_; rotate_left; intro w'; go_simp; with_reducible rfl; rotate_left; simp only [Cap.pz]; rfl
     refine Cap.pu (v := ?_) (a' := ?_) 16 (some 39) zf37 HT_ rfl rfl (by kernel_rfl) (fun _ _ _ h => h) (Or.inl ⟨by rfl, ?_⟩) ?_ ?_; rotate_left; intro w'; go_simp; with_reducible rfl; rotate_left; simp only [Cap.pz]; rfl
     refine take_ (i := 17) (N := some 40) (v := ?_) (a' := ?_) zf38 rfl rfl (take_ofW HT_.out HW_.out (by kernel_rfl)) (fun _ _ _ h => h) (Or.inl ⟨by rfl, ?_⟩) hHeld ?_ ?_; rotate_left; rintro w' ⟨s0, s1, s2, s3, s4, s5, s6, s7, s8⟩; go_simp; with_reducible rfl; rotate_left; simp only [Cap.pz]; rfl
     refine Cap.pu (v := ?_) (a' := ?_) 18 (some 41) zf39 HT_ rfl rfl (by kernel_rfl) (fun _ _ _ h => h) (Or.inl ⟨by rfl, ?_⟩) ?_ ?_; rotate_left; intro w'; go_simp; with_reducible rfl; rotate_left; simp only [Cap.pz]; rfl
     refine Cap.pu (v := undef) (a' := ?_) 19 (some 42) zf40 HT_ rfl rfl (by kernel_rfl) (fun _ _ _ h => h) (Or.inr ⟨by rfl, rfl⟩) ?_ ?_; rotate_left; simp only [Cap.pz]; rfl
     refine Cap.pu (v := undef) (a' := ?_) 20 (some 43) zf41 HT_ rfl rfl (by kernel_rfl) (fun _ _ _ h => h) (Or.inr ⟨by rfl, rfl⟩) ?_ ?_; rotate_left; simp only [Cap.pz]; rfl
     refine Cap.pu (v := undef) (a' := ?_) 21 (some 44) zf42 HT_ rfl rfl (by kernel_rfl) (fun _ _ _ h => h) (Or.inr ⟨by rfl, rfl⟩) ?_ ?_; rotate_left; simp only [Cap.pz]; rfl
     refine Cap.pu (v := ?_) (a' := ?_) 22 (some 45) zf43 HT_ rfl rfl (by kernel_rfl) (fun _ _ _ h => h) (Or.inl ⟨by rfl, ?_⟩) ?_ ?_; rotate_left; intro w'; go_simp; with_reducible rfl; rotate_left; simp only [Cap.pz]; rfl
     refine Cap.pu (v := ?_) (a' := ?_) 23 (some 46) zf44 HT_ rfl rfl (by kernel_rfl) (fun _ _ _ h => h) (Or.inl ⟨by rfl, ?_⟩) ?_ ?_; rotate_left; intro w'; go_simp; with_reducible rfl; rotate_left; simp only [Cap.pz]; rfl
     refine Cap.pu (v := ?_) (a' := ?_) 24 (some 47) zf45 HT_ rfl rfl (by kernel_rfl) (fun _ _ _ h => h) (Or.inl ⟨by rfl, ?_⟩) ?_ ?_; rotate_left; intro w'; go_simp; with_reducible rfl; rotate_left; simp only [Cap.pz]; rfl
     refine Cap.pu (v := ?_) (a' := ?_) 25 (some 48) zf46 HT_ rfl rfl (by kernel_rfl) (fun _ _ _ h => h) (Or.inl ⟨by rfl, ?_⟩) ?_ ?_; rotate_left; intro w'; go_simp; with_reducible rfl; rotate_left; simp only [Cap.pz]; rfl
     refine take_ (i := 26) (N := some 49) (v := ?_) (a' := ?_) zf47 rfl rfl (take_ofW HT_.out HW_.out (by kernel_rfl)) (fun _ _ _ h => h) (Or.inl ⟨by rfl, ?_⟩) hHeld ?_ ?_; rotate_left; rintro w' ⟨s0, s1, s2, s3, s4, s5, s6, s7, s8⟩; go_simp; with_reducible rfl; rotate_left; simp only [Cap.pz]; rfl
     refine Cap.pu (v := ?_) (a' := ?_) 27 (some 50) zf48 HT_ rfl rfl (by kernel_rfl) (fun _ _ _ h => h) (Or.inl ⟨by rfl, ?_⟩) ?_ ?_; rotate_left; intro w'; go_simp; with_reducible rfl; rotate_left; simp only [Cap.pz]; rfl
     refine Cap.pu (v := ?_) (a' := ?_) 28 (some 51) zf49 HT_ rfl rfl (by kernel_rfl) (fun _ _ _ h => h) (Or.inl ⟨by rfl, ?_⟩) ?_ ?_; rotate_left; intro w'; go_simp; with_reducible rfl; rotate_left; simp only [Cap.pz]; rfl
     refine Cap.pu (v := ?_) (a' := ?_) 29 (some 52) zf50 HT_ rfl rfl (by kernel_rfl) (fun _ _ _ h => h) (Or.inl ⟨by rfl, ?_⟩) ?_ ?_; rotate_left; intro w'; go_simp; with_reducible rfl; rotate_left; simp only [Cap.pz]; rfl
     refine Cap.pu (v := ?_) (a' := ?_) 30 (some 53) zf51 HT_ rfl rfl (by kernel_rfl) (fun _ _ _ h => h) (Or.inl ⟨by rfl, ?_⟩) ?_ ?_; rotate_left; intro w'; go_simp; with_reducible rfl; rotate_left; simp only [Cap.pz]; rfl
     refine Cap.pu (v := ?_) (a' := ?_) 31 (some 54) zf52 HT_ rfl rfl (by kernel_rfl) (fun _ _ _ h => h) (Or.inl ⟨by rfl, ?_⟩) ?_ ?_; rotate_left; intro w'; go_simp; with_reducible rfl; rotate_left; simp only [Cap.pz]; rfl
     refine Cap.pu (v := ?_) (a' := ?_) 32 (some 55) zf53 HT_ rfl rfl (by kernel_rfl) (fun _ _ _ h => h) (Or.inl ⟨by rfl, ?_⟩) ?_ ?_; rotate_left; intro w'; go_simp; with_reducible rfl; rotate_left; simp only [Cap.pz]; rfl
     refine Cap.pu (v := ?_) (a' := ?_) 33 (some 56) zf54 HT_ rfl rfl (by kernel_rfl) (fun _ _ _ h => h) (Or.inl ⟨by rfl, ?_⟩) ?_ ?_; rotate_left; intro w'; go_simp; with_reducible rfl; rotate_left; simp only [Cap.pz]; rfl
     refine Cap.pu (v := ?_) (a' := ?_) 34 (some 57) zf55 HT_ rfl rfl (by kernel_rfl) (fun _ _ _ h => h) (Or.inl ⟨by rfl, ?_⟩) ?_ ?_; rotate_left; intro w'; go_simp; with_reducible rfl; rotate_left; simp only [Cap.pz]; rfl
     refine Cap.pu (v := ?_) (a' := ?_) 36 (some 59) zf72 HT_ rfl rfl (by kernel_rfl) (fun _ _ _ h => h) (Or.inl ⟨by rfl, ?_⟩) ?_ ?_; rotate_left; intro w'; go_simp; with_reducible rfl; rotate_left; simp only [Cap.pz]; rfl
     refine Cap.pu (v := ?_) (a' := ?_) 37 (some 60) zf73 HT_ rfl rfl (by kernel_rfl) (fun _ _ _ h => h) (Or.inl ⟨by rfl, ?_⟩) ?_ ?_; rotate_left; intro w'; go_simp; with_reducible rfl; rotate_left; simp only [Cap.pz]; rfl
     refine take_ (i := 35) (N := some 58) (v := ?_) (a' := ?_) zf58 rfl rfl (take_ofW HT_.out HW_.out (by kernel_rfl)) (fun _ _ _ h => h) (Or.inl ⟨by rfl, ?_⟩) hHeld ?_ ?_; rotate_left; rintro w' ⟨s0, s1, s2, s3, s4, s5, s6, s7, s8⟩; go_simp; with_reducible rfl; rotate_left; simp only [Cap.pz]; rfl
     refine Cap.pu (v := ?_) (a' := ?_) 38 (some 61) zf59 HT_ rfl rfl (by kernel_rfl) (fun _ _ _ h => h) (Or.inl ⟨by rfl, ?_⟩) ?_ ?_; rotate_left; intro w'; go_simp; with_reducible rfl; rotate_left; simp only [Cap.pz]; rfl
     refine take_ (i := 39) (N := some 62) (v := ?_) (a' := ?_) zf60 rfl rfl (take_ofW HT_.out HW_.out (by kernel_rfl)) (fun _ _ _ h => h) (Or.inl ⟨by rfl, ?_⟩) hHeld ?_ ?_; rotate_left; rintro w' ⟨s0, s1, s2, s3, s4, s5, s6, s7, s8⟩; go_simp; with_reducible rfl; rotate_left; simp only [Cap.pz]; rfl
     refine take_ (i := 40) (N := some 63) (v := ?_) (a' := ?_) zf61 rfl rfl (take_ofW HT_.out HW_.out (by kernel_rfl)) (fun _ _ _ h => h) (Or.inl ⟨by rfl, ?_⟩) hHeld ?_ ?_; rotate_left; rintro w' ⟨s0, s1, s2, s3, s4, s5, s6, s7, s8⟩; go_simp; with_reducible rfl; rotate_left; simp only [Cap.pz]; rfl
     refine one_ (i := 41) (N := some 64) zf62 rfl rfl (one_of HT_.out (by kernel_rfl)) (by decide) (fun K hK => ?_)
     refine goes_ Try.func23 (by kernel_rfl) rfl #[.agg #[.string ((rd_T43 l0_0 (ji55)).f0), .int .i64 ((rd_T43 l0_0 (ji55)).f1), .bool ((rd_T43 l0_0 (ji55)).f2), .string ((rd_T43 l0_0 (ji55)).f3)], .agg #[.string ((rd_T43 l0_0 x4_1).f0), .int .i64 ((rd_T43 l0_0 x4_1).f1), .bool false, .string ((rd_T43 l0_0 x4_1).f3)]] (by rfl) rfl rfl (by (try simp only [List.map_toArray, List.map_cons, List.map_nil]); first | done | (simp only [hji55]; rfl) | rfl | (simp only [List.length_drop, List.length_take]; rfl)) ?_
     with_reducible refine (spec_l08Less.calls ((rd_T43 l0_0 (ji55)).f0) ((rd_T43 l0_0 (ji55)).f1) ((rd_T43 l0_0 (ji55)).f2) ((rd_T43 l0_0 (ji55)).f3) ((rd_T43 l0_0 x4_1).f0) ((rd_T43 l0_0 x4_1).f1) false ((rd_T43 l0_0 x4_1).f3) true _ A58.out).mono ?_
     rintro e w63 ⟨rfl, hb⟩
     refine ⟨_, rfl, ?_⟩
     have n0_ := Aside0.mk (Kd.R_below (by first | exact Grow.rg HO_3.out | exact HO_3.out) hb)
     have n1_ := Aside0.mk (blk_below (g := gb111) (o := .cells #[.slice (some ad115) l0_0.length c0_0] 26 (0, 0)) (by first | exact Grow.bk BK111.out | exact BK111.out) hb)
     have n2_ := Aside0.mk (blk_below (g := gb116) (o := .cells #[.string ((rd_T43 l0_0 x4_1).f0), .int .i64 ((rd_T43 l0_0 x4_1).f1), .bool false, .string ((rd_T43 l0_0 x4_1).f3)] 43 (0, 0)) (by first | exact Grow.bk BK116.out | exact BK116.out) hb)
     have n3_ := Aside0.mk (below_step (by repeat (first | (with_reducible first | exact HB.out | apply below_alloc | apply pw_below_drewN | apply below_drew1 | refine below_set ?_ GE111.out | refine below_set ?_ GE116.out) | exact HB.out)) hb)
     clear HO_3
     clear BK111
     clear BK116
     clear HB
     have HO_3 := n0_
     have BK111 := n1_
     have BK116 := n2_
     have HB := n3_
     clear n0_ n1_ n2_ n3_
     (try clear hb)
     (try clear hb2)
     (try clear hk)
     (try clear hi)
     obtain ⟨Ao64, co64, eo64⟩ := Kd.R_slice HO_3.out
     (first | subst eo64 | (injection eo64 with f1_ f2_ f3_; have f4_ := f1_.symm; have f5_ := f3_.symm; clear f1_ f2_ f3_; subst f4_; subst f5_))
     refine hK.out _ _ ⟨(blk_cell BK116.out 0).trans rfl, (blk_cell BK116.out 1).trans rfl, (blk_cell BK116.out 2).trans rfl, (blk_cell BK116.out 3).trans rfl, (blk_cell BK111.out 0).trans rfl, ((HB.out.cell (World.block_lt_of_cell? w _ hw121_0)).trans hw121_0), ((HB.out.cell (World.block_lt_of_cell? w _ hw121_1)).trans hw121_1), ((HB.out.cell (World.block_lt_of_cell? w _ hw121_2)).trans hw121_2), ((HB.out.cell (World.block_lt_of_cell? w _ hw121_3)).trans hw121_3)⟩ (fun hHeld => ?_)
     clear hK K
     refine norm_ (a' := ?_) ?_ ?_; rotate_left; show Act.put _ (some 64) _ = _; simp only [Cap.pz]; rfl
     refine Cap.pu (v := ?_) (a' := ?_) 42 (some 65) zf63 HT_ rfl rfl (by kernel_rfl) (fun _ _ _ h => h) (Or.inl ⟨by rfl, ?_⟩) ?_ ?_; rotate_left; intro w'; go_simp; with_reducible rfl; rotate_left; simp only [Cap.pz]; rfl
     refine Cap.pu (v := ?_) (a' := ?_) 43 (some 66) zf64 HT_ rfl rfl (by kernel_rfl) (fun _ _ _ h => h) (Or.inl ⟨by rfl, ?_⟩) ?_ ?_; rotate_left; intro w'; go_simp; with_reducible rfl; rotate_left; simp only [Cap.pz]; rfl
     refine Cap.pu (v := ?_) (a' := ?_) 44 (some 67) zf65 HT_ rfl rfl (by kernel_rfl) (fun _ _ _ h => h) (Or.inl ⟨by rfl, ?_⟩) ?_ ?_; rotate_left; intro w'; go_simp; with_reducible rfl; rotate_left; simp only [Cap.pz]; rfl
     refine Cap.pu (v := ?_) (a' := ?_) 45 (some 68) zf66 HT_ rfl rfl (by kernel_rfl) (fun _ _ _ h => h) (Or.inl ⟨by rfl, ?_⟩) ?_ ?_; rotate_left; intro w'; go_simp; with_reducible rfl; rotate_left; simp only [Cap.pz]; rfl
     refine Cap.pu (v := ?_) (a' := ?_) 46 (some 69) zf67 HT_ rfl rfl (by kernel_rfl) (fun _ _ _ h => h) (Or.inl ⟨by rfl, ?_⟩) ?_ ?_; rotate_left; intro w'; go_simp; with_reducible rfl; rotate_left; simp only [Cap.pz]; rfl
     refine Cap.pu (v := ?_) (a' := ?_) 47 (some 70) zf68 HT_ rfl rfl (by kernel_rfl) (fun _ _ _ h => h) (Or.inl ⟨by rfl, ?_⟩) ?_ ?_; rotate_left; intro w'; go_simp; with_reducible rfl; rotate_left; simp only [Cap.pz]; rfl
     refine take_ (i := 48) (N := some 71) (v := ?_) (a' := ?_) zf69 rfl rfl (take_ofW HT_.out HW_.out (by kernel_rfl)) (fun _ _ _ h => h) (Or.inl ⟨by rfl, ?_⟩) hHeld ?_ ?_; rotate_left; rintro w' ⟨s0, s1, s2, s3, s4, s5, s6, s7, s8⟩; go_simp; with_reducible rfl; rotate_left; simp only [Cap.pz]; rfl
     refine one_ (i := 49) (N := some 72) zf70 rfl rfl (one_of HT_.out (by kernel_rfl)) (by decide) (fun K hK => ?_)
     refine goes_ Try.func24 (by kernel_rfl) rfl #[.slice Ao64 x3_1.length co64, .int .i64 ((rd_T43 l0_0 x4_1).f1)] (by rfl) rfl rfl (by (try simp only [List.map_toArray, List.map_cons, List.map_nil]); first | done | rfl | (simp only [List.length_drop, List.length_take]; rfl)) ?_
     with_reducible refine (spec_l01InInts.calls k1 _ _ x3_1 ((rd_T43 l0_0 x4_1).f1) t123 _ ?side1 ?side2 A60.out).mono ?_
     (case side1 => repeat (first | exact (Kd.R_reads' HO_3.out).2.2 | (with_reducible refine Kd.C_alloc ?_ _) | (with_reducible refine Kd.C_drewN ?_ _) | (with_reducible refine Kd.C_drew ?_)))
     (case side2 => exact (Kd.R_reads' HO_3.out).2.1)
     rintro e w' ⟨rfl, ⟨nd, rfl⟩⟩
     refine ⟨_, rfl, ?_⟩
     refine hK.out _ _ ⟨(blk_cell BK116.out 0).trans rfl, (blk_cell BK116.out 1).trans rfl, (blk_cell BK116.out 2).trans rfl, (blk_cell BK116.out 3).trans rfl, (blk_cell BK111.out 0).trans rfl, ((HB.out.cell (World.block_lt_of_cell? w _ hw121_0)).trans hw121_0), ((HB.out.cell (World.block_lt_of_cell? w _ hw121_1)).trans hw121_1), ((HB.out.cell (World.block_lt_of_cell? w _ hw121_2)).trans hw121_2), ((HB.out.cell (World.block_lt_of_cell? w _ hw121_3)).trans hw121_3)⟩ (fun hHeld => ?_)
     clear hK K
     refine norm_ (a' := ?_) ?_ ?_; rotate_left; show Act.put _ (some 72) _ = _; simp only [Cap.pz]; rfl
     refine Cap.pu (v := ?_) (a' := ?_) 50 (some 73) zf71 HT_ rfl rfl (by kernel_rfl) (fun _ _ _ h => h) (Or.inl ⟨by rfl, ?_⟩) ?_ ?_; rotate_left; intro w'; go_simp; with_reducible rfl; rotate_left; simp only [Cap.pz]; rfl
     refine done_ (done_of HT_.out (by kernel_rfl)) ?_
     try go_wp2
     go_meet
     case rel => (try rw [← Nbq25.out]); exact ⟨_, (t123), (by first | rfl | (simp; done) | (simp [*]; done)), H', ⟨by have := HK1.out; first | omega | exact Nat.le_refl _⟩, ⟨by first | exact Grow.rg HO_3.out | exact HO_3.out⟩, ⟨by first | exact Grow.bk BK111.out | exact BK111.out⟩, ⟨by first | exact Grow.bk BK116.out | exact BK116.out⟩, ⟨by repeat (first | (with_reducible first | exact HB.out | apply below_alloc | apply pw_below_drewN | apply below_drew1 | refine below_set ?_ GE111.out | refine below_set ?_ GE116.out) | exact HB.out)⟩⟩
    subst c26
    (try rw [← Nbq25.out])
    have H1 : (if ((rd_T43 l0_0 x4_1).f3).toList = ([] : List UInt8) then (if (((rd_T43 l0_0 x4_1).f3).size : Int) > 100000 then (spec_RunFault.j1 k1 x3_1 x4_1 true l0_0 ((rd_T43 l0_0 x4_1).f0) ((rd_T43 l0_0 x4_1).f1) true ((rd_T43 l0_0 x4_1).f3)) else (if x4_1 > 0 then (if 0 ≤ (wrap64 (x4_1 - 1)) then (if (wrap64 (x4_1 - 1)) < (l0_0.length : Int) then ((spec_l08Less.f ((rd_T43 l0_0 (wrap64 (x4_1 - 1))).f0) ((rd_T43 l0_0 (wrap64 (x4_1 - 1))).f1) ((rd_T43 l0_0 (wrap64 (x4_1 - 1))).f2) ((rd_T43 l0_0 (wrap64 (x4_1 - 1))).f3) ((rd_T43 l0_0 x4_1).f0) ((rd_T43 l0_0 x4_1).f1) (true) ((rd_T43 l0_0 x4_1).f3)).bind fun t118 => (if t118 = true then ((spec_l01InInts.f k1 x3_1 ((rd_T43 l0_0 x4_1).f1)).bind fun t119 => (spec_RunFault.j1 k1 x3_1 x4_1 t119 l0_0 ((rd_T43 l0_0 x4_1).f0) ((rd_T43 l0_0 x4_1).f1) true ((rd_T43 l0_0 x4_1).f3))) else (spec_RunFault.j1 k1 x3_1 x4_1 true l0_0 ((rd_T43 l0_0 x4_1).f0) ((rd_T43 l0_0 x4_1).f1) true ((rd_T43 l0_0 x4_1).f3)))) else (none)) else (none)) else ((spec_l01InInts.f k1 x3_1 ((rd_T43 l0_0 x4_1).f1)).bind fun t120 => (spec_RunFault.j1 k1 x3_1 x4_1 t120 l0_0 ((rd_T43 l0_0 x4_1).f0) ((rd_T43 l0_0 x4_1).f1) true ((rd_T43 l0_0 x4_1).f3))))) else (spec_RunFault.j1 k1 x3_1 x4_1 true l0_0 ((rd_T43 l0_0 x4_1).f0) ((rd_T43 l0_0 x4_1).f1) true ((rd_T43 l0_0 x4_1).f3))) = some r := by rw [if_pos rfl] at H; exact H
    clear H
    have H := H1
    clear H1
    by_cases c27 : ((rd_T43 l0_0 x4_1).f3).toList = ([] : List UInt8)
    rotate_left
    ·
     rw [if_neg c27] at H
     have c27b0 : (((rd_T43 l0_0 x4_1).f3).toList == ([] : List UInt8)) = false := beq_eq_false_iff_ne.mpr c27
     have c27b1 : (((rd_T43 l0_0 x4_1).f3).toList != ([] : List UInt8)) = true := bne_iff_ne.mpr c27
     have H' := Aside0.mk H
     clear H
     try go_wp2
     have n0_ : Aside0 (Kd.R (Kd.int .i64) 2 ((((w13.setCell ⟨gb116, 0, none⟩ (.string ((rd_T43 l0_0 x4_1).f0))).setCell ⟨gb116, 1, none⟩ (.int .i64 ((rd_T43 l0_0 x4_1).f1))).setCell ⟨gb116, 2, none⟩ (.bool (true))).setCell ⟨gb116, 3, none⟩ (.string ((rd_T43 l0_0 x4_1).f3))) w.heap.size (fun _ => True) u3 x3_1) := ⟨by (with_reducible repeat (first | apply Kd.R_alloc | apply Kd.R_drewN | apply Kd.R_drew)); exact Kd.R_mono (Kd.R_far (p := ⟨gb116, 3, none⟩) (Kd.R_far (p := ⟨gb116, 2, none⟩) (Kd.R_far (p := ⟨gb116, 1, none⟩) (Kd.R_far (p := ⟨gb116, 0, none⟩) (Kd.R_types HO_3.out BK116.out (by decide)) (fun _ hk => hk.2) (.string ((rd_T43 l0_0 x4_1).f0))) (fun _ hk => hk.2) (.int .i64 ((rd_T43 l0_0 x4_1).f1))) (fun _ hk => hk.2) (.bool (true))) (fun _ hk => hk.2) (.string ((rd_T43 l0_0 x4_1).f3))) (fun _ hk => trivial)⟩
     have n1_ : Aside0 (((((w13.setCell ⟨gb116, 0, none⟩ (.string ((rd_T43 l0_0 x4_1).f0))).setCell ⟨gb116, 1, none⟩ (.int .i64 ((rd_T43 l0_0 x4_1).f1))).setCell ⟨gb116, 2, none⟩ (.bool (true))).setCell ⟨gb116, 3, none⟩ (.string ((rd_T43 l0_0 x4_1).f3))).heap[gb111]? = some (.cells #[.slice (some ad115) l0_0.length c0_0] 26 (0, 0))) := ⟨by (with_reducible repeat (first | refine blk_drewN ?_ _ | refine blk_drew ?_ | refine blk_alloc ?_ _)); refine blk_far ?_ NB111_116.out _; (with_reducible repeat (first | refine blk_drewN ?_ _ | refine blk_drew ?_ | refine blk_alloc ?_ _)); refine blk_far ?_ NB111_116.out _; (with_reducible repeat (first | refine blk_drewN ?_ _ | refine blk_drew ?_ | refine blk_alloc ?_ _)); refine blk_far ?_ NB111_116.out _; (with_reducible repeat (first | refine blk_drewN ?_ _ | refine blk_drew ?_ | refine blk_alloc ?_ _)); refine blk_far ?_ NB111_116.out _; (with_reducible repeat (first | refine blk_drewN ?_ _ | refine blk_drew ?_ | refine blk_alloc ?_ _)); exact BK111.out⟩
     have n2_ : Aside0 (((((w13.setCell ⟨gb116, 0, none⟩ (.string ((rd_T43 l0_0 x4_1).f0))).setCell ⟨gb116, 1, none⟩ (.int .i64 ((rd_T43 l0_0 x4_1).f1))).setCell ⟨gb116, 2, none⟩ (.bool (true))).setCell ⟨gb116, 3, none⟩ (.string ((rd_T43 l0_0 x4_1).f3))).heap[gb116]? = some (.cells #[.string ((rd_T43 l0_0 x4_1).f0), .int .i64 ((rd_T43 l0_0 x4_1).f1), .bool true, .string ((rd_T43 l0_0 x4_1).f3)] 43 (0, 0))) := ⟨by (with_reducible repeat (first | refine blk_drewN ?_ _ | refine blk_drew ?_ | refine blk_alloc ?_ _)); refine blk_put (cs := #[.string ((rd_T43 l0_0 x4_1).f0), .int .i64 ((rd_T43 l0_0 x4_1).f1), .bool (true), .string (⟨#[]⟩ : ByteArray)]) ?_ 3 _ rfl; (with_reducible repeat (first | refine blk_drewN ?_ _ | refine blk_drew ?_ | refine blk_alloc ?_ _)); refine blk_put (cs := #[.string ((rd_T43 l0_0 x4_1).f0), .int .i64 ((rd_T43 l0_0 x4_1).f1), .bool false, .string (⟨#[]⟩ : ByteArray)]) ?_ 2 _ rfl; (with_reducible repeat (first | refine blk_drewN ?_ _ | refine blk_drew ?_ | refine blk_alloc ?_ _)); refine blk_put (cs := #[.string ((rd_T43 l0_0 x4_1).f0), .int .i64 0, .bool false, .string (⟨#[]⟩ : ByteArray)]) ?_ 1 _ rfl; (with_reducible repeat (first | refine blk_drewN ?_ _ | refine blk_drew ?_ | refine blk_alloc ?_ _)); refine blk_put (cs := #[.string (⟨#[]⟩ : ByteArray), .int .i64 0, .bool false, .string (⟨#[]⟩ : ByteArray)]) ?_ 0 _ rfl; (with_reducible repeat (first | refine blk_drewN ?_ _ | refine blk_drew ?_ | refine blk_alloc ?_ _)); exact BK116.out⟩
     have n3_ : Aside0 (Below w.heap.size w ((((w13.setCell ⟨gb116, 0, none⟩ (.string ((rd_T43 l0_0 x4_1).f0))).setCell ⟨gb116, 1, none⟩ (.int .i64 ((rd_T43 l0_0 x4_1).f1))).setCell ⟨gb116, 2, none⟩ (.bool (true))).setCell ⟨gb116, 3, none⟩ (.string ((rd_T43 l0_0 x4_1).f3)))) := ⟨by repeat (first | (with_reducible first | exact HB.out | apply below_alloc | apply pw_below_drewN | apply below_drew1 | refine below_set ?_ GE111.out | refine below_set ?_ GE116.out) | exact HB.out)⟩
     (try clear HO_3)
     (try clear BK111)
     (try clear BK116)
     (try clear HB)
     generalize ((((w13.setCell ⟨gb116, 0, none⟩ (.string ((rd_T43 l0_0 x4_1).f0))).setCell ⟨gb116, 1, none⟩ (.int .i64 ((rd_T43 l0_0 x4_1).f1))).setCell ⟨gb116, 2, none⟩ (.bool (true))).setCell ⟨gb116, 3, none⟩ (.string ((rd_T43 l0_0 x4_1).f3))) = w49 at n0_ n1_ n2_ n3_ ⊢
     have HO_3 := n0_
     have BK111 := n1_
     have BK116 := n2_
     have HB := n3_
     clear n0_ n1_ n2_ n3_
     have n0_ := Aside0.mk (Kd.R_drew HO_3.out)
     have n1_ := Aside0.mk (blk_drew BK111.out)
     have n2_ := Aside0.mk (blk_drew BK116.out)
     have n3_ := Aside0.mk (below_drew1 HB.out)
     clear HO_3
     clear BK111
     clear BK116
     clear HB
     have HO_3 := n0_
     have BK111 := n1_
     have BK116 := n2_
     have HB := n3_
     clear n0_ n1_ n2_ n3_
     refine start_ (n := 51) (S := fun w' => w'.cell? ⟨gb116, 0, none⟩ = some (.string ((rd_T43 l0_0 x4_1).f0)) ∧ w'.cell? ⟨gb116, 1, none⟩ = some (.int .i64 ((rd_T43 l0_0 x4_1).f1)) ∧ w'.cell? ⟨gb116, 2, none⟩ = some (.bool true) ∧ w'.cell? ⟨gb116, 3, none⟩ = some (.string ((rd_T43 l0_0 x4_1).f3))) (ds := []) zf20 (by kernel_rfl) rfl rfl ⟨(blk_cell BK116.out 0).trans rfl, (blk_cell BK116.out 1).trans rfl, (blk_cell BK116.out 2).trans rfl, (blk_cell BK116.out 3).trans rfl⟩ (fun hHeld => ?_); refine with_tabW spec_RunFault.tab8 spec_RunFault.bits8 (fun HT_ HW_ => ?_)
     generalize w49.drew = w50 at HO_3 BK111 BK116 HB hHeld ⊢
     refine Cap.pu (v := ?_) (a' := ?_) 0 (some 23) zf21 HT_ rfl rfl (by kernel_rfl) (fun _ _ _ h => h) (Or.inl ⟨by rfl, ?_⟩) ?_ ?_; rotate_left; intro w'; go_simp; with_reducible rfl; rotate_left; simp only [Cap.pz]; rfl
     refine take_ (i := 1) (N := some 24) (v := ?_) (a' := ?_) zf22 rfl rfl (take_ofW HT_.out HW_.out (by kernel_rfl)) (fun _ _ _ h => h) (Or.inl ⟨by rfl, ?_⟩) hHeld ?_ ?_; rotate_left; rintro w' ⟨s0, s1, s2, s3⟩; go_simp; with_reducible rfl; rotate_left; simp only [Cap.pz]; rfl
     refine Cap.pu (v := ?_) (a' := ?_) 2 (some 25) zf23 HT_ rfl rfl (by kernel_rfl) (fun _ _ _ h => h) (Or.inl ⟨by rfl, ?_⟩) ?_ ?_; rotate_left; intro w'; go_simp; with_reducible rfl; rotate_left; simp only [Cap.pz]; rfl
     refine Cap.pu (v := ?_) (a' := ?_) 3 (some 26) zf24 HT_ rfl rfl (by kernel_rfl) (fun _ _ _ h => h) (Or.inl ⟨by rfl, ?_⟩) ?_ ?_; rotate_left; intro w'; go_simp; with_reducible rfl; rotate_left; simp only [Cap.pz]; rfl
     refine Cap.pu (v := ?_) (a' := ?_) 4 (some 27) zf25 HT_ rfl rfl (by kernel_rfl) (fun _ _ _ h => h) (Or.inl ⟨by rfl, ?_⟩) ?_ ?_; rotate_left; intro w'; go_simp; with_reducible rfl; rotate_left; simp only [Cap.pz]; rfl
     refine Cap.pu (v := ?_) (a' := ?_) 5 (some 28) zf26 HT_ rfl rfl (by kernel_rfl) (fun _ _ _ h => h) (Or.inl ⟨by rfl, ?_⟩) ?_ ?_; rotate_left; intro w'; go_simp; with_reducible rfl; rotate_left; simp only [Cap.pz]; rfl
     refine take_ (i := 6) (N := some 29) (v := ?_) (a' := ?_) zf27 rfl rfl (take_ofW HT_.out HW_.out (by kernel_rfl)) (fun _ _ _ h => h) (Or.inl ⟨by rfl, ?_⟩) hHeld ?_ ?_; rotate_left; rintro w' ⟨s0, s1, s2, s3⟩; go_simp; with_reducible rfl; rotate_left; simp only [Cap.pz]; rfl
     refine Cap.pu (v := ?_) (a' := ?_) 7 (some 30) zf28 HT_ rfl rfl (by kernel_rfl) (fun _ _ _ h => h) (Or.inl ⟨by rfl, ?_⟩) ?_ ?_; rotate_left; intro w'; go_simp; with_reducible rfl; rotate_left; simp only [Cap.pz]; rfl
     refine Cap.pu (v := ?_) (a' := ?_) 8 (some 31) zf29 HT_ rfl rfl (by kernel_rfl) (fun _ _ _ h => h) (Or.inl ⟨by rfl, ?_⟩) ?_ ?_; rotate_left; intro w'; go_simp; with_reducible rfl; rotate_left; simp only [Cap.pz]; rfl
     refine Cap.pu (v := ?_) (a' := ?_) 9 (some 32) zf30 HT_ rfl rfl (by kernel_rfl) (fun _ _ _ h => h) (Or.inl ⟨by rfl, ?_⟩) ?_ ?_; rotate_left; intro w'; go_simp; with_reducible rfl; rotate_left; simp only [Cap.pz]; rfl
     refine Cap.pu (v := ?_) (a' := ?_) 10 (some 33) zf31 HT_ rfl rfl (by kernel_rfl) (fun _ _ _ h => h) (Or.inl ⟨by rfl, ?_⟩) ?_ ?_; rotate_left; intro w'; go_simp; with_reducible rfl; rotate_left; simp only [Cap.pz]; rfl
     refine Cap.pu (v := ?_) (a' := ?_) 11 (some 34) zf32 HT_ rfl rfl (by kernel_rfl) (fun _ _ _ h => h) (Or.inl ⟨by rfl, ?_⟩) ?_ ?_; rotate_left; intro w'; go_simp; with_reducible rfl; rotate_left; simp only [Cap.pz]; rfl
     refine take_ (i := 12) (N := some 35) (v := ?_) (a' := ?_) zf33 rfl rfl (take_ofW HT_.out HW_.out (by kernel_rfl)) (fun _ _ _ h => h) (Or.inl ⟨by rfl, ?_⟩) hHeld ?_ ?_; rotate_left; rintro w' ⟨s0, s1, s2, s3⟩; go_simp; with_reducible rfl; rotate_left; simp only [Cap.pz]; rfl
     refine Cap.pu (v := ?_) (a' := ?_) 13 (some 36) zf34 HT_ rfl rfl (by kernel_rfl) (fun _ _ _ h => h) (Or.inl ⟨by rfl, ?_⟩) ?_ ?_; rotate_left; intro w'; go_simp; with_reducible rfl; rotate_left; simp only [Cap.pz]; rfl
     refine Cap.pu (v := ?_) (a' := ?_) 14 (some 37) zf35 HT_ rfl rfl (by kernel_rfl) (fun _ _ _ h => h) (Or.inl ⟨by rfl, ?_⟩) ?_ ?_; rotate_left; intro w'; go_simp; with_reducible rfl; rotate_left; simp only [Cap.pz]; rfl
     refine Cap.pu (v := ?_) (a' := ?_) 15 (some 38) zf36 HT_ rfl rfl (by kernel_rfl) (fun _ _ _ h => h) (Or.inl ⟨by rfl, ?_⟩) ?_ ?_; rotate_left; intro w'; go_simp; with_reducible rfl; rotate_left; simp only [Cap.pz]; rfl
     refine Cap.pu (v := ?_) (a' := ?_) 16 (some 39) zf37 HT_ rfl rfl (by kernel_rfl) (fun _ _ _ h => h) (Or.inl ⟨by rfl, ?_⟩) ?_ ?_; rotate_left; intro w'; go_simp; with_reducible rfl; rotate_left; simp only [Cap.pz]; rfl
     refine take_ (i := 17) (N := some 40) (v := ?_) (a' := ?_) zf38 rfl rfl (take_ofW HT_.out HW_.out (by kernel_rfl)) (fun _ _ _ h => h) (Or.inl ⟨by rfl, ?_⟩) hHeld ?_ ?_; rotate_left; rintro w' ⟨s0, s1, s2, s3⟩; go_simp; with_reducible rfl; rotate_left; simp only [Cap.pz]; rfl
     refine Cap.pu (v := ?_) (a' := ?_) 18 (some 41) zf39 HT_ rfl rfl (by kernel_rfl) (fun _ _ _ h => h) (Or.inl ⟨by rfl, ?_⟩) ?_ ?_; rotate_left; intro w'; go_simp; with_reducible rfl; rotate_left; simp only [Cap.pz]; rfl
     refine Cap.pu (v := ?_) (a' := ?_) 19 (some 42) zf40 HT_ rfl rfl (by kernel_rfl) (fun _ _ _ h => h) (Or.inl ⟨by rfl, ?_⟩) ?_ ?_; rotate_left; intro w'; go_simp; with_reducible rfl; rotate_left; simp only [Cap.pz]; rfl
     refine take_ (i := 20) (N := some 43) (v := ?_) (a' := ?_) zf41 rfl rfl (take_ofW HT_.out HW_.out (by kernel_rfl)) (fun _ _ _ h => h) (Or.inl ⟨by rfl, ?_⟩) hHeld ?_ ?_; rotate_left; rintro w' ⟨s0, s1, s2, s3⟩; go_simp; with_reducible rfl; rotate_left; simp only [Cap.pz]; rfl
     refine Cap.pu (v := ?_) (a' := ?_) 21 (some 44) zf42 HT_ rfl rfl (by kernel_rfl) (fun _ _ _ h => h) (Or.inl ⟨by rfl, ?_⟩) ?_ ?_; rotate_left; intro w'; go_simp; with_reducible rfl; rotate_left; simp only [Cap.pz]; rfl
     refine Cap.pu (v := ?_) (a' := ?_) 22 (some 45) zf43 HT_ rfl rfl (by kernel_rfl) (fun _ _ _ h => h) (Or.inl ⟨by rfl, ?_⟩) ?_ ?_; rotate_left; intro w'; go_simp; with_reducible rfl; rotate_left; simp only [Cap.pz]; rfl
     refine Cap.pu (v := ?_) (a' := ?_) 23 (some 46) zf44 HT_ rfl rfl (by kernel_rfl) (fun _ _ _ h => h) (Or.inl ⟨by rfl, ?_⟩) ?_ ?_; rotate_left; intro w'; go_simp; with_reducible rfl; rotate_left; simp only [Cap.pz]; rfl
     refine Cap.pu (v := ?_) (a' := ?_) 24 (some 47) zf45 HT_ rfl rfl (by kernel_rfl) (fun _ _ _ h => h) (Or.inl ⟨by rfl, ?_⟩) ?_ ?_; rotate_left; intro w'; go_simp; with_reducible rfl; rotate_left; simp only [Cap.pz]; rfl
     refine Cap.pu (v := undef) (a' := ?_) 25 (some 48) zf46 HT_ rfl rfl (by kernel_rfl) (fun _ _ _ h => h) (Or.inr ⟨by rfl, rfl⟩) ?_ ?_; rotate_left; simp only [Cap.pz]; rfl
     refine Cap.pu (v := undef) (a' := ?_) 26 (some 49) zf47 HT_ rfl rfl (by kernel_rfl) (fun _ _ _ h => h) (Or.inr ⟨by rfl, rfl⟩) ?_ ?_; rotate_left; simp only [Cap.pz]; rfl
     refine Cap.pu (v := undef) (a' := ?_) 27 (some 50) zf48 HT_ rfl rfl (by kernel_rfl) (fun _ _ _ h => h) (Or.inr ⟨by rfl, rfl⟩) ?_ ?_; rotate_left; simp only [Cap.pz]; rfl
     refine Cap.pu (v := undef) (a' := ?_) 28 (some 51) zf49 HT_ rfl rfl (by kernel_rfl) (fun _ _ _ h => h) (Or.inr ⟨by rfl, rfl⟩) ?_ ?_; rotate_left; simp only [Cap.pz]; rfl
     refine Cap.pu (v := ?_) (a' := ?_) 29 (some 52) zf50 HT_ rfl rfl (by kernel_rfl) (fun _ _ _ h => h) (Or.inl ⟨by rfl, ?_⟩) ?_ ?_; rotate_left; intro w'; go_simp; with_reducible rfl; rotate_left; simp only [Cap.pz]; rfl
     refine Cap.pu (v := ?_) (a' := ?_) 30 (some 53) zf51 HT_ rfl rfl (by kernel_rfl) (fun _ _ _ h => h) (Or.inl ⟨by rfl, ?_⟩) ?_ ?_; rotate_left; intro w'; go_simp; with_reducible rfl; rotate_left; simp only [Cap.pz]; rfl
     refine Cap.pu (v := undef) (a' := ?_) 31 (some 54) zf52 HT_ rfl rfl (by kernel_rfl) (fun _ _ _ h => h) (Or.inr ⟨by rfl, rfl⟩) ?_ ?_; rotate_left; simp only [Cap.pz]; rfl
     refine Cap.pu (v := undef) (a' := ?_) 32 (some 55) zf53 HT_ rfl rfl (by kernel_rfl) (fun _ _ _ h => h) (Or.inr ⟨by rfl, rfl⟩) ?_ ?_; rotate_left; simp only [Cap.pz]; rfl
     refine Cap.pu (v := undef) (a' := ?_) 33 (some 56) zf54 HT_ rfl rfl (by kernel_rfl) (fun _ _ _ h => h) (Or.inr ⟨by rfl, rfl⟩) ?_ ?_; rotate_left; simp only [Cap.pz]; rfl
     refine Cap.pu (v := undef) (a' := ?_) 34 (some 57) zf55 HT_ rfl rfl (by kernel_rfl) (fun _ _ _ h => h) (Or.inr ⟨by rfl, rfl⟩) ?_ ?_; rotate_left; simp only [Cap.pz]; rfl
     refine Cap.pu (v := undef) (a' := ?_) 35 (some 58) zf56 HT_ rfl rfl (by kernel_rfl) (fun _ _ _ h => h) (Or.inr ⟨by rfl, rfl⟩) ?_ ?_; rotate_left; simp only [Cap.pz]; rfl
     refine Cap.pu (v := undef) (a' := ?_) 36 (some 59) zf57 HT_ rfl rfl (by kernel_rfl) (fun _ _ _ h => h) (Or.inr ⟨by rfl, rfl⟩) ?_ ?_; rotate_left; simp only [Cap.pz]; rfl
     refine Cap.pu (v := undef) (a' := ?_) 37 (some 60) zf58 HT_ rfl rfl (by kernel_rfl) (fun _ _ _ h => h) (Or.inr ⟨by rfl, rfl⟩) ?_ ?_; rotate_left; simp only [Cap.pz]; rfl
     refine Cap.pu (v := undef) (a' := ?_) 38 (some 61) zf59 HT_ rfl rfl (by kernel_rfl) (fun _ _ _ h => h) (Or.inr ⟨by rfl, rfl⟩) ?_ ?_; rotate_left; simp only [Cap.pz]; rfl
     refine Cap.pu (v := undef) (a' := ?_) 39 (some 62) zf60 HT_ rfl rfl (by kernel_rfl) (fun _ _ _ h => h) (Or.inr ⟨by rfl, rfl⟩) ?_ ?_; rotate_left; simp only [Cap.pz]; rfl
     refine Cap.pu (v := undef) (a' := ?_) 40 (some 63) zf61 HT_ rfl rfl (by kernel_rfl) (fun _ _ _ h => h) (Or.inr ⟨by rfl, rfl⟩) ?_ ?_; rotate_left; simp only [Cap.pz]; rfl
     refine Cap.pu (v := undef) (a' := ?_) 41 (some 64) zf62 HT_ rfl rfl (by kernel_rfl) (fun _ _ _ h => h) (Or.inr ⟨by rfl, rfl⟩) ?_ ?_; rotate_left; simp only [Cap.pz]; rfl
     refine Cap.pu (v := undef) (a' := ?_) 42 (some 65) zf63 HT_ rfl rfl (by kernel_rfl) (fun _ _ _ h => h) (Or.inr ⟨by rfl, rfl⟩) ?_ ?_; rotate_left; simp only [Cap.pz]; rfl
     refine Cap.pu (v := undef) (a' := ?_) 43 (some 66) zf64 HT_ rfl rfl (by kernel_rfl) (fun _ _ _ h => h) (Or.inr ⟨by rfl, rfl⟩) ?_ ?_; rotate_left; simp only [Cap.pz]; rfl
     refine Cap.pu (v := ?_) (a' := ?_) 44 (some 67) zf65 HT_ rfl rfl (by kernel_rfl) (fun _ _ _ h => h) (Or.inl ⟨by rfl, ?_⟩) ?_ ?_; rotate_left; intro w'; go_simp; with_reducible rfl; rotate_left; simp only [Cap.pz]; rfl
     refine Cap.pu (v := ?_) (a' := ?_) 45 (some 68) zf66 HT_ rfl rfl (by kernel_rfl) (fun _ _ _ h => h) (Or.inl ⟨by rfl, ?_⟩) ?_ ?_; rotate_left; intro w'; go_simp; with_reducible rfl; rotate_left; simp only [Cap.pz]; rfl
     refine Cap.pu (v := undef) (a' := ?_) 46 (some 69) zf67 HT_ rfl rfl (by kernel_rfl) (fun _ _ _ h => h) (Or.inr ⟨by rfl, rfl⟩) ?_ ?_; rotate_left; simp only [Cap.pz]; rfl
     refine Cap.pu (v := undef) (a' := ?_) 47 (some 70) zf68 HT_ rfl rfl (by kernel_rfl) (fun _ _ _ h => h) (Or.inr ⟨by rfl, rfl⟩) ?_ ?_; rotate_left; simp only [Cap.pz]; rfl
     refine Cap.pu (v := undef) (a' := ?_) 48 (some 71) zf69 HT_ rfl rfl (by kernel_rfl) (fun _ _ _ h => h) (Or.inr ⟨by rfl, rfl⟩) ?_ ?_; rotate_left; simp only [Cap.pz]; rfl
     refine Cap.pu (v := undef) (a' := ?_) 49 (some 72) zf70 HT_ rfl rfl (by kernel_rfl) (fun _ _ _ h => h) (Or.inr ⟨by rfl, rfl⟩) ?_ ?_; rotate_left; simp only [Cap.pz]; rfl
     refine Cap.pu (v := ?_) (a' := ?_) 50 (some 73) zf71 HT_ rfl rfl (by kernel_rfl) (fun _ _ _ h => h) (Or.inl ⟨by rfl, ?_⟩) ?_ ?_; rotate_left; intro w'; go_simp; with_reducible rfl; rotate_left; simp only [Cap.pz]; rfl
     refine done_ (done_of HT_.out (by kernel_rfl)) ?_
     try go_wp2
     go_meet
     case rel => (try rw [← Nbq25.out]); exact ⟨_, (true), (by first | rfl | (simp; done) | (simp [*]; done)), H', ⟨by have := HK1.out; first | omega | exact Nat.le_refl _⟩, ⟨by first | exact Grow.rg HO_3.out | exact HO_3.out⟩, ⟨by first | exact Grow.bk BK111.out | exact BK111.out⟩, ⟨by first | exact Grow.bk BK116.out | exact BK116.out⟩, ⟨by repeat (first | (with_reducible first | exact HB.out | apply below_alloc | apply pw_below_drewN | apply below_drew1 | refine below_set ?_ GE111.out | refine below_set ?_ GE116.out) | exact HB.out)⟩⟩
    rw [if_pos c27] at H
    have c27b0 : (((rd_T43 l0_0 x4_1).f3).toList == ([] : List UInt8)) = true := beq_iff_eq.mpr c27
    have c27b1 : (((rd_T43 l0_0 x4_1).f3).toList != ([] : List UInt8)) = false := bne_eq_false_iff_eq.mpr c27
    clear c27
    by_cases c28 : (((rd_T43 l0_0 x4_1).f3).size : Int) > 100000
    ·
     rw [if_pos c28] at H
     have c28b0 : decide (100000 < (((rd_T43 l0_0 x4_1).f3).size : Int)) = true := decide_eq_true c28
     have c28b1 : decide (100000 < ((rd_T43 l0_0 x4_1).f3).size) = true := decide_eq_true (by omega)
     clear c28
     have H' := Aside0.mk H
     clear H
     try go_wp2
     have n0_ : Aside0 (Kd.R (Kd.int .i64) 2 ((((w13.setCell ⟨gb116, 0, none⟩ (.string ((rd_T43 l0_0 x4_1).f0))).setCell ⟨gb116, 1, none⟩ (.int .i64 ((rd_T43 l0_0 x4_1).f1))).setCell ⟨gb116, 2, none⟩ (.bool (true))).setCell ⟨gb116, 3, none⟩ (.string ((rd_T43 l0_0 x4_1).f3))) w.heap.size (fun _ => True) u3 x3_1) := ⟨by (with_reducible repeat (first | apply Kd.R_alloc | apply Kd.R_drewN | apply Kd.R_drew)); exact Kd.R_mono (Kd.R_far (p := ⟨gb116, 3, none⟩) (Kd.R_far (p := ⟨gb116, 2, none⟩) (Kd.R_far (p := ⟨gb116, 1, none⟩) (Kd.R_far (p := ⟨gb116, 0, none⟩) (Kd.R_types HO_3.out BK116.out (by decide)) (fun _ hk => hk.2) (.string ((rd_T43 l0_0 x4_1).f0))) (fun _ hk => hk.2) (.int .i64 ((rd_T43 l0_0 x4_1).f1))) (fun _ hk => hk.2) (.bool (true))) (fun _ hk => hk.2) (.string ((rd_T43 l0_0 x4_1).f3))) (fun _ hk => trivial)⟩
     have n1_ : Aside0 (((((w13.setCell ⟨gb116, 0, none⟩ (.string ((rd_T43 l0_0 x4_1).f0))).setCell ⟨gb116, 1, none⟩ (.int .i64 ((rd_T43 l0_0 x4_1).f1))).setCell ⟨gb116, 2, none⟩ (.bool (true))).setCell ⟨gb116, 3, none⟩ (.string ((rd_T43 l0_0 x4_1).f3))).heap[gb111]? = some (.cells #[.slice (some ad115) l0_0.length c0_0] 26 (0, 0))) := ⟨by (with_reducible repeat (first | refine blk_drewN ?_ _ | refine blk_drew ?_ | refine blk_alloc ?_ _)); refine blk_far ?_ NB111_116.out _; (with_reducible repeat (first | refine blk_drewN ?_ _ | refine blk_drew ?_ | refine blk_alloc ?_ _)); refine blk_far ?_ NB111_116.out _; (with_reducible repeat (first | refine blk_drewN ?_ _ | refine blk_drew ?_ | refine blk_alloc ?_ _)); refine blk_far ?_ NB111_116.out _; (with_reducible repeat (first | refine blk_drewN ?_ _ | refine blk_drew ?_ | refine blk_alloc ?_ _)); refine blk_far ?_ NB111_116.out _; (with_reducible repeat (first | refine blk_drewN ?_ _ | refine blk_drew ?_ | refine blk_alloc ?_ _)); exact BK111.out⟩
     have n2_ : Aside0 (((((w13.setCell ⟨gb116, 0, none⟩ (.string ((rd_T43 l0_0 x4_1).f0))).setCell ⟨gb116, 1, none⟩ (.int .i64 ((rd_T43 l0_0 x4_1).f1))).setCell ⟨gb116, 2, none⟩ (.bool (true))).setCell ⟨gb116, 3, none⟩ (.string ((rd_T43 l0_0 x4_1).f3))).heap[gb116]? = some (.cells #[.string ((rd_T43 l0_0 x4_1).f0), .int .i64 ((rd_T43 l0_0 x4_1).f1), .bool true, .string ((rd_T43 l0_0 x4_1).f3)] 43 (0, 0))) := ⟨by (with_reducible repeat (first | refine blk_drewN ?_ _ | refine blk_drew ?_ | refine blk_alloc ?_ _)); refine blk_put (cs := #[.string ((rd_T43 l0_0 x4_1).f0), .int .i64 ((rd_T43 l0_0 x4_1).f1), .bool (true), .string (⟨#[]⟩ : ByteArray)]) ?_ 3 _ rfl; (with_reducible repeat (first | refine blk_drewN ?_ _ | refine blk_drew ?_ | refine blk_alloc ?_ _)); refine blk_put (cs := #[.string ((rd_T43 l0_0 x4_1).f0), .int .i64 ((rd_T43 l0_0 x4_1).f1), .bool false, .string (⟨#[]⟩ : ByteArray)]) ?_ 2 _ rfl; (with_reducible repeat (first | refine blk_drewN ?_ _ | refine blk_drew ?_ | refine blk_alloc ?_ _)); refine blk_put (cs := #[.string ((rd_T43 l0_0 x4_1).f0), .int .i64 0, .bool false, .string (⟨#[]⟩ : ByteArray)]) ?_ 1 _ rfl; (with_reducible repeat (first | refine blk_drewN ?_ _ | refine blk_drew ?_ | refine blk_alloc ?_ _)); refine blk_put (cs := #[.string (⟨#[]⟩ : ByteArray), .int .i64 0, .bool false, .string (⟨#[]⟩ : ByteArray)]) ?_ 0 _ rfl; (with_reducible repeat (first | refine blk_drewN ?_ _ | refine blk_drew ?_ | refine blk_alloc ?_ _)); exact BK116.out⟩
     have n3_ : Aside0 (Below w.heap.size w ((((w13.setCell ⟨gb116, 0, none⟩ (.string ((rd_T43 l0_0 x4_1).f0))).setCell ⟨gb116, 1, none⟩ (.int .i64 ((rd_T43 l0_0 x4_1).f1))).setCell ⟨gb116, 2, none⟩ (.bool (true))).setCell ⟨gb116, 3, none⟩ (.string ((rd_T43 l0_0 x4_1).f3)))) := ⟨by repeat (first | (with_reducible first | exact HB.out | apply below_alloc | apply pw_below_drewN | apply below_drew1 | refine below_set ?_ GE111.out | refine below_set ?_ GE116.out) | exact HB.out)⟩
     (try clear HO_3)
     (try clear BK111)
     (try clear BK116)
     (try clear HB)
     generalize ((((w13.setCell ⟨gb116, 0, none⟩ (.string ((rd_T43 l0_0 x4_1).f0))).setCell ⟨gb116, 1, none⟩ (.int .i64 ((rd_T43 l0_0 x4_1).f1))).setCell ⟨gb116, 2, none⟩ (.bool (true))).setCell ⟨gb116, 3, none⟩ (.string ((rd_T43 l0_0 x4_1).f3))) = w29 at n0_ n1_ n2_ n3_ ⊢
     have HO_3 := n0_
     have BK111 := n1_
     have BK116 := n2_
     have HB := n3_
     clear n0_ n1_ n2_ n3_
     have n0_ := Aside0.mk (Kd.R_drew HO_3.out)
     have n1_ := Aside0.mk (blk_drew BK111.out)
     have n2_ := Aside0.mk (blk_drew BK116.out)
     have n3_ := Aside0.mk (below_drew1 HB.out)
     clear HO_3
     clear BK111
     clear BK116
     clear HB
     have HO_3 := n0_
     have BK111 := n1_
     have BK116 := n2_
     have HB := n3_
     clear n0_ n1_ n2_ n3_
     refine start_ (n := 51) (S := fun w' => w'.cell? ⟨gb116, 0, none⟩ = some (.string ((rd_T43 l0_0 x4_1).f0)) ∧ w'.cell? ⟨gb116, 1, none⟩ = some (.int .i64 ((rd_T43 l0_0 x4_1).f1)) ∧ w'.cell? ⟨gb116, 2, none⟩ = some (.bool true) ∧ w'.cell? ⟨gb116, 3, none⟩ = some (.string ((rd_T43 l0_0 x4_1).f3))) (ds := []) zf20 (by kernel_rfl) rfl rfl ⟨(blk_cell BK116.out 0).trans rfl, (blk_cell BK116.out 1).trans rfl, (blk_cell BK116.out 2).trans rfl, (blk_cell BK116.out 3).trans rfl⟩ (fun hHeld => ?_); refine with_tabW spec_RunFault.tab8 spec_RunFault.bits8 (fun HT_ HW_ => ?_)
     generalize w29.drew = w30 at HO_3 BK111 BK116 HB hHeld ⊢
     refine Cap.pu (v := ?_) (a' := ?_) 0 (some 23) zf21 HT_ rfl rfl (by kernel_rfl) (fun _ _ _ h => h) (Or.inl ⟨by rfl, ?_⟩) ?_ ?_; rotate_left; intro w'; go_simp; with_reducible rfl; rotate_left; simp only [Cap.pz]; rfl
     refine take_ (i := 1) (N := some 24) (v := ?_) (a' := ?_) zf22 rfl rfl (take_ofW HT_.out HW_.out (by kernel_rfl)) (fun _ _ _ h => h) (Or.inl ⟨by rfl, ?_⟩) hHeld ?_ ?_; rotate_left; rintro w' ⟨s0, s1, s2, s3⟩; go_simp; with_reducible rfl; rotate_left; simp only [Cap.pz]; rfl
     refine Cap.pu (v := ?_) (a' := ?_) 2 (some 25) zf23 HT_ rfl rfl (by kernel_rfl) (fun _ _ _ h => h) (Or.inl ⟨by rfl, ?_⟩) ?_ ?_; rotate_left; intro w'; go_simp; with_reducible rfl; rotate_left; simp only [Cap.pz]; rfl
     refine Cap.pu (v := ?_) (a' := ?_) 3 (some 26) zf24 HT_ rfl rfl (by kernel_rfl) (fun _ _ _ h => h) (Or.inl ⟨by rfl, ?_⟩) ?_ ?_; rotate_left; intro w'; go_simp; with_reducible rfl; rotate_left; simp only [Cap.pz]; rfl
     refine Cap.pu (v := ?_) (a' := ?_) 4 (some 27) zf25 HT_ rfl rfl (by kernel_rfl) (fun _ _ _ h => h) (Or.inl ⟨by rfl, ?_⟩) ?_ ?_; rotate_left; intro w'; go_simp; with_reducible rfl; rotate_left; simp only [Cap.pz]; rfl
     refine Cap.pu (v := ?_) (a' := ?_) 5 (some 28) zf26 HT_ rfl rfl (by kernel_rfl) (fun _ _ _ h => h) (Or.inl ⟨by rfl, ?_⟩) ?_ ?_; rotate_left; intro w'; go_simp; with_reducible rfl; rotate_left; simp only [Cap.pz]; rfl
     refine take_ (i := 6) (N := some 29) (v := ?_) (a' := ?_) zf27 rfl rfl (take_ofW HT_.out HW_.out (by kernel_rfl)) (fun _ _ _ h => h) (Or.inl ⟨by rfl, ?_⟩) hHeld ?_ ?_; rotate_left; rintro w' ⟨s0, s1, s2, s3⟩; go_simp; with_reducible rfl; rotate_left; simp only [Cap.pz]; rfl
     refine Cap.pu (v := ?_) (a' := ?_) 7 (some 30) zf28 HT_ rfl rfl (by kernel_rfl) (fun _ _ _ h => h) (Or.inl ⟨by rfl, ?_⟩) ?_ ?_; rotate_left; intro w'; go_simp; with_reducible rfl; rotate_left; simp only [Cap.pz]; rfl
     refine Cap.pu (v := ?_) (a' := ?_) 8 (some 31) zf29 HT_ rfl rfl (by kernel_rfl) (fun _ _ _ h => h) (Or.inl ⟨by rfl, ?_⟩) ?_ ?_; rotate_left; intro w'; go_simp; with_reducible rfl; rotate_left; simp only [Cap.pz]; rfl
     refine Cap.pu (v := ?_) (a' := ?_) 9 (some 32) zf30 HT_ rfl rfl (by kernel_rfl) (fun _ _ _ h => h) (Or.inl ⟨by rfl, ?_⟩) ?_ ?_; rotate_left; intro w'; go_simp; with_reducible rfl; rotate_left; simp only [Cap.pz]; rfl
     refine Cap.pu (v := ?_) (a' := ?_) 10 (some 33) zf31 HT_ rfl rfl (by kernel_rfl) (fun _ _ _ h => h) (Or.inl ⟨by rfl, ?_⟩) ?_ ?_; rotate_left; intro w'; go_simp; with_reducible rfl; rotate_left; simp only [Cap.pz]; rfl
     refine Cap.pu (v := ?_) (a' := ?_) 11 (some 34) zf32 HT_ rfl rfl (by kernel_rfl) (fun _ _ _ h => h) (Or.inl ⟨by rfl, ?_⟩) ?_ ?_; rotate_left; intro w'; go_simp; with_reducible rfl; rotate_left; simp only [Cap.pz]; rfl
     refine take_ (i := 12) (N := some 35) (v := ?_) (a' := ?_) zf33 rfl rfl (take_ofW HT_.out HW_.out (by kernel_rfl)) (fun _ _ _ h => h) (Or.inl ⟨by rfl, ?_⟩) hHeld ?_ ?_; rotate_left; rintro w' ⟨s0, s1, s2, s3⟩; go_simp; with_reducible rfl; rotate_left; simp only [Cap.pz]; rfl
     refine Cap.pu (v := ?_) (a' := ?_) 13 (some 36) zf34 HT_ rfl rfl (by kernel_rfl) (fun _ _ _ h => h) (Or.inl ⟨by rfl, ?_⟩) ?_ ?_; rotate_left; intro w'; go_simp; with_reducible rfl; rotate_left; simp only [Cap.pz]; rfl
     refine Cap.pu (v := ?_) (a' := ?_) 14 (some 37) zf35 HT_ rfl rfl (by kernel_rfl) (fun _ _ _ h => h) (Or.inl ⟨by rfl, ?_⟩) ?_ ?_; rotate_left; intro w'; go_simp; with_reducible rfl; rotate_left; simp only [Cap.pz]; rfl
     refine Cap.pu (v := ?_) (a' := ?_) 15 (some 38) zf36 HT_ rfl rfl (by kernel_rfl) (fun _ _ _ h => h) (Or.inl ⟨by rfl, ?_⟩) ?_ ?_; rotate_left; intro w'; go_simp; with_reducible rfl; rotate_left; simp only [Cap.pz]; rfl
     refine Cap.pu (v := ?_) (a' := ?_) 16 (some 39) zf37 HT_ rfl rfl (by kernel_rfl) (fun _ _ _ h => h) (Or.inl ⟨by rfl, ?_⟩) ?_ ?_; rotate_left; intro w'; go_simp; with_reducible rfl; rotate_left; simp only [Cap.pz]; rfl
     refine take_ (i := 17) (N := some 40) (v := ?_) (a' := ?_) zf38 rfl rfl (take_ofW HT_.out HW_.out (by kernel_rfl)) (fun _ _ _ h => h) (Or.inl ⟨by rfl, ?_⟩) hHeld ?_ ?_; rotate_left; rintro w' ⟨s0, s1, s2, s3⟩; go_simp; with_reducible rfl; rotate_left; simp only [Cap.pz]; rfl
     refine Cap.pu (v := ?_) (a' := ?_) 18 (some 41) zf39 HT_ rfl rfl (by kernel_rfl) (fun _ _ _ h => h) (Or.inl ⟨by rfl, ?_⟩) ?_ ?_; rotate_left; intro w'; go_simp; with_reducible rfl; rotate_left; simp only [Cap.pz]; rfl
     refine Cap.pu (v := ?_) (a' := ?_) 19 (some 42) zf40 HT_ rfl rfl (by kernel_rfl) (fun _ _ _ h => h) (Or.inl ⟨by rfl, ?_⟩) ?_ ?_; rotate_left; intro w'; go_simp; with_reducible rfl; rotate_left; simp only [Cap.pz]; rfl
     refine take_ (i := 20) (N := some 43) (v := ?_) (a' := ?_) zf41 rfl rfl (take_ofW HT_.out HW_.out (by kernel_rfl)) (fun _ _ _ h => h) (Or.inl ⟨by rfl, ?_⟩) hHeld ?_ ?_; rotate_left; rintro w' ⟨s0, s1, s2, s3⟩; go_simp; with_reducible rfl; rotate_left; simp only [Cap.pz]; rfl
     refine Cap.pu (v := ?_) (a' := ?_) 21 (some 44) zf42 HT_ rfl rfl (by kernel_rfl) (fun _ _ _ h => h) (Or.inl ⟨by rfl, ?_⟩) ?_ ?_; rotate_left; intro w'; go_simp; with_reducible rfl; rotate_left; simp only [Cap.pz]; rfl
     refine Cap.pu (v := ?_) (a' := ?_) 22 (some 45) zf43 HT_ rfl rfl (by kernel_rfl) (fun _ _ _ h => h) (Or.inl ⟨by rfl, ?_⟩) ?_ ?_; rotate_left; intro w'; go_simp; with_reducible rfl; rotate_left; simp only [Cap.pz]; rfl
     refine Cap.pu (v := ?_) (a' := ?_) 23 (some 46) zf44 HT_ rfl rfl (by kernel_rfl) (fun _ _ _ h => h) (Or.inl ⟨by rfl, ?_⟩) ?_ ?_; rotate_left; intro w'; go_simp; with_reducible rfl; rotate_left; simp only [Cap.pz]; rfl
     refine Cap.pu (v := ?_) (a' := ?_) 24 (some 47) zf45 HT_ rfl rfl (by kernel_rfl) (fun _ _ _ h => h) (Or.inl ⟨by rfl, ?_⟩) ?_ ?_; rotate_left; intro w'; go_simp; with_reducible rfl; rotate_left; simp only [Cap.pz]; rfl
     refine Cap.pu (v := ?_) (a' := ?_) 25 (some 48) zf46 HT_ rfl rfl (by kernel_rfl) (fun _ _ _ h => h) (Or.inl ⟨by rfl, ?_⟩) ?_ ?_; rotate_left; intro w'; go_simp; with_reducible rfl; rotate_left; simp only [Cap.pz]; rfl
     refine take_ (i := 26) (N := some 49) (v := ?_) (a' := ?_) zf47 rfl rfl (take_ofW HT_.out HW_.out (by kernel_rfl)) (fun _ _ _ h => h) (Or.inl ⟨by rfl, ?_⟩) hHeld ?_ ?_; rotate_left; rintro w' ⟨s0, s1, s2, s3⟩; go_simp; with_reducible rfl; rotate_left; simp only [Cap.pz]; rfl
     refine Cap.pu (v := ?_) (a' := ?_) 27 (some 50) zf48 HT_ rfl rfl (by kernel_rfl) (fun _ _ _ h => h) (Or.inl ⟨by rfl, ?_⟩) ?_ ?_; rotate_left; intro w'; go_simp; with_reducible rfl; rotate_left; simp only [Cap.pz]; rfl
     refine Cap.pu (v := ?_) (a' := ?_) 28 (some 51) zf49 HT_ rfl rfl (by kernel_rfl) (fun _ _ _ h => h) (Or.inl ⟨by rfl, ?_⟩) ?_ ?_; rotate_left; intro w'; go_simp; with_reducible rfl; rotate_left; simp only [Cap.pz]; rfl
     refine Cap.pu (v := ?_) (a' := ?_) 29 (some 52) zf50 HT_ rfl rfl (by kernel_rfl) (fun _ _ _ h => h) (Or.inl ⟨by rfl, ?_⟩) ?_ ?_; rotate_left; intro w'; go_simp; with_reducible rfl; rotate_left; simp only [Cap.pz]; rfl
     refine Cap.pu (v := ?_) (a' := ?_) 30 (some 53) zf51 HT_ rfl rfl (by kernel_rfl) (fun _ _ _ h => h) (Or.inl ⟨by rfl, ?_⟩) ?_ ?_; rotate_left; intro w'; go_simp; with_reducible rfl; rotate_left; simp only [Cap.pz]; rfl
     refine Cap.pu (v := undef) (a' := ?_) 31 (some 54) zf52 HT_ rfl rfl (by kernel_rfl) (fun _ _ _ h => h) (Or.inr ⟨by rfl, rfl⟩) ?_ ?_; rotate_left; simp only [Cap.pz]; rfl
     refine Cap.pu (v := undef) (a' := ?_) 32 (some 55) zf53 HT_ rfl rfl (by kernel_rfl) (fun _ _ _ h => h) (Or.inr ⟨by rfl, rfl⟩) ?_ ?_; rotate_left; simp only [Cap.pz]; rfl
     refine Cap.pu (v := undef) (a' := ?_) 33 (some 56) zf54 HT_ rfl rfl (by kernel_rfl) (fun _ _ _ h => h) (Or.inr ⟨by rfl, rfl⟩) ?_ ?_; rotate_left; simp only [Cap.pz]; rfl
     refine Cap.pu (v := undef) (a' := ?_) 34 (some 57) zf55 HT_ rfl rfl (by kernel_rfl) (fun _ _ _ h => h) (Or.inr ⟨by rfl, rfl⟩) ?_ ?_; rotate_left; simp only [Cap.pz]; rfl
     refine Cap.pu (v := undef) (a' := ?_) 35 (some 58) zf56 HT_ rfl rfl (by kernel_rfl) (fun _ _ _ h => h) (Or.inr ⟨by rfl, rfl⟩) ?_ ?_; rotate_left; simp only [Cap.pz]; rfl
     refine Cap.pu (v := undef) (a' := ?_) 36 (some 59) zf57 HT_ rfl rfl (by kernel_rfl) (fun _ _ _ h => h) (Or.inr ⟨by rfl, rfl⟩) ?_ ?_; rotate_left; simp only [Cap.pz]; rfl
     refine Cap.pu (v := undef) (a' := ?_) 37 (some 60) zf58 HT_ rfl rfl (by kernel_rfl) (fun _ _ _ h => h) (Or.inr ⟨by rfl, rfl⟩) ?_ ?_; rotate_left; simp only [Cap.pz]; rfl
     refine Cap.pu (v := undef) (a' := ?_) 38 (some 61) zf59 HT_ rfl rfl (by kernel_rfl) (fun _ _ _ h => h) (Or.inr ⟨by rfl, rfl⟩) ?_ ?_; rotate_left; simp only [Cap.pz]; rfl
     refine Cap.pu (v := undef) (a' := ?_) 39 (some 62) zf60 HT_ rfl rfl (by kernel_rfl) (fun _ _ _ h => h) (Or.inr ⟨by rfl, rfl⟩) ?_ ?_; rotate_left; simp only [Cap.pz]; rfl
     refine Cap.pu (v := undef) (a' := ?_) 40 (some 63) zf61 HT_ rfl rfl (by kernel_rfl) (fun _ _ _ h => h) (Or.inr ⟨by rfl, rfl⟩) ?_ ?_; rotate_left; simp only [Cap.pz]; rfl
     refine Cap.pu (v := undef) (a' := ?_) 41 (some 64) zf62 HT_ rfl rfl (by kernel_rfl) (fun _ _ _ h => h) (Or.inr ⟨by rfl, rfl⟩) ?_ ?_; rotate_left; simp only [Cap.pz]; rfl
     refine Cap.pu (v := undef) (a' := ?_) 42 (some 65) zf63 HT_ rfl rfl (by kernel_rfl) (fun _ _ _ h => h) (Or.inr ⟨by rfl, rfl⟩) ?_ ?_; rotate_left; simp only [Cap.pz]; rfl
     refine Cap.pu (v := undef) (a' := ?_) 43 (some 66) zf64 HT_ rfl rfl (by kernel_rfl) (fun _ _ _ h => h) (Or.inr ⟨by rfl, rfl⟩) ?_ ?_; rotate_left; simp only [Cap.pz]; rfl
     refine Cap.pu (v := ?_) (a' := ?_) 44 (some 67) zf65 HT_ rfl rfl (by kernel_rfl) (fun _ _ _ h => h) (Or.inl ⟨by rfl, ?_⟩) ?_ ?_; rotate_left; intro w'; go_simp; with_reducible rfl; rotate_left; simp only [Cap.pz]; rfl
     refine Cap.pu (v := ?_) (a' := ?_) 45 (some 68) zf66 HT_ rfl rfl (by kernel_rfl) (fun _ _ _ h => h) (Or.inl ⟨by rfl, ?_⟩) ?_ ?_; rotate_left; intro w'; go_simp; with_reducible rfl; rotate_left; simp only [Cap.pz]; rfl
     refine Cap.pu (v := undef) (a' := ?_) 46 (some 69) zf67 HT_ rfl rfl (by kernel_rfl) (fun _ _ _ h => h) (Or.inr ⟨by rfl, rfl⟩) ?_ ?_; rotate_left; simp only [Cap.pz]; rfl
     refine Cap.pu (v := undef) (a' := ?_) 47 (some 70) zf68 HT_ rfl rfl (by kernel_rfl) (fun _ _ _ h => h) (Or.inr ⟨by rfl, rfl⟩) ?_ ?_; rotate_left; simp only [Cap.pz]; rfl
     refine Cap.pu (v := undef) (a' := ?_) 48 (some 71) zf69 HT_ rfl rfl (by kernel_rfl) (fun _ _ _ h => h) (Or.inr ⟨by rfl, rfl⟩) ?_ ?_; rotate_left; simp only [Cap.pz]; rfl
     refine Cap.pu (v := undef) (a' := ?_) 49 (some 72) zf70 HT_ rfl rfl (by kernel_rfl) (fun _ _ _ h => h) (Or.inr ⟨by rfl, rfl⟩) ?_ ?_; rotate_left; simp only [Cap.pz]; rfl
     refine Cap.pu (v := ?_) (a' := ?_) 50 (some 73) zf71 HT_ rfl rfl (by kernel_rfl) (fun _ _ _ h => h) (Or.inl ⟨by rfl, ?_⟩) ?_ ?_; rotate_left; intro w'; go_simp; with_reducible rfl; rotate_left; simp only [Cap.pz]; rfl
     refine done_ (done_of HT_.out (by kernel_rfl)) ?_
     try go_wp2
     go_meet
     case rel => (try rw [← Nbq25.out]); exact ⟨_, (true), (by first | rfl | (simp; done) | (simp [*]; done)), H', ⟨by have := HK1.out; first | omega | exact Nat.le_refl _⟩, ⟨by first | exact Grow.rg HO_3.out | exact HO_3.out⟩, ⟨by first | exact Grow.bk BK111.out | exact BK111.out⟩, ⟨by first | exact Grow.bk BK116.out | exact BK116.out⟩, ⟨by repeat (first | (with_reducible first | exact HB.out | apply below_alloc | apply pw_below_drewN | apply below_drew1 | refine below_set ?_ GE111.out | refine below_set ?_ GE116.out) | exact HB.out)⟩⟩
    rw [if_neg c28] at H
    have c28b0 : decide (100000 < (((rd_T43 l0_0 x4_1).f3).size : Int)) = false := decide_eq_false c28
    have c28b1 : decide (100000 < ((rd_T43 l0_0 x4_1).f3).size) = false := decide_eq_false (by omega)
    clear c28
    by_cases c31 : x4_1 > 0
    rotate_left
    ·
     rw [if_neg c31] at H
     have c31b0 : decide (0 < x4_1) = false := decide_eq_false c31
     clear c31
     replace H := Option.bind_eq_some_iff.mp H
     obtain ⟨t120, A450, H⟩ := H
     replace H : (spec_RunFault.j1 k1 x3_1 x4_1 t120 l0_0 ((rd_T43 l0_0 x4_1).f0) ((rd_T43 l0_0 x4_1).f1) true ((rd_T43 l0_0 x4_1).f3)) = some r := H
     have A45 := Aside0.mk A450
     clear A450
     have H' := Aside0.mk H
     clear H
     try go_wp2
     have n0_ : Aside0 (Kd.R (Kd.int .i64) 2 ((((w13.setCell ⟨gb116, 0, none⟩ (.string ((rd_T43 l0_0 x4_1).f0))).setCell ⟨gb116, 1, none⟩ (.int .i64 ((rd_T43 l0_0 x4_1).f1))).setCell ⟨gb116, 2, none⟩ (.bool (true))).setCell ⟨gb116, 3, none⟩ (.string ((rd_T43 l0_0 x4_1).f3))) w.heap.size (fun _ => True) u3 x3_1) := ⟨by (with_reducible repeat (first | apply Kd.R_alloc | apply Kd.R_drewN | apply Kd.R_drew)); exact Kd.R_mono (Kd.R_far (p := ⟨gb116, 3, none⟩) (Kd.R_far (p := ⟨gb116, 2, none⟩) (Kd.R_far (p := ⟨gb116, 1, none⟩) (Kd.R_far (p := ⟨gb116, 0, none⟩) (Kd.R_types HO_3.out BK116.out (by decide)) (fun _ hk => hk.2) (.string ((rd_T43 l0_0 x4_1).f0))) (fun _ hk => hk.2) (.int .i64 ((rd_T43 l0_0 x4_1).f1))) (fun _ hk => hk.2) (.bool (true))) (fun _ hk => hk.2) (.string ((rd_T43 l0_0 x4_1).f3))) (fun _ hk => trivial)⟩
     have n1_ : Aside0 (((((w13.setCell ⟨gb116, 0, none⟩ (.string ((rd_T43 l0_0 x4_1).f0))).setCell ⟨gb116, 1, none⟩ (.int .i64 ((rd_T43 l0_0 x4_1).f1))).setCell ⟨gb116, 2, none⟩ (.bool (true))).setCell ⟨gb116, 3, none⟩ (.string ((rd_T43 l0_0 x4_1).f3))).heap[gb111]? = some (.cells #[.slice (some ad115) l0_0.length c0_0] 26 (0, 0))) := ⟨by (with_reducible repeat (first | refine blk_drewN ?_ _ | refine blk_drew ?_ | refine blk_alloc ?_ _)); refine blk_far ?_ NB111_116.out _; (with_reducible repeat (first | refine blk_drewN ?_ _ | refine blk_drew ?_ | refine blk_alloc ?_ _)); refine blk_far ?_ NB111_116.out _; (with_reducible repeat (first | refine blk_drewN ?_ _ | refine blk_drew ?_ | refine blk_alloc ?_ _)); refine blk_far ?_ NB111_116.out _; (with_reducible repeat (first | refine blk_drewN ?_ _ | refine blk_drew ?_ | refine blk_alloc ?_ _)); refine blk_far ?_ NB111_116.out _; (with_reducible repeat (first | refine blk_drewN ?_ _ | refine blk_drew ?_ | refine blk_alloc ?_ _)); exact BK111.out⟩
     have n2_ : Aside0 (((((w13.setCell ⟨gb116, 0, none⟩ (.string ((rd_T43 l0_0 x4_1).f0))).setCell ⟨gb116, 1, none⟩ (.int .i64 ((rd_T43 l0_0 x4_1).f1))).setCell ⟨gb116, 2, none⟩ (.bool (true))).setCell ⟨gb116, 3, none⟩ (.string ((rd_T43 l0_0 x4_1).f3))).heap[gb116]? = some (.cells #[.string ((rd_T43 l0_0 x4_1).f0), .int .i64 ((rd_T43 l0_0 x4_1).f1), .bool true, .string ((rd_T43 l0_0 x4_1).f3)] 43 (0, 0))) := ⟨by (with_reducible repeat (first | refine blk_drewN ?_ _ | refine blk_drew ?_ | refine blk_alloc ?_ _)); refine blk_put (cs := #[.string ((rd_T43 l0_0 x4_1).f0), .int .i64 ((rd_T43 l0_0 x4_1).f1), .bool (true), .string (⟨#[]⟩ : ByteArray)]) ?_ 3 _ rfl; (with_reducible repeat (first | refine blk_drewN ?_ _ | refine blk_drew ?_ | refine blk_alloc ?_ _)); refine blk_put (cs := #[.string ((rd_T43 l0_0 x4_1).f0), .int .i64 ((rd_T43 l0_0 x4_1).f1), .bool false, .string (⟨#[]⟩ : ByteArray)]) ?_ 2 _ rfl; (with_reducible repeat (first | refine blk_drewN ?_ _ | refine blk_drew ?_ | refine blk_alloc ?_ _)); refine blk_put (cs := #[.string ((rd_T43 l0_0 x4_1).f0), .int .i64 0, .bool false, .string (⟨#[]⟩ : ByteArray)]) ?_ 1 _ rfl; (with_reducible repeat (first | refine blk_drewN ?_ _ | refine blk_drew ?_ | refine blk_alloc ?_ _)); refine blk_put (cs := #[.string (⟨#[]⟩ : ByteArray), .int .i64 0, .bool false, .string (⟨#[]⟩ : ByteArray)]) ?_ 0 _ rfl; (with_reducible repeat (first | refine blk_drewN ?_ _ | refine blk_drew ?_ | refine blk_alloc ?_ _)); exact BK116.out⟩
     have n3_ : Aside0 (Below w.heap.size w ((((w13.setCell ⟨gb116, 0, none⟩ (.string ((rd_T43 l0_0 x4_1).f0))).setCell ⟨gb116, 1, none⟩ (.int .i64 ((rd_T43 l0_0 x4_1).f1))).setCell ⟨gb116, 2, none⟩ (.bool (true))).setCell ⟨gb116, 3, none⟩ (.string ((rd_T43 l0_0 x4_1).f3)))) := ⟨by repeat (first | (with_reducible first | exact HB.out | apply below_alloc | apply pw_below_drewN | apply below_drew1 | refine below_set ?_ GE111.out | refine below_set ?_ GE116.out) | exact HB.out)⟩
     (try clear HO_3)
     (try clear BK111)
     (try clear BK116)
     (try clear HB)
     generalize ((((w13.setCell ⟨gb116, 0, none⟩ (.string ((rd_T43 l0_0 x4_1).f0))).setCell ⟨gb116, 1, none⟩ (.int .i64 ((rd_T43 l0_0 x4_1).f1))).setCell ⟨gb116, 2, none⟩ (.bool (true))).setCell ⟨gb116, 3, none⟩ (.string ((rd_T43 l0_0 x4_1).f3))) = w46 at n0_ n1_ n2_ n3_ ⊢
     have HO_3 := n0_
     have BK111 := n1_
     have BK116 := n2_
     have HB := n3_
     clear n0_ n1_ n2_ n3_
     have n0_ := Aside0.mk (Kd.R_drew HO_3.out)
     have n1_ := Aside0.mk (blk_drew BK111.out)
     have n2_ := Aside0.mk (blk_drew BK116.out)
     have n3_ := Aside0.mk (below_drew1 HB.out)
     clear HO_3
     clear BK111
     clear BK116
     clear HB
     have HO_3 := n0_
     have BK111 := n1_
     have BK116 := n2_
     have HB := n3_
     clear n0_ n1_ n2_ n3_
     obtain ⟨Ao48, co48, eo48⟩ := Kd.R_slice HO_3.out
     (first | subst eo48 | (injection eo48 with f1_ f2_ f3_; have f4_ := f1_.symm; have f5_ := f3_.symm; clear f1_ f2_ f3_; subst f4_; subst f5_))
     refine start_ (n := 51) (S := fun w' => w'.cell? ⟨gb116, 0, none⟩ = some (.string ((rd_T43 l0_0 x4_1).f0)) ∧ w'.cell? ⟨gb116, 1, none⟩ = some (.int .i64 ((rd_T43 l0_0 x4_1).f1)) ∧ w'.cell? ⟨gb116, 2, none⟩ = some (.bool true) ∧ w'.cell? ⟨gb116, 3, none⟩ = some (.string ((rd_T43 l0_0 x4_1).f3))) (ds := []) zf20 (by kernel_rfl) rfl rfl ⟨(blk_cell BK116.out 0).trans rfl, (blk_cell BK116.out 1).trans rfl, (blk_cell BK116.out 2).trans rfl, (blk_cell BK116.out 3).trans rfl⟩ (fun hHeld => ?_); refine with_tabW spec_RunFault.tab8 spec_RunFault.bits8 (fun HT_ HW_ => ?_)
     generalize w46.drew = w47 at HO_3 BK111 BK116 HB hHeld ⊢
     refine Cap.pu (v := ?_) (a' := ?_) 0 (some 23) zf21 HT_ rfl rfl (by kernel_rfl) (fun _ _ _ h => h) (Or.inl ⟨by rfl, ?_⟩) ?_ ?_; rotate_left; intro w'; go_simp; with_reducible rfl; rotate_left; simp only [Cap.pz]; rfl
     refine take_ (i := 1) (N := some 24) (v := ?_) (a' := ?_) zf22 rfl rfl (take_ofW HT_.out HW_.out (by kernel_rfl)) (fun _ _ _ h => h) (Or.inl ⟨by rfl, ?_⟩) hHeld ?_ ?_; rotate_left; rintro w' ⟨s0, s1, s2, s3⟩; go_simp; with_reducible rfl; rotate_left; simp only [Cap.pz]; rfl
     refine Cap.pu (v := ?_) (a' := ?_) 2 (some 25) zf23 HT_ rfl rfl (by kernel_rfl) (fun _ _ _ h => h) (Or.inl ⟨by rfl, ?_⟩) ?_ ?_; rotate_left; intro w'; go_simp; with_reducible rfl; rotate_left; simp only [Cap.pz]; rfl
     refine Cap.pu (v := ?_) (a' := ?_) 3 (some 26) zf24 HT_ rfl rfl (by kernel_rfl) (fun _ _ _ h => h) (Or.inl ⟨by rfl, ?_⟩) ?_ ?_; rotate_left; intro w'; go_simp; with_reducible rfl; rotate_left; simp only [Cap.pz]; rfl
     refine Cap.pu (v := ?_) (a' := ?_) 4 (some 27) zf25 HT_ rfl rfl (by kernel_rfl) (fun _ _ _ h => h) (Or.inl ⟨by rfl, ?_⟩) ?_ ?_; rotate_left; intro w'; go_simp; with_reducible rfl; rotate_left; simp only [Cap.pz]; rfl
     refine Cap.pu (v := ?_) (a' := ?_) 5 (some 28) zf26 HT_ rfl rfl (by kernel_rfl) (fun _ _ _ h => h) (Or.inl ⟨by rfl, ?_⟩) ?_ ?_; rotate_left; intro w'; go_simp; with_reducible rfl; rotate_left; simp only [Cap.pz]; rfl
     refine take_ (i := 6) (N := some 29) (v := ?_) (a' := ?_) zf27 rfl rfl (take_ofW HT_.out HW_.out (by kernel_rfl)) (fun _ _ _ h => h) (Or.inl ⟨by rfl, ?_⟩) hHeld ?_ ?_; rotate_left; rintro w' ⟨s0, s1, s2, s3⟩; go_simp; with_reducible rfl; rotate_left; simp only [Cap.pz]; rfl
     refine Cap.pu (v := ?_) (a' := ?_) 7 (some 30) zf28 HT_ rfl rfl (by kernel_rfl) (fun _ _ _ h => h) (Or.inl ⟨by rfl, ?_⟩) ?_ ?_; rotate_left; intro w'; go_simp; with_reducible rfl; rotate_left; simp only [Cap.pz]; rfl
     refine Cap.pu (v := ?_) (a' := ?_) 8 (some 31) zf29 HT_ rfl rfl (by kernel_rfl) (fun _ _ _ h => h) (Or.inl ⟨by rfl, ?_⟩) ?_ ?_; rotate_left; intro w'; go_simp; with_reducible rfl; rotate_left; simp only [Cap.pz]; rfl
     refine Cap.pu (v := ?_) (a' := ?_) 9 (some 32) zf30 HT_ rfl rfl (by kernel_rfl) (fun _ _ _ h => h) (Or.inl ⟨by rfl, ?_⟩) ?_ ?_; rotate_left; intro w'; go_simp; with_reducible rfl; rotate_left; simp only [Cap.pz]; rfl
     refine Cap.pu (v := ?_) (a' := ?_) 10 (some 33) zf31 HT_ rfl rfl (by kernel_rfl) (fun _ _ _ h => h) (Or.inl ⟨by rfl, ?_⟩) ?_ ?_; rotate_left; intro w'; go_simp; with_reducible rfl; rotate_left; simp only [Cap.pz]; rfl
     refine Cap.pu (v := ?_) (a' := ?_) 11 (some 34) zf32 HT_ rfl rfl (by kernel_rfl) (fun _ _ _ h => h) (Or.inl ⟨by rfl, ?_⟩) ?_ ?_; rotate_left; intro w'; go_simp; with_reducible rfl; rotate_left; simp only [Cap.pz]; rfl
     refine take_ (i := 12) (N := some 35) (v := ?_) (a' := ?_) zf33 rfl rfl (take_ofW HT_.out HW_.out (by kernel_rfl)) (fun _ _ _ h => h) (Or.inl ⟨by rfl, ?_⟩) hHeld ?_ ?_; rotate_left; rintro w' ⟨s0, s1, s2, s3⟩; go_simp; with_reducible rfl; rotate_left; simp only [Cap.pz]; rfl
     refine Cap.pu (v := ?_) (a' := ?_) 13 (some 36) zf34 HT_ rfl rfl (by kernel_rfl) (fun _ _ _ h => h) (Or.inl ⟨by rfl, ?_⟩) ?_ ?_; rotate_left; intro w'; go_simp; with_reducible rfl; rotate_left; simp only [Cap.pz]; rfl
     refine Cap.pu (v := ?_) (a' := ?_) 14 (some 37) zf35 HT_ rfl rfl (by kernel_rfl) (fun _ _ _ h => h) (Or.inl ⟨by rfl, ?_⟩) ?_ ?_; rotate_left; intro w'; go_simp; with_reducible rfl; rotate_left; simp only [Cap.pz]; rfl
     refine Cap.pu (v := ?_) (a' := ?_) 15 (some 38) zf36 HT_ rfl rfl (by kernel_rfl) (fun _ _ _ h => h) (Or.inl ⟨by rfl, ?_⟩) ?_ ?_; rotate_left; intro w'; go_simp; with_reducible rfl; rotate_left; simp only [Cap.pz]; rfl
     refine Cap.pu (v := ?_) (a' := ?_) 16 (some 39) zf37 HT_ rfl rfl (by kernel_rfl) (fun _ _ _ h => h) (Or.inl ⟨by rfl, ?_⟩) ?_ ?_; rotate_left; intro w'; go_simp; with_reducible rfl; rotate_left; simp only [Cap.pz]; rfl
     refine take_ (i := 17) (N := some 40) (v := ?_) (a' := ?_) zf38 rfl rfl (take_ofW HT_.out HW_.out (by kernel_rfl)) (fun _ _ _ h => h) (Or.inl ⟨by rfl, ?_⟩) hHeld ?_ ?_; rotate_left; rintro w' ⟨s0, s1, s2, s3⟩; go_simp; with_reducible rfl; rotate_left; simp only [Cap.pz]; rfl
     refine Cap.pu (v := ?_) (a' := ?_) 18 (some 41) zf39 HT_ rfl rfl (by kernel_rfl) (fun _ _ _ h => h) (Or.inl ⟨by rfl, ?_⟩) ?_ ?_; rotate_left; intro w'; go_simp; with_reducible rfl; rotate_left; simp only [Cap.pz]; rfl
     refine Cap.pu (v := ?_) (a' := ?_) 19 (some 42) zf40 HT_ rfl rfl (by kernel_rfl) (fun _ _ _ h => h) (Or.inl ⟨by rfl, ?_⟩) ?_ ?_; rotate_left; intro w'; go_simp; with_reducible rfl; rotate_left; simp only [Cap.pz]; rfl
     refine take_ (i := 20) (N := some 43) (v := ?_) (a' := ?_) zf41 rfl rfl (take_ofW HT_.out HW_.out (by kernel_rfl)) (fun _ _ _ h => h) (Or.inl ⟨by rfl, ?_⟩) hHeld ?_ ?_; rotate_left; rintro w' ⟨s0, s1, s2, s3⟩; go_simp; with_reducible rfl; rotate_left; simp only [Cap.pz]; rfl
     refine Cap.pu (v := ?_) (a' := ?_) 21 (some 44) zf42 HT_ rfl rfl (by kernel_rfl) (fun _ _ _ h => h) (Or.inl ⟨by rfl, ?_⟩) ?_ ?_; rotate_left; intro w'; go_simp; with_reducible rfl; rotate_left; simp only [Cap.pz]; rfl
     refine Cap.pu (v := ?_) (a' := ?_) 22 (some 45) zf43 HT_ rfl rfl (by kernel_rfl) (fun _ _ _ h => h) (Or.inl ⟨by rfl, ?_⟩) ?_ ?_; rotate_left; intro w'; go_simp; with_reducible rfl; rotate_left; simp only [Cap.pz]; rfl
     refine Cap.pu (v := ?_) (a' := ?_) 23 (some 46) zf44 HT_ rfl rfl (by kernel_rfl) (fun _ _ _ h => h) (Or.inl ⟨by rfl, ?_⟩) ?_ ?_; rotate_left; intro w'; go_simp; with_reducible rfl; rotate_left; simp only [Cap.pz]; rfl
     refine Cap.pu (v := ?_) (a' := ?_) 24 (some 47) zf45 HT_ rfl rfl (by kernel_rfl) (fun _ _ _ h => h) (Or.inl ⟨by rfl, ?_⟩) ?_ ?_; rotate_left; intro w'; go_simp; with_reducible rfl; rotate_left; simp only [Cap.pz]; rfl
     refine Cap.pu (v := ?_) (a' := ?_) 25 (some 48) zf46 HT_ rfl rfl (by kernel_rfl) (fun _ _ _ h => h) (Or.inl ⟨by rfl, ?_⟩) ?_ ?_; rotate_left; intro w'; go_simp; with_reducible rfl; rotate_left; simp only [Cap.pz]; rfl
     refine take_ (i := 26) (N := some 49) (v := ?_) (a' := ?_) zf47 rfl rfl (take_ofW HT_.out HW_.out (by kernel_rfl)) (fun _ _ _ h => h) (Or.inl ⟨by rfl, ?_⟩) hHeld ?_ ?_; rotate_left; rintro w' ⟨s0, s1, s2, s3⟩; go_simp; with_reducible rfl; rotate_left; simp only [Cap.pz]; rfl
     refine Cap.pu (v := ?_) (a' := ?_) 27 (some 50) zf48 HT_ rfl rfl (by kernel_rfl) (fun _ _ _ h => h) (Or.inl ⟨by rfl, ?_⟩) ?_ ?_; rotate_left; intro w'; go_simp; with_reducible rfl; rotate_left; simp only [Cap.pz]; rfl
     refine Cap.pu (v := ?_) (a' := ?_) 28 (some 51) zf49 HT_ rfl rfl (by kernel_rfl) (fun _ _ _ h => h) (Or.inl ⟨by rfl, ?_⟩) ?_ ?_; rotate_left; intro w'; go_simp; with_reducible rfl; rotate_left; simp only [Cap.pz]; rfl
     refine Cap.pu (v := ?_) (a' := ?_) 29 (some 52) zf50 HT_ rfl rfl (by kernel_rfl) (fun _ _ _ h => h) (Or.inl ⟨by rfl, ?_⟩) ?_ ?_; rotate_left; intro w'; go_simp; with_reducible rfl; rotate_left; simp only [Cap.pz]; rfl
     refine Cap.pu (v := ?_) (a' := ?_) 30 (some 53) zf51 HT_ rfl rfl (by kernel_rfl) (fun _ _ _ h => h) (Or.inl ⟨by rfl, ?_⟩) ?_ ?_; rotate_left; intro w'; go_simp; with_reducible rfl; rotate_left; simp only [Cap.pz]; rfl
     refine Cap.pu (v := ?_) (a' := ?_) 31 (some 54) zf52 HT_ rfl rfl (by kernel_rfl) (fun _ _ _ h => h) (Or.inl ⟨by rfl, ?_⟩) ?_ ?_; rotate_left; intro w'; go_simp; with_reducible rfl; rotate_left; simp only [Cap.pz]; rfl
     refine Cap.pu (v := ?_) (a' := ?_) 32 (some 55) zf53 HT_ rfl rfl (by kernel_rfl) (fun _ _ _ h => h) (Or.inl ⟨by rfl, ?_⟩) ?_ ?_; rotate_left; intro w'; go_simp; with_reducible rfl; rotate_left; simp only [Cap.pz]; rfl
     refine Cap.pu (v := ?_) (a' := ?_) 33 (some 56) zf54 HT_ rfl rfl (by kernel_rfl) (fun _ _ _ h => h) (Or.inl ⟨by rfl, ?_⟩) ?_ ?_; rotate_left; intro w'; go_simp; with_reducible rfl; rotate_left; simp only [Cap.pz]; rfl
     refine Cap.pu (v := undef) (a' := ?_) 34 (some 57) zf55 HT_ rfl rfl (by kernel_rfl) (fun _ _ _ h => h) (Or.inr ⟨by rfl, rfl⟩) ?_ ?_; rotate_left; simp only [Cap.pz]; rfl
     refine Cap.pu (v := undef) (a' := ?_) 35 (some 58) zf56 HT_ rfl rfl (by kernel_rfl) (fun _ _ _ h => h) (Or.inr ⟨by rfl, rfl⟩) ?_ ?_; rotate_left; simp only [Cap.pz]; rfl
     refine Cap.pu (v := undef) (a' := ?_) 36 (some 59) zf57 HT_ rfl rfl (by kernel_rfl) (fun _ _ _ h => h) (Or.inr ⟨by rfl, rfl⟩) ?_ ?_; rotate_left; simp only [Cap.pz]; rfl
     refine Cap.pu (v := undef) (a' := ?_) 37 (some 60) zf58 HT_ rfl rfl (by kernel_rfl) (fun _ _ _ h => h) (Or.inr ⟨by rfl, rfl⟩) ?_ ?_; rotate_left; simp only [Cap.pz]; rfl
     refine Cap.pu (v := undef) (a' := ?_) 38 (some 61) zf59 HT_ rfl rfl (by kernel_rfl) (fun _ _ _ h => h) (Or.inr ⟨by rfl, rfl⟩) ?_ ?_; rotate_left; simp only [Cap.pz]; rfl
     refine Cap.pu (v := undef) (a' := ?_) 39 (some 62) zf60 HT_ rfl rfl (by kernel_rfl) (fun _ _ _ h => h) (Or.inr ⟨by rfl, rfl⟩) ?_ ?_; rotate_left; simp only [Cap.pz]; rfl
     refine Cap.pu (v := undef) (a' := ?_) 40 (some 63) zf61 HT_ rfl rfl (by kernel_rfl) (fun _ _ _ h => h) (Or.inr ⟨by rfl, rfl⟩) ?_ ?_; rotate_left; simp only [Cap.pz]; rfl
     refine Cap.pu (v := undef) (a' := ?_) 41 (some 64) zf62 HT_ rfl rfl (by kernel_rfl) (fun _ _ _ h => h) (Or.inr ⟨by rfl, rfl⟩) ?_ ?_; rotate_left; simp only [Cap.pz]; rfl
     refine Cap.pu (v := undef) (a' := ?_) 42 (some 65) zf63 HT_ rfl rfl (by kernel_rfl) (fun _ _ _ h => h) (Or.inr ⟨by rfl, rfl⟩) ?_ ?_; rotate_left; simp only [Cap.pz]; rfl
     refine Cap.pu (v := ?_) (a' := ?_) 43 (some 66) zf64 HT_ rfl rfl (by kernel_rfl) (fun _ _ _ h => h) (Or.inl ⟨by rfl, ?_⟩) ?_ ?_; rotate_left; intro w'; go_simp; with_reducible rfl; rotate_left; simp only [Cap.pz]; rfl
     refine Cap.pu (v := ?_) (a' := ?_) 44 (some 67) zf65 HT_ rfl rfl (by kernel_rfl) (fun _ _ _ h => h) (Or.inl ⟨by rfl, ?_⟩) ?_ ?_; rotate_left; intro w'; go_simp; with_reducible rfl; rotate_left; simp only [Cap.pz]; rfl
     refine Cap.pu (v := ?_) (a' := ?_) 45 (some 68) zf66 HT_ rfl rfl (by kernel_rfl) (fun _ _ _ h => h) (Or.inl ⟨by rfl, ?_⟩) ?_ ?_; rotate_left; intro w'; go_simp; with_reducible rfl; rotate_left; simp only [Cap.pz]; rfl
     refine Cap.pu (v := ?_) (a' := ?_) 46 (some 69) zf67 HT_ rfl rfl (by kernel_rfl) (fun _ _ _ h => h) (Or.inl ⟨by rfl, ?_⟩) ?_ ?_; rotate_left; intro w'; go_simp; with_reducible rfl; rotate_left; simp only [Cap.pz]; rfl
     refine Cap.pu (v := ?_) (a' := ?_) 47 (some 70) zf68 HT_ rfl rfl (by kernel_rfl) (fun _ _ _ h => h) (Or.inl ⟨by rfl, ?_⟩) ?_ ?_; rotate_left; intro w'; go_simp; with_reducible rfl; rotate_left; simp only [Cap.pz]; rfl
     refine take_ (i := 48) (N := some 71) (v := ?_) (a' := ?_) zf69 rfl rfl (take_ofW HT_.out HW_.out (by kernel_rfl)) (fun _ _ _ h => h) (Or.inl ⟨by rfl, ?_⟩) hHeld ?_ ?_; rotate_left; rintro w' ⟨s0, s1, s2, s3⟩; go_simp; with_reducible rfl; rotate_left; simp only [Cap.pz]; rfl
     refine one_ (i := 49) (N := some 72) zf70 rfl rfl (one_of HT_.out (by kernel_rfl)) (by decide) (fun K hK => ?_)
     refine goes_ Try.func24 (by kernel_rfl) rfl #[.slice Ao48 x3_1.length co48, .int .i64 ((rd_T43 l0_0 x4_1).f1)] (by rfl) rfl rfl (by (try simp only [List.map_toArray, List.map_cons, List.map_nil]); first | done | rfl | (simp only [List.length_drop, List.length_take]; rfl)) ?_
     with_reducible refine (spec_l01InInts.calls k1 _ _ x3_1 ((rd_T43 l0_0 x4_1).f1) t120 _ ?side1 ?side2 A45.out).mono ?_
     (case side1 => repeat (first | exact (Kd.R_reads' HO_3.out).2.2 | (with_reducible refine Kd.C_alloc ?_ _) | (with_reducible refine Kd.C_drewN ?_ _) | (with_reducible refine Kd.C_drew ?_)))
     (case side2 => exact (Kd.R_reads' HO_3.out).2.1)
     rintro e w' ⟨rfl, ⟨nd, rfl⟩⟩
     refine ⟨_, rfl, ?_⟩
     refine hK.out _ _ ⟨(blk_cell BK116.out 0).trans rfl, (blk_cell BK116.out 1).trans rfl, (blk_cell BK116.out 2).trans rfl, (blk_cell BK116.out 3).trans rfl⟩ (fun hHeld => ?_)
     clear hK K
     refine norm_ (a' := ?_) ?_ ?_; rotate_left; show Act.put _ (some 72) _ = _; simp only [Cap.pz]; rfl
     refine Cap.pu (v := ?_) (a' := ?_) 50 (some 73) zf71 HT_ rfl rfl (by kernel_rfl) (fun _ _ _ h => h) (Or.inl ⟨by rfl, ?_⟩) ?_ ?_; rotate_left; intro w'; go_simp; with_reducible rfl; rotate_left; simp only [Cap.pz]; rfl
     refine done_ (done_of HT_.out (by kernel_rfl)) ?_
     try go_wp2
     go_meet
     case rel => (try rw [← Nbq25.out]); exact ⟨_, (t120), (by first | rfl | (simp; done) | (simp [*]; done)), H', ⟨by have := HK1.out; first | omega | exact Nat.le_refl _⟩, ⟨by first | exact Grow.rg HO_3.out | exact HO_3.out⟩, ⟨by first | exact Grow.bk BK111.out | exact BK111.out⟩, ⟨by first | exact Grow.bk BK116.out | exact BK116.out⟩, ⟨by repeat (first | (with_reducible first | exact HB.out | apply below_alloc | apply pw_below_drewN | apply below_drew1 | refine below_set ?_ GE111.out | refine below_set ?_ GE116.out) | exact HB.out)⟩⟩
    rw [if_pos c31] at H
    have c31b0 : decide (0 < x4_1) = true := decide_eq_true c31
    clear c31
    obtain ⟨ji32, hji32⟩ : ∃ j_ : Int, (wrap64 (x4_1 - 1)) = j_ := ⟨_, rfl⟩
    replace H : (if 0 ≤ (ji32) then (if (ji32) < (l0_0.length : Int) then ((spec_l08Less.f ((rd_T43 l0_0 (ji32)).f0) ((rd_T43 l0_0 (ji32)).f1) ((rd_T43 l0_0 (ji32)).f2) ((rd_T43 l0_0 (ji32)).f3) ((rd_T43 l0_0 x4_1).f0) ((rd_T43 l0_0 x4_1).f1) (true) ((rd_T43 l0_0 x4_1).f3)).bind fun t118 => (if t118 = true then ((spec_l01InInts.f k1 x3_1 ((rd_T43 l0_0 x4_1).f1)).bind fun t119 => (spec_RunFault.j1 k1 x3_1 x4_1 t119 l0_0 ((rd_T43 l0_0 x4_1).f0) ((rd_T43 l0_0 x4_1).f1) true ((rd_T43 l0_0 x4_1).f3))) else (spec_RunFault.j1 k1 x3_1 x4_1 true l0_0 ((rd_T43 l0_0 x4_1).f0) ((rd_T43 l0_0 x4_1).f1) true ((rd_T43 l0_0 x4_1).f3)))) else (none)) else (none)) = some r := by first | (rw [hji32] at H; exact H) | (simp only [hji32] at H ⊢; exact H)
    have hji32w : (IntKind.i64.wrap (x4_1 - 1)) = ji32 := (i64_w _).trans hji32
    by_cases c33 : 0 ≤ (ji32)
    rotate_left
    ·
     rw [if_neg c33] at H
     exact absurd H (by simp)
    rw [if_pos c33] at H
    have c33b0 : decide (0 ≤ (ji32)) = true := decide_eq_true c33
    clear c33
    by_cases c34 : (ji32) < (l0_0.length : Int)
    rotate_left
    ·
     rw [if_neg c34] at H
     exact absurd H (by simp)
    rw [if_pos c34] at H
    have c34b0 : decide ((ji32) < (l0_0.length : Int)) = true := decide_eq_true c34
    clear c34
    replace H := Option.bind_eq_some_iff.mp H
    obtain ⟨t118, A350, H⟩ := H
    replace H : (if t118 = true then ((spec_l01InInts.f k1 x3_1 ((rd_T43 l0_0 x4_1).f1)).bind fun t119 => (spec_RunFault.j1 k1 x3_1 x4_1 t119 l0_0 ((rd_T43 l0_0 x4_1).f0) ((rd_T43 l0_0 x4_1).f1) true ((rd_T43 l0_0 x4_1).f3))) else (spec_RunFault.j1 k1 x3_1 x4_1 true l0_0 ((rd_T43 l0_0 x4_1).f0) ((rd_T43 l0_0 x4_1).f1) true ((rd_T43 l0_0 x4_1).f3))) = some r := H
    have A35 := Aside0.mk A350
    clear A350
    by_cases c36 : t118 = true
    rotate_left
    ·
     replace c36 := Bool.eq_false_iff.mpr c36
     subst c36
     have H1 : (spec_RunFault.j1 k1 x3_1 x4_1 true l0_0 ((rd_T43 l0_0 x4_1).f0) ((rd_T43 l0_0 x4_1).f1) true ((rd_T43 l0_0 x4_1).f3)) = some r := by rw [if_neg (show ¬ (false = true) by decide)] at H; exact H
     clear H
     have H := H1
     clear H1
     have H' := Aside0.mk H
     clear H
     try go_wp2
     have n0_ : Aside0 (Kd.R (Kd.int .i64) 2 ((((w13.setCell ⟨gb116, 0, none⟩ (.string ((rd_T43 l0_0 x4_1).f0))).setCell ⟨gb116, 1, none⟩ (.int .i64 ((rd_T43 l0_0 x4_1).f1))).setCell ⟨gb116, 2, none⟩ (.bool (true))).setCell ⟨gb116, 3, none⟩ (.string ((rd_T43 l0_0 x4_1).f3))) w.heap.size (fun _ => True) u3 x3_1) := ⟨by (with_reducible repeat (first | apply Kd.R_alloc | apply Kd.R_drewN | apply Kd.R_drew)); exact Kd.R_mono (Kd.R_far (p := ⟨gb116, 3, none⟩) (Kd.R_far (p := ⟨gb116, 2, none⟩) (Kd.R_far (p := ⟨gb116, 1, none⟩) (Kd.R_far (p := ⟨gb116, 0, none⟩) (Kd.R_types HO_3.out BK116.out (by decide)) (fun _ hk => hk.2) (.string ((rd_T43 l0_0 x4_1).f0))) (fun _ hk => hk.2) (.int .i64 ((rd_T43 l0_0 x4_1).f1))) (fun _ hk => hk.2) (.bool (true))) (fun _ hk => hk.2) (.string ((rd_T43 l0_0 x4_1).f3))) (fun _ hk => trivial)⟩
     have n1_ : Aside0 (((((w13.setCell ⟨gb116, 0, none⟩ (.string ((rd_T43 l0_0 x4_1).f0))).setCell ⟨gb116, 1, none⟩ (.int .i64 ((rd_T43 l0_0 x4_1).f1))).setCell ⟨gb116, 2, none⟩ (.bool (true))).setCell ⟨gb116, 3, none⟩ (.string ((rd_T43 l0_0 x4_1).f3))).heap[gb111]? = some (.cells #[.slice (some ad115) l0_0.length c0_0] 26 (0, 0))) := ⟨by (with_reducible repeat (first | refine blk_drewN ?_ _ | refine blk_drew ?_ | refine blk_alloc ?_ _)); refine blk_far ?_ NB111_116.out _; (with_reducible repeat (first | refine blk_drewN ?_ _ | refine blk_drew ?_ | refine blk_alloc ?_ _)); refine blk_far ?_ NB111_116.out _; (with_reducible repeat (first | refine blk_drewN ?_ _ | refine blk_drew ?_ | refine blk_alloc ?_ _)); refine blk_far ?_ NB111_116.out _; (with_reducible repeat (first | refine blk_drewN ?_ _ | refine blk_drew ?_ | refine blk_alloc ?_ _)); refine blk_far ?_ NB111_116.out _; (with_reducible repeat (first | refine blk_drewN ?_ _ | refine blk_drew ?_ | refine blk_alloc ?_ _)); exact BK111.out⟩
     have n2_ : Aside0 (((((w13.setCell ⟨gb116, 0, none⟩ (.string ((rd_T43 l0_0 x4_1).f0))).setCell ⟨gb116, 1, none⟩ (.int .i64 ((rd_T43 l0_0 x4_1).f1))).setCell ⟨gb116, 2, none⟩ (.bool (true))).setCell ⟨gb116, 3, none⟩ (.string ((rd_T43 l0_0 x4_1).f3))).heap[gb116]? = some (.cells #[.string ((rd_T43 l0_0 x4_1).f0), .int .i64 ((rd_T43 l0_0 x4_1).f1), .bool true, .string ((rd_T43 l0_0 x4_1).f3)] 43 (0, 0))) := ⟨by (with_reducible repeat (first | refine blk_drewN ?_ _ | refine blk_drew ?_ | refine blk_alloc ?_ _)); refine blk_put (cs := #[.string ((rd_T43 l0_0 x4_1).f0), .int .i64 ((rd_T43 l0_0 x4_1).f1), .bool (true), .string (⟨#[]⟩ : ByteArray)]) ?_ 3 _ rfl; (with_reducible repeat (first | refine blk_drewN ?_ _ | refine blk_drew ?_ | refine blk_alloc ?_ _)); refine blk_put (cs := #[.string ((rd_T43 l0_0 x4_1).f0), .int .i64 ((rd_T43 l0_0 x4_1).f1), .bool false, .string (⟨#[]⟩ : ByteArray)]) ?_ 2 _ rfl; (with_reducible repeat (first | refine blk_drewN ?_ _ | refine blk_drew ?_ | refine blk_alloc ?_ _)); refine blk_put (cs := #[.string ((rd_T43 l0_0 x4_1).f0), .int .i64 0, .bool false, .string (⟨#[]⟩ : ByteArray)]) ?_ 1 _ rfl; (with_reducible repeat (first | refine blk_drewN ?_ _ | refine blk_drew ?_ | refine blk_alloc ?_ _)); refine blk_put (cs := #[.string (⟨#[]⟩ : ByteArray), .int .i64 0, .bool false, .string (⟨#[]⟩ : ByteArray)]) ?_ 0 _ rfl; (with_reducible repeat (first | refine blk_drewN ?_ _ | refine blk_drew ?_ | refine blk_alloc ?_ _)); exact BK116.out⟩
     have n3_ : Aside0 (Below w.heap.size w ((((w13.setCell ⟨gb116, 0, none⟩ (.string ((rd_T43 l0_0 x4_1).f0))).setCell ⟨gb116, 1, none⟩ (.int .i64 ((rd_T43 l0_0 x4_1).f1))).setCell ⟨gb116, 2, none⟩ (.bool (true))).setCell ⟨gb116, 3, none⟩ (.string ((rd_T43 l0_0 x4_1).f3)))) := ⟨by repeat (first | (with_reducible first | exact HB.out | apply below_alloc | apply pw_below_drewN | apply below_drew1 | refine below_set ?_ GE111.out | refine below_set ?_ GE116.out) | exact HB.out)⟩
     (try clear HO_3)
     (try clear BK111)
     (try clear BK116)
     (try clear HB)
     generalize ((((w13.setCell ⟨gb116, 0, none⟩ (.string ((rd_T43 l0_0 x4_1).f0))).setCell ⟨gb116, 1, none⟩ (.int .i64 ((rd_T43 l0_0 x4_1).f1))).setCell ⟨gb116, 2, none⟩ (.bool (true))).setCell ⟨gb116, 3, none⟩ (.string ((rd_T43 l0_0 x4_1).f3))) = w42 at n0_ n1_ n2_ n3_ ⊢
     have HO_3 := n0_
     have BK111 := n1_
     have BK116 := n2_
     have HB := n3_
     clear n0_ n1_ n2_ n3_
     have n0_ := Aside0.mk (Kd.R_drew HO_3.out)
     have n1_ := Aside0.mk (blk_drew BK111.out)
     have n2_ := Aside0.mk (blk_drew BK116.out)
     have n3_ := Aside0.mk (below_drew1 HB.out)
     clear HO_3
     clear BK111
     clear BK116
     clear HB
     have HO_3 := n0_
     have BK111 := n1_
     have BK116 := n2_
     have HB := n3_
     clear n0_ n1_ n2_ n3_
     have p117 : 0 ≤ ((ji32) : Int) := of_decide_eq_true (by first | (with_reducible assumption) | assumption)
     have q117 : (ji32) < (l0_0.length : Int) := of_decide_eq_true (by first | (with_reducible assumption) | assumption)
     obtain ⟨ad117, e117, hx117_0, hx117_1, hx117_2, hx117_3⟩ := at_T43 HR0_0.out (ji32) p117 q117
     have hw117_3 := hx117_3
     have hw117_2 := hx117_2
     have hw117_1 := hx117_1
     have hw117_0 := hx117_0
     (try rw [← Nbq25.out] at hx117_2)
     obtain rfl : ad115 = ad117 := (by injection e117)
     replace hx117_0 := Grow.bc HB.out hx117_0
     replace hx117_1 := Grow.bc HB.out hx117_1
     replace hx117_2 := Grow.bc HB.out hx117_2
     replace hx117_3 := Grow.bc HB.out hx117_3
     replace p117 := eq_true p117
     replace q117 := eq_true q117
     refine start_ (n := 51) (S := fun w' => w'.cell? ⟨gb116, 0, none⟩ = some (.string ((rd_T43 l0_0 x4_1).f0)) ∧ w'.cell? ⟨gb116, 1, none⟩ = some (.int .i64 ((rd_T43 l0_0 x4_1).f1)) ∧ w'.cell? ⟨gb116, 2, none⟩ = some (.bool true) ∧ w'.cell? ⟨gb116, 3, none⟩ = some (.string ((rd_T43 l0_0 x4_1).f3)) ∧ w'.cell? ⟨gb111, 0, none⟩ = some (.slice (some ad115) l0_0.length c0_0) ∧ w'.cell? (ad115.add (((ji32)).toNat * 4)) = some (.string ((rd_T43 l0_0 (ji32)).f0)) ∧ w'.cell? ⟨(ad115.add (((ji32)).toNat * 4)).block, (ad115.add (((ji32)).toNat * 4)).off + 1, none⟩ = some (.int .i64 ((rd_T43 l0_0 (ji32)).f1)) ∧ w'.cell? ⟨(ad115.add (((ji32)).toNat * 4)).block, (ad115.add (((ji32)).toNat * 4)).off + 2, none⟩ = some (.bool ((rd_T43 l0_0 (ji32)).f2)) ∧ w'.cell? ⟨(ad115.add (((ji32)).toNat * 4)).block, (ad115.add (((ji32)).toNat * 4)).off + 3, none⟩ = some (.string ((rd_T43 l0_0 (ji32)).f3))) (ds := []) zf20 (by kernel_rfl) rfl rfl ⟨(blk_cell BK116.out 0).trans rfl, (blk_cell BK116.out 1).trans rfl, (blk_cell BK116.out 2).trans rfl, (blk_cell BK116.out 3).trans rfl, (blk_cell BK111.out 0).trans rfl, ((HB.out.cell (World.block_lt_of_cell? w _ hw117_0)).trans hw117_0), ((HB.out.cell (World.block_lt_of_cell? w _ hw117_1)).trans hw117_1), ((HB.out.cell (World.block_lt_of_cell? w _ hw117_2)).trans hw117_2), ((HB.out.cell (World.block_lt_of_cell? w _ hw117_3)).trans hw117_3)⟩ (fun hHeld => ?_); refine with_tabW spec_RunFault.tab8 spec_RunFault.bits8 (fun HT_ HW_ => ?_)
     generalize w42.drew = w43 at HO_3 BK111 BK116 HB hx117_0 hx117_1 hx117_2 hx117_3 hHeld ⊢
     refine Cap.pu (v := ?_) (a' := ?_) 0 (some 23) zf21 HT_ rfl rfl (by kernel_rfl) (fun _ _ _ h => h) (Or.inl ⟨by rfl, ?_⟩) ?_ ?_; rotate_left; intro w'; go_simp; with_reducible rfl; rotate_left; simp only [Cap.pz]; rfl
     refine take_ (i := 1) (N := some 24) (v := ?_) (a' := ?_) zf22 rfl rfl (take_ofW HT_.out HW_.out (by kernel_rfl)) (fun _ _ _ h => h) (Or.inl ⟨by rfl, ?_⟩) hHeld ?_ ?_; rotate_left; rintro w' ⟨s0, s1, s2, s3, s4, s5, s6, s7, s8⟩; go_simp; with_reducible rfl; rotate_left; simp only [Cap.pz]; rfl
     refine Cap.pu (v := ?_) (a' := ?_) 2 (some 25) zf23 HT_ rfl rfl (by kernel_rfl) (fun _ _ _ h => h) (Or.inl ⟨by rfl, ?_⟩) ?_ ?_; rotate_left; intro w'; go_simp; with_reducible rfl; rotate_left; simp only [Cap.pz]; rfl
     refine Cap.pu (v := ?_) (a' := ?_) 3 (some 26) zf24 HT_ rfl rfl (by kernel_rfl) (fun _ _ _ h => h) (Or.inl ⟨by rfl, ?_⟩) ?_ ?_; rotate_left; intro w'; go_simp; with_reducible rfl; rotate_left; simp only [Cap.pz]; rfl
     refine Cap.pu (v := ?_) (a' := ?_) 4 (some 27) zf25 HT_ rfl rfl (by kernel_rfl) (fun _ _ _ h => h) (Or.inl ⟨by rfl, ?_⟩) ?_ ?_; rotate_left; intro w'; go_simp; with_reducible rfl; rotate_left; simp only [Cap.pz]; rfl
     refine Cap.pu (v := ?_) (a' := ?_) 5 (some 28) zf26 HT_ rfl rfl (by kernel_rfl) (fun _ _ _ h => h) (Or.inl ⟨by rfl, ?_⟩) ?_ ?_; rotate_left; intro w'; go_simp; with_reducible rfl; rotate_left; simp only [Cap.pz]; rfl
     refine take_ (i := 6) (N := some 29) (v := ?_) (a' := ?_) zf27 rfl rfl (take_ofW HT_.out HW_.out (by kernel_rfl)) (fun _ _ _ h => h) (Or.inl ⟨by rfl, ?_⟩) hHeld ?_ ?_; rotate_left; rintro w' ⟨s0, s1, s2, s3, s4, s5, s6, s7, s8⟩; go_simp; with_reducible rfl; rotate_left; simp only [Cap.pz]; rfl
     refine Cap.pu (v := ?_) (a' := ?_) 7 (some 30) zf28 HT_ rfl rfl (by kernel_rfl) (fun _ _ _ h => h) (Or.inl ⟨by rfl, ?_⟩) ?_ ?_; rotate_left; intro w'; go_simp; with_reducible rfl; rotate_left; simp only [Cap.pz]; rfl
     refine Cap.pu (v := ?_) (a' := ?_) 8 (some 31) zf29 HT_ rfl rfl (by kernel_rfl) (fun _ _ _ h => h) (Or.inl ⟨by rfl, ?_⟩) ?_ ?_; rotate_left; intro w'; go_simp; with_reducible rfl; rotate_left; simp only [Cap.pz]; rfl
     refine Cap.pu (v := ?_) (a' := ?_) 9 (some 32) zf30 HT_ rfl rfl (by kernel_rfl) (fun _ _ _ h => h) (Or.inl ⟨by rfl, ?_⟩) ?_ ?_; rotate_left; intro w'; go_simp; with_reducible rfl; rotate_left; simp only [Cap.pz]; rfl
     refine Cap.pu (v := ?_) (a' := ?_) 10 (some 33) zf31 HT_ rfl rfl (by kernel_rfl) (fun _ _ _ h => h) (Or.inl ⟨by rfl, ?_⟩) ?_ ?_; rotate_left; intro w'; go_simp; with_reducible rfl; rotate_left; simp only [Cap.pz]; rfl
     refine Cap.pu (v := ?_) (a' := ?_) 11 (some 34) zf32 HT_ rfl rfl (by kernel_rfl) (fun _ _ _ h => h) (Or.inl ⟨by rfl, ?_⟩) ?_ ?_; rotate_left; intro w'; go_simp; with_reducible rfl; rotate_left; simp only [Cap.pz]; rfl
     refine take_ (i := 12) (N := some 35) (v := ?_) (a' := ?_) zf33 rfl rfl (take_ofW HT_.out HW_.out (by kernel_rfl)) (fun _ _ _ h => h) (Or.inl ⟨by rfl, ?_⟩) hHeld ?_ ?_; rotate_left; rintro w' ⟨s0, s1, s2, s3, s4, s5, s6, s7, s8⟩; go_simp; with_reducible rfl; rotate_left; simp only [Cap.pz]; rfl
     refine Cap.pu (v := ?_) (a' := ?_) 13 (some 36) zf34 HT_ rfl rfl (by kernel_rfl) (fun _ _ _ h => h) (Or.inl ⟨by rfl, ?_⟩) ?_ ?_; rotate_left; intro w'; go_simp; with_reducible rfl; rotate_left; simp only [Cap.pz]; rfl
     refine Cap.pu (v := ?_) (a' := ?_) 14 (some 37) zf35 HT_ rfl rfl (by kernel_rfl) (fun _ _ _ h => h) (Or.inl ⟨by rfl, ?_⟩) ?_ ?_; rotate_left; intro w'; go_simp; with_reducible rfl; rotate_left; simp only [Cap.pz]; rfl
     refine Cap.pu (v := ?_) (a' := ?_) 15 (some 38) zf36 HT_ rfl rfl (by kernel_rfl) (fun _ _ _ h => h) (Or.inl ⟨by rfl, ?_⟩) ?_ ?_; rotate_left; intro w'; go_simp; with_reducible rfl; rotate_left; simp only [Cap.pz]; rfl
     refine Cap.pu (v := ?_) (a' := ?_) 16 (some 39) zf37 HT_ rfl rfl (by kernel_rfl) (fun _ _ _ h => h) (Or.inl ⟨by rfl, ?_⟩) ?_ ?_; rotate_left; intro w'; go_simp; with_reducible rfl; rotate_left; simp only [Cap.pz]; rfl
     refine take_ (i := 17) (N := some 40) (v := ?_) (a' := ?_) zf38 rfl rfl (take_ofW HT_.out HW_.out (by kernel_rfl)) (fun _ _ _ h => h) (Or.inl ⟨by rfl, ?_⟩) hHeld ?_ ?_; rotate_left; rintro w' ⟨s0, s1, s2, s3, s4, s5, s6, s7, s8⟩; go_simp; with_reducible rfl; rotate_left; simp only [Cap.pz]; rfl
     refine Cap.pu (v := ?_) (a' := ?_) 18 (some 41) zf39 HT_ rfl rfl (by kernel_rfl) (fun _ _ _ h => h) (Or.inl ⟨by rfl, ?_⟩) ?_ ?_; rotate_left; intro w'; go_simp; with_reducible rfl; rotate_left; simp only [Cap.pz]; rfl
     refine Cap.pu (v := ?_) (a' := ?_) 19 (some 42) zf40 HT_ rfl rfl (by kernel_rfl) (fun _ _ _ h => h) (Or.inl ⟨by rfl, ?_⟩) ?_ ?_; rotate_left; intro w'; go_simp; with_reducible rfl; rotate_left; simp only [Cap.pz]; rfl
     refine take_ (i := 20) (N := some 43) (v := ?_) (a' := ?_) zf41 rfl rfl (take_ofW HT_.out HW_.out (by kernel_rfl)) (fun _ _ _ h => h) (Or.inl ⟨by rfl, ?_⟩) hHeld ?_ ?_; rotate_left; rintro w' ⟨s0, s1, s2, s3, s4, s5, s6, s7, s8⟩; go_simp; with_reducible rfl; rotate_left; simp only [Cap.pz]; rfl
     refine Cap.pu (v := ?_) (a' := ?_) 21 (some 44) zf42 HT_ rfl rfl (by kernel_rfl) (fun _ _ _ h => h) (Or.inl ⟨by rfl, ?_⟩) ?_ ?_; rotate_left; intro w'; go_simp; with_reducible rfl; rotate_left; simp only [Cap.pz]; rfl
     refine Cap.pu (v := ?_) (a' := ?_) 22 (some 45) zf43 HT_ rfl rfl (by kernel_rfl) (fun _ _ _ h => h) (Or.inl ⟨by rfl, ?_⟩) ?_ ?_; rotate_left; intro w'; go_simp; with_reducible rfl; rotate_left; simp only [Cap.pz]; rfl
     refine Cap.pu (v := ?_) (a' := ?_) 23 (some 46) zf44 HT_ rfl rfl (by kernel_rfl) (fun _ _ _ h => h) (Or.inl ⟨by rfl, ?_⟩) ?_ ?_; rotate_left; intro w'; go_simp; with_reducible rfl; rotate_left; simp only [Cap.pz]; rfl
     refine Cap.pu (v := ?_) (a' := ?_) 24 (some 47) zf45 HT_ rfl rfl (by kernel_rfl) (fun _ _ _ h => h) (Or.inl ⟨by rfl, ?_⟩) ?_ ?_; rotate_left; intro w'; go_simp; with_reducible rfl; rotate_left; simp only [Cap.pz]; rfl
     refine Cap.pu (v := ?_) (a' := ?_) 25 (some 48) zf46 HT_ rfl rfl (by kernel_rfl) (fun _ _ _ h => h) (Or.inl ⟨by rfl, ?_⟩) ?_ ?_; rotate_left; intro w'; go_simp; with_reducible rfl; rotate_left; simp only [Cap.pz]; rfl
     refine take_ (i := 26) (N := some 49) (v := ?_) (a' := ?_) zf47 rfl rfl (take_ofW HT_.out HW_.out (by kernel_rfl)) (fun _ _ _ h => h) (Or.inl ⟨by rfl, ?_⟩) hHeld ?_ ?_; rotate_left; rintro w' ⟨s0, s1, s2, s3, s4, s5, s6, s7, s8⟩; go_simp; with_reducible rfl; rotate_left; simp only [Cap.pz]; rfl
     refine Cap.pu (v := ?_) (a' := ?_) 27 (some 50) zf48 HT_ rfl rfl (by kernel_rfl) (fun _ _ _ h => h) (Or.inl ⟨by rfl, ?_⟩) ?_ ?_; rotate_left; intro w'; go_simp; with_reducible rfl; rotate_left; simp only [Cap.pz]; rfl
     refine Cap.pu (v := ?_) (a' := ?_) 28 (some 51) zf49 HT_ rfl rfl (by kernel_rfl) (fun _ _ _ h => h) (Or.inl ⟨by rfl, ?_⟩) ?_ ?_; rotate_left; intro w'; go_simp; with_reducible rfl; rotate_left; simp only [Cap.pz]; rfl
     refine Cap.pu (v := ?_) (a' := ?_) 29 (some 52) zf50 HT_ rfl rfl (by kernel_rfl) (fun _ _ _ h => h) (Or.inl ⟨by rfl, ?_⟩) ?_ ?_; rotate_left; intro w'; go_simp; with_reducible rfl; rotate_left; simp only [Cap.pz]; rfl
     refine Cap.pu (v := ?_) (a' := ?_) 30 (some 53) zf51 HT_ rfl rfl (by kernel_rfl) (fun _ _ _ h => h) (Or.inl ⟨by rfl, ?_⟩) ?_ ?_; rotate_left; intro w'; go_simp; with_reducible rfl; rotate_left; simp only [Cap.pz]; rfl
     refine Cap.pu (v := ?_) (a' := ?_) 31 (some 54) zf52 HT_ rfl rfl (by kernel_rfl) (fun _ _ _ h => h) (Or.inl ⟨by rfl, ?_⟩) ?_ ?_; rotate_left; intro w'; go_simp; with_reducible rfl; rotate_left; simp only [Cap.pz]; rfl
     refine Cap.pu (v := ?_) (a' := ?_) 32 (some 55) zf53 HT_ rfl rfl (by kernel_rfl) (fun _ _ _ h => h) (Or.inl ⟨by rfl, ?_⟩) ?_ ?_; rotate_left; intro w'; go_simp; with_reducible rfl; rotate_left; simp only [Cap.pz]; rfl
     refine Cap.pu (v := ?_) (a' := ?_) 33 (some 56) zf54 HT_ rfl rfl (by kernel_rfl) (fun _ _ _ h => h) (Or.inl ⟨by rfl, ?_⟩) ?_ ?_; rotate_left; intro w'; go_simp; with_reducible rfl; rotate_left; simp only [Cap.pz]; rfl
     refine Cap.pu (v := ?_) (a' := ?_) 34 (some 57) zf55 HT_ rfl rfl (by kernel_rfl) (fun _ _ _ h => h) (Or.inl ⟨by rfl, ?_⟩) ?_ ?_; rotate_left; intro w'; go_simp; with_reducible rfl; rotate_left; simp only [Cap.pz]; rfl
     refine Cap.pu (v := ?_) (a' := ?_) 36 (some 59) zf72 HT_ rfl rfl (by kernel_rfl) (fun _ _ _ h => h) (Or.inl ⟨by rfl, ?_⟩) ?_ ?_; rotate_left; intro w'; go_simp; with_reducible rfl; rotate_left; simp only [Cap.pz]; rfl
     refine Cap.pu (v := ?_) (a' := ?_) 37 (some 60) zf73 HT_ rfl rfl (by kernel_rfl) (fun _ _ _ h => h) (Or.inl ⟨by rfl, ?_⟩) ?_ ?_; rotate_left; intro w'; go_simp; with_reducible rfl; rotate_left; simp only [Cap.pz]; rfl
     refine take_ (i := 35) (N := some 58) (v := ?_) (a' := ?_) zf58 rfl rfl (take_ofW HT_.out HW_.out (by kernel_rfl)) (fun _ _ _ h => h) (Or.inl ⟨by rfl, ?_⟩) hHeld ?_ ?_; rotate_left; rintro w' ⟨s0, s1, s2, s3, s4, s5, s6, s7, s8⟩; go_simp; with_reducible rfl; rotate_left; simp only [Cap.pz]; rfl
     refine Cap.pu (v := ?_) (a' := ?_) 38 (some 61) zf59 HT_ rfl rfl (by kernel_rfl) (fun _ _ _ h => h) (Or.inl ⟨by rfl, ?_⟩) ?_ ?_; rotate_left; intro w'; go_simp; with_reducible rfl; rotate_left; simp only [Cap.pz]; rfl
     refine take_ (i := 39) (N := some 62) (v := ?_) (a' := ?_) zf60 rfl rfl (take_ofW HT_.out HW_.out (by kernel_rfl)) (fun _ _ _ h => h) (Or.inl ⟨by rfl, ?_⟩) hHeld ?_ ?_; rotate_left; rintro w' ⟨s0, s1, s2, s3, s4, s5, s6, s7, s8⟩; go_simp; with_reducible rfl; rotate_left; simp only [Cap.pz]; rfl
     refine take_ (i := 40) (N := some 63) (v := ?_) (a' := ?_) zf61 rfl rfl (take_ofW HT_.out HW_.out (by kernel_rfl)) (fun _ _ _ h => h) (Or.inl ⟨by rfl, ?_⟩) hHeld ?_ ?_; rotate_left; rintro w' ⟨s0, s1, s2, s3, s4, s5, s6, s7, s8⟩; go_simp; with_reducible rfl; rotate_left; simp only [Cap.pz]; rfl
     refine one_ (i := 41) (N := some 64) zf62 rfl rfl (one_of HT_.out (by kernel_rfl)) (by decide) (fun K hK => ?_)
     refine goes_ Try.func23 (by kernel_rfl) rfl #[.agg #[.string ((rd_T43 l0_0 (ji32)).f0), .int .i64 ((rd_T43 l0_0 (ji32)).f1), .bool ((rd_T43 l0_0 (ji32)).f2), .string ((rd_T43 l0_0 (ji32)).f3)], .agg #[.string ((rd_T43 l0_0 x4_1).f0), .int .i64 ((rd_T43 l0_0 x4_1).f1), .bool true, .string ((rd_T43 l0_0 x4_1).f3)]] (by rfl) rfl rfl (by (try simp only [List.map_toArray, List.map_cons, List.map_nil]); first | done | (simp only [hji32]; rfl) | rfl | (simp only [List.length_drop, List.length_take]; rfl)) ?_
     with_reducible refine (spec_l08Less.calls ((rd_T43 l0_0 (ji32)).f0) ((rd_T43 l0_0 (ji32)).f1) ((rd_T43 l0_0 (ji32)).f2) ((rd_T43 l0_0 (ji32)).f3) ((rd_T43 l0_0 x4_1).f0) ((rd_T43 l0_0 x4_1).f1) true ((rd_T43 l0_0 x4_1).f3) false _ A35.out).mono ?_
     rintro e w44 ⟨rfl, hb⟩
     refine ⟨_, rfl, ?_⟩
     have n0_ := Aside0.mk (Kd.R_below (by first | exact Grow.rg HO_3.out | exact HO_3.out) hb)
     have n1_ := Aside0.mk (blk_below (g := gb111) (o := .cells #[.slice (some ad115) l0_0.length c0_0] 26 (0, 0)) (by first | exact Grow.bk BK111.out | exact BK111.out) hb)
     have n2_ := Aside0.mk (blk_below (g := gb116) (o := .cells #[.string ((rd_T43 l0_0 x4_1).f0), .int .i64 ((rd_T43 l0_0 x4_1).f1), .bool true, .string ((rd_T43 l0_0 x4_1).f3)] 43 (0, 0)) (by first | exact Grow.bk BK116.out | exact BK116.out) hb)
     have n3_ := Aside0.mk (below_step (by repeat (first | (with_reducible first | exact HB.out | apply below_alloc | apply pw_below_drewN | apply below_drew1 | refine below_set ?_ GE111.out | refine below_set ?_ GE116.out) | exact HB.out)) hb)
     clear HO_3
     clear BK111
     clear BK116
     clear HB
     have HO_3 := n0_
     have BK111 := n1_
     have BK116 := n2_
     have HB := n3_
     clear n0_ n1_ n2_ n3_
     (try clear hb)
     (try clear hb2)
     (try clear hk)
     (try clear hi)
     refine hK.out _ _ ⟨(blk_cell BK116.out 0).trans rfl, (blk_cell BK116.out 1).trans rfl, (blk_cell BK116.out 2).trans rfl, (blk_cell BK116.out 3).trans rfl, (blk_cell BK111.out 0).trans rfl, ((HB.out.cell (World.block_lt_of_cell? w _ hw117_0)).trans hw117_0), ((HB.out.cell (World.block_lt_of_cell? w _ hw117_1)).trans hw117_1), ((HB.out.cell (World.block_lt_of_cell? w _ hw117_2)).trans hw117_2), ((HB.out.cell (World.block_lt_of_cell? w _ hw117_3)).trans hw117_3)⟩ (fun hHeld => ?_)
     clear hK K
     refine norm_ (a' := ?_) ?_ ?_; rotate_left; show Act.put _ (some 64) _ = _; simp only [Cap.pz]; rfl
     refine Cap.pu (v := ?_) (a' := ?_) 42 (some 65) zf63 HT_ rfl rfl (by kernel_rfl) (fun _ _ _ h => h) (Or.inl ⟨by rfl, ?_⟩) ?_ ?_; rotate_left; intro w'; go_simp; with_reducible rfl; rotate_left; simp only [Cap.pz]; rfl
     refine Cap.pu (v := ?_) (a' := ?_) 43 (some 66) zf64 HT_ rfl rfl (by kernel_rfl) (fun _ _ _ h => h) (Or.inl ⟨by rfl, ?_⟩) ?_ ?_; rotate_left; intro w'; go_simp; with_reducible rfl; rotate_left; simp only [Cap.pz]; rfl
     refine Cap.pu (v := ?_) (a' := ?_) 44 (some 67) zf65 HT_ rfl rfl (by kernel_rfl) (fun _ _ _ h => h) (Or.inl ⟨by rfl, ?_⟩) ?_ ?_; rotate_left; intro w'; go_simp; with_reducible rfl; rotate_left; simp only [Cap.pz]; rfl
     refine Cap.pu (v := ?_) (a' := ?_) 45 (some 68) zf66 HT_ rfl rfl (by kernel_rfl) (fun _ _ _ h => h) (Or.inl ⟨by rfl, ?_⟩) ?_ ?_; rotate_left; intro w'; go_simp; with_reducible rfl; rotate_left; simp only [Cap.pz]; rfl
     refine Cap.pu (v := undef) (a' := ?_) 46 (some 69) zf67 HT_ rfl rfl (by kernel_rfl) (fun _ _ _ h => h) (Or.inr ⟨by rfl, rfl⟩) ?_ ?_; rotate_left; simp only [Cap.pz]; rfl
     refine Cap.pu (v := undef) (a' := ?_) 47 (some 70) zf68 HT_ rfl rfl (by kernel_rfl) (fun _ _ _ h => h) (Or.inr ⟨by rfl, rfl⟩) ?_ ?_; rotate_left; simp only [Cap.pz]; rfl
     refine Cap.pu (v := undef) (a' := ?_) 48 (some 71) zf69 HT_ rfl rfl (by kernel_rfl) (fun _ _ _ h => h) (Or.inr ⟨by rfl, rfl⟩) ?_ ?_; rotate_left; simp only [Cap.pz]; rfl
     refine Cap.pu (v := undef) (a' := ?_) 49 (some 72) zf70 HT_ rfl rfl (by kernel_rfl) (fun _ _ _ h => h) (Or.inr ⟨by rfl, rfl⟩) ?_ ?_; rotate_left; simp only [Cap.pz]; rfl
     refine Cap.pu (v := ?_) (a' := ?_) 50 (some 73) zf71 HT_ rfl rfl (by kernel_rfl) (fun _ _ _ h => h) (Or.inl ⟨by rfl, ?_⟩) ?_ ?_; rotate_left; intro w'; go_simp; with_reducible rfl; rotate_left; simp only [Cap.pz]; rfl
     refine done_ (done_of HT_.out (by kernel_rfl)) ?_
     try go_wp2
     go_meet
     case rel => (try rw [← Nbq25.out]); exact ⟨_, (true), (by first | rfl | (simp; done) | (simp [*]; done)), H', ⟨by have := HK1.out; first | omega | exact Nat.le_refl _⟩, ⟨by first | exact Grow.rg HO_3.out | exact HO_3.out⟩, ⟨by first | exact Grow.bk BK111.out | exact BK111.out⟩, ⟨by first | exact Grow.bk BK116.out | exact BK116.out⟩, ⟨by repeat (first | (with_reducible first | exact HB.out | apply below_alloc | apply pw_below_drewN | apply below_drew1 | refine below_set ?_ GE111.out | refine below_set ?_ GE116.out) | exact HB.out)⟩⟩
    subst c36
    have H1 : ((spec_l01InInts.f k1 x3_1 ((rd_T43 l0_0 x4_1).f1)).bind fun t119 => (spec_RunFault.j1 k1 x3_1 x4_1 t119 l0_0 ((rd_T43 l0_0 x4_1).f0) ((rd_T43 l0_0 x4_1).f1) true ((rd_T43 l0_0 x4_1).f3))) = some r := by rw [if_pos rfl] at H; exact H
    clear H
    have H := H1
    clear H1
    replace H := Option.bind_eq_some_iff.mp H
    obtain ⟨t119, A370, H⟩ := H
    replace H : (spec_RunFault.j1 k1 x3_1 x4_1 t119 l0_0 ((rd_T43 l0_0 x4_1).f0) ((rd_T43 l0_0 x4_1).f1) true ((rd_T43 l0_0 x4_1).f3)) = some r := H
    have A37 := Aside0.mk A370
    clear A370
    have H' := Aside0.mk H
    clear H
    try go_wp2
    have n0_ : Aside0 (Kd.R (Kd.int .i64) 2 ((((w13.setCell ⟨gb116, 0, none⟩ (.string ((rd_T43 l0_0 x4_1).f0))).setCell ⟨gb116, 1, none⟩ (.int .i64 ((rd_T43 l0_0 x4_1).f1))).setCell ⟨gb116, 2, none⟩ (.bool (true))).setCell ⟨gb116, 3, none⟩ (.string ((rd_T43 l0_0 x4_1).f3))) w.heap.size (fun _ => True) u3 x3_1) := ⟨by (with_reducible repeat (first | apply Kd.R_alloc | apply Kd.R_drewN | apply Kd.R_drew)); exact Kd.R_mono (Kd.R_far (p := ⟨gb116, 3, none⟩) (Kd.R_far (p := ⟨gb116, 2, none⟩) (Kd.R_far (p := ⟨gb116, 1, none⟩) (Kd.R_far (p := ⟨gb116, 0, none⟩) (Kd.R_types HO_3.out BK116.out (by decide)) (fun _ hk => hk.2) (.string ((rd_T43 l0_0 x4_1).f0))) (fun _ hk => hk.2) (.int .i64 ((rd_T43 l0_0 x4_1).f1))) (fun _ hk => hk.2) (.bool (true))) (fun _ hk => hk.2) (.string ((rd_T43 l0_0 x4_1).f3))) (fun _ hk => trivial)⟩
    have n1_ : Aside0 (((((w13.setCell ⟨gb116, 0, none⟩ (.string ((rd_T43 l0_0 x4_1).f0))).setCell ⟨gb116, 1, none⟩ (.int .i64 ((rd_T43 l0_0 x4_1).f1))).setCell ⟨gb116, 2, none⟩ (.bool (true))).setCell ⟨gb116, 3, none⟩ (.string ((rd_T43 l0_0 x4_1).f3))).heap[gb111]? = some (.cells #[.slice (some ad115) l0_0.length c0_0] 26 (0, 0))) := ⟨by (with_reducible repeat (first | refine blk_drewN ?_ _ | refine blk_drew ?_ | refine blk_alloc ?_ _)); refine blk_far ?_ NB111_116.out _; (with_reducible repeat (first | refine blk_drewN ?_ _ | refine blk_drew ?_ | refine blk_alloc ?_ _)); refine blk_far ?_ NB111_116.out _; (with_reducible repeat (first | refine blk_drewN ?_ _ | refine blk_drew ?_ | refine blk_alloc ?_ _)); refine blk_far ?_ NB111_116.out _; (with_reducible repeat (first | refine blk_drewN ?_ _ | refine blk_drew ?_ | refine blk_alloc ?_ _)); refine blk_far ?_ NB111_116.out _; (with_reducible repeat (first | refine blk_drewN ?_ _ | refine blk_drew ?_ | refine blk_alloc ?_ _)); exact BK111.out⟩
    have n2_ : Aside0 (((((w13.setCell ⟨gb116, 0, none⟩ (.string ((rd_T43 l0_0 x4_1).f0))).setCell ⟨gb116, 1, none⟩ (.int .i64 ((rd_T43 l0_0 x4_1).f1))).setCell ⟨gb116, 2, none⟩ (.bool (true))).setCell ⟨gb116, 3, none⟩ (.string ((rd_T43 l0_0 x4_1).f3))).heap[gb116]? = some (.cells #[.string ((rd_T43 l0_0 x4_1).f0), .int .i64 ((rd_T43 l0_0 x4_1).f1), .bool true, .string ((rd_T43 l0_0 x4_1).f3)] 43 (0, 0))) := ⟨by (with_reducible repeat (first | refine blk_drewN ?_ _ | refine blk_drew ?_ | refine blk_alloc ?_ _)); refine blk_put (cs := #[.string ((rd_T43 l0_0 x4_1).f0), .int .i64 ((rd_T43 l0_0 x4_1).f1), .bool (true), .string (⟨#[]⟩ : ByteArray)]) ?_ 3 _ rfl; (with_reducible repeat (first | refine blk_drewN ?_ _ | refine blk_drew ?_ | refine blk_alloc ?_ _)); refine blk_put (cs := #[.string ((rd_T43 l0_0 x4_1).f0), .int .i64 ((rd_T43 l0_0 x4_1).f1), .bool false, .string (⟨#[]⟩ : ByteArray)]) ?_ 2 _ rfl; (with_reducible repeat (first | refine blk_drewN ?_ _ | refine blk_drew ?_ | refine blk_alloc ?_ _)); refine blk_put (cs := #[.string ((rd_T43 l0_0 x4_1).f0), .int .i64 0, .bool false, .string (⟨#[]⟩ : ByteArray)]) ?_ 1 _ rfl; (with_reducible repeat (first | refine blk_drewN ?_ _ | refine blk_drew ?_ | refine blk_alloc ?_ _)); refine blk_put (cs := #[.string (⟨#[]⟩ : ByteArray), .int .i64 0, .bool false, .string (⟨#[]⟩ : ByteArray)]) ?_ 0 _ rfl; (with_reducible repeat (first | refine blk_drewN ?_ _ | refine blk_drew ?_ | refine blk_alloc ?_ _)); exact BK116.out⟩
    have n3_ : Aside0 (Below w.heap.size w ((((w13.setCell ⟨gb116, 0, none⟩ (.string ((rd_T43 l0_0 x4_1).f0))).setCell ⟨gb116, 1, none⟩ (.int .i64 ((rd_T43 l0_0 x4_1).f1))).setCell ⟨gb116, 2, none⟩ (.bool (true))).setCell ⟨gb116, 3, none⟩ (.string ((rd_T43 l0_0 x4_1).f3)))) := ⟨by repeat (first | (with_reducible first | exact HB.out | apply below_alloc | apply pw_below_drewN | apply below_drew1 | refine below_set ?_ GE111.out | refine below_set ?_ GE116.out) | exact HB.out)⟩
    (try clear HO_3)
    (try clear BK111)
    (try clear BK116)
    (try clear HB)
    generalize ((((w13.setCell ⟨gb116, 0, none⟩ (.string ((rd_T43 l0_0 x4_1).f0))).setCell ⟨gb116, 1, none⟩ (.int .i64 ((rd_T43 l0_0 x4_1).f1))).setCell ⟨gb116, 2, none⟩ (.bool (true))).setCell ⟨gb116, 3, none⟩ (.string ((rd_T43 l0_0 x4_1).f3))) = w38 at n0_ n1_ n2_ n3_ ⊢
    have HO_3 := n0_
    have BK111 := n1_
    have BK116 := n2_
    have HB := n3_
    clear n0_ n1_ n2_ n3_
    have n0_ := Aside0.mk (Kd.R_drew HO_3.out)
    have n1_ := Aside0.mk (blk_drew BK111.out)
    have n2_ := Aside0.mk (blk_drew BK116.out)
    have n3_ := Aside0.mk (below_drew1 HB.out)
    clear HO_3
    clear BK111
    clear BK116
    clear HB
    have HO_3 := n0_
    have BK111 := n1_
    have BK116 := n2_
    have HB := n3_
    clear n0_ n1_ n2_ n3_
    have p117 : 0 ≤ ((ji32) : Int) := of_decide_eq_true (by first | (with_reducible assumption) | assumption)
    have q117 : (ji32) < (l0_0.length : Int) := of_decide_eq_true (by first | (with_reducible assumption) | assumption)
    obtain ⟨ad117, e117, hx117_0, hx117_1, hx117_2, hx117_3⟩ := at_T43 HR0_0.out (ji32) p117 q117
    have hw117_3 := hx117_3
    have hw117_2 := hx117_2
    have hw117_1 := hx117_1
    have hw117_0 := hx117_0
    (try rw [← Nbq25.out] at hx117_2)
    obtain rfl : ad115 = ad117 := (by injection e117)
    replace hx117_0 := Grow.bc HB.out hx117_0
    replace hx117_1 := Grow.bc HB.out hx117_1
    replace hx117_2 := Grow.bc HB.out hx117_2
    replace hx117_3 := Grow.bc HB.out hx117_3
    replace p117 := eq_true p117
    replace q117 := eq_true q117
    refine start_ (n := 51) (S := fun w' => w'.cell? ⟨gb116, 0, none⟩ = some (.string ((rd_T43 l0_0 x4_1).f0)) ∧ w'.cell? ⟨gb116, 1, none⟩ = some (.int .i64 ((rd_T43 l0_0 x4_1).f1)) ∧ w'.cell? ⟨gb116, 2, none⟩ = some (.bool true) ∧ w'.cell? ⟨gb116, 3, none⟩ = some (.string ((rd_T43 l0_0 x4_1).f3)) ∧ w'.cell? ⟨gb111, 0, none⟩ = some (.slice (some ad115) l0_0.length c0_0) ∧ w'.cell? (ad115.add (((ji32)).toNat * 4)) = some (.string ((rd_T43 l0_0 (ji32)).f0)) ∧ w'.cell? ⟨(ad115.add (((ji32)).toNat * 4)).block, (ad115.add (((ji32)).toNat * 4)).off + 1, none⟩ = some (.int .i64 ((rd_T43 l0_0 (ji32)).f1)) ∧ w'.cell? ⟨(ad115.add (((ji32)).toNat * 4)).block, (ad115.add (((ji32)).toNat * 4)).off + 2, none⟩ = some (.bool ((rd_T43 l0_0 (ji32)).f2)) ∧ w'.cell? ⟨(ad115.add (((ji32)).toNat * 4)).block, (ad115.add (((ji32)).toNat * 4)).off + 3, none⟩ = some (.string ((rd_T43 l0_0 (ji32)).f3))) (ds := []) zf20 (by kernel_rfl) rfl rfl ⟨(blk_cell BK116.out 0).trans rfl, (blk_cell BK116.out 1).trans rfl, (blk_cell BK116.out 2).trans rfl, (blk_cell BK116.out 3).trans rfl, (blk_cell BK111.out 0).trans rfl, ((HB.out.cell (World.block_lt_of_cell? w _ hw117_0)).trans hw117_0), ((HB.out.cell (World.block_lt_of_cell? w _ hw117_1)).trans hw117_1), ((HB.out.cell (World.block_lt_of_cell? w _ hw117_2)).trans hw117_2), ((HB.out.cell (World.block_lt_of_cell? w _ hw117_3)).trans hw117_3)⟩ (fun hHeld => ?_); refine with_tabW spec_RunFault.tab8 spec_RunFault.bits8 (fun HT_ HW_ => ?_)
    generalize w38.drew = w39 at HO_3 BK111 BK116 HB hx117_0 hx117_1 hx117_2 hx117_3 hHeld ⊢
    refine Cap.pu (v := ?_) (a' := ?_) 0 (some 23) zf21 HT_ rfl rfl (by kernel_rfl) (fun _ _ _ h => h) (Or.inl ⟨by rfl, ?_⟩) ?_ ?_; rotate_left; intro w'; go_simp; with_reducible rfl; rotate_left; simp only [Cap.pz]; rfl
    refine take_ (i := 1) (N := some 24) (v := ?_) (a' := ?_) zf22 rfl rfl (take_ofW HT_.out HW_.out (by kernel_rfl)) (fun _ _ _ h => h) (Or.inl ⟨by rfl, ?_⟩) hHeld ?_ ?_; rotate_left; rintro w' ⟨s0, s1, s2, s3, s4, s5, s6, s7, s8⟩; go_simp; with_reducible rfl; rotate_left; simp only [Cap.pz]; rfl
    refine Cap.pu (v := ?_) (a' := ?_) 2 (some 25) zf23 HT_ rfl rfl (by kernel_rfl) (fun _ _ _ h => h) (Or.inl ⟨by rfl, ?_⟩) ?_ ?_; rotate_left; intro w'; go_simp; with_reducible rfl; rotate_left; simp only [Cap.pz]; rfl
    refine Cap.pu (v := ?_) (a' := ?_) 3 (some 26) zf24 HT_ rfl rfl (by kernel_rfl) (fun _ _ _ h => h) (Or.inl ⟨by rfl, ?_⟩) ?_ ?_; rotate_left; intro w'; go_simp; with_reducible rfl; rotate_left; simp only [Cap.pz]; rfl
    refine Cap.pu (v := ?_) (a' := ?_) 4 (some 27) zf25 HT_ rfl rfl (by kernel_rfl) (fun _ _ _ h => h) (Or.inl ⟨by rfl, ?_⟩) ?_ ?_; rotate_left; intro w'; go_simp; with_reducible rfl; rotate_left; simp only [Cap.pz]; rfl
    refine Cap.pu (v := ?_) (a' := ?_) 5 (some 28) zf26 HT_ rfl rfl (by kernel_rfl) (fun _ _ _ h => h) (Or.inl ⟨by rfl, ?_⟩) ?_ ?_; rotate_left; intro w'; go_simp; with_reducible rfl; rotate_left; simp only [Cap.pz]; rfl
    refine take_ (i := 6) (N := some 29) (v := ?_) (a' := ?_) zf27 rfl rfl (take_ofW HT_.out HW_.out (by kernel_rfl)) (fun _ _ _ h => h) (Or.inl ⟨by rfl, ?_⟩) hHeld ?_ ?_; rotate_left; rintro w' ⟨s0, s1, s2, s3, s4, s5, s6, s7, s8⟩; go_simp; with_reducible rfl; rotate_left; simp only [Cap.pz]; rfl
    refine Cap.pu (v := ?_) (a' := ?_) 7 (some 30) zf28 HT_ rfl rfl (by kernel_rfl) (fun _ _ _ h => h) (Or.inl ⟨by rfl, ?_⟩) ?_ ?_; rotate_left; intro w'; go_simp; with_reducible rfl; rotate_left; simp only [Cap.pz]; rfl
    refine Cap.pu (v := ?_) (a' := ?_) 8 (some 31) zf29 HT_ rfl rfl (by kernel_rfl) (fun _ _ _ h => h) (Or.inl ⟨by rfl, ?_⟩) ?_ ?_; rotate_left; intro w'; go_simp; with_reducible rfl; rotate_left; simp only [Cap.pz]; rfl
    refine Cap.pu (v := ?_) (a' := ?_) 9 (some 32) zf30 HT_ rfl rfl (by kernel_rfl) (fun _ _ _ h => h) (Or.inl ⟨by rfl, ?_⟩) ?_ ?_; rotate_left; intro w'; go_simp; with_reducible rfl; rotate_left; simp only [Cap.pz]; rfl
    refine Cap.pu (v := ?_) (a' := ?_) 10 (some 33) zf31 HT_ rfl rfl (by kernel_rfl) (fun _ _ _ h => h) (Or.inl ⟨by rfl, ?_⟩) ?_ ?_; rotate_left; intro w'; go_simp; with_reducible rfl; rotate_left; simp only [Cap.pz]; rfl
    refine Cap.pu (v := ?_) (a' := ?_) 11 (some 34) zf32 HT_ rfl rfl (by kernel_rfl) (fun _ _ _ h => h) (Or.inl ⟨by rfl, ?_⟩) ?_ ?_; rotate_left; intro w'; go_simp; with_reducible rfl; rotate_left; simp only [Cap.pz]; rfl
    refine take_ (i := 12) (N := some 35) (v := ?_) (a' := ?_) zf33 rfl rfl (take_ofW HT_.out HW_.out (by kernel_rfl)) (fun _ _ _ h => h) (Or.inl ⟨by rfl, ?_⟩) hHeld ?_ ?_; rotate_left; rintro w' ⟨s0, s1, s2, s3, s4, s5, s6, s7, s8⟩; go_simp; with_reducible rfl; rotate_left; simp only [Cap.pz]; rfl
    refine Cap.pu (v := ?_) (a' := ?_) 13 (some 36) zf34 HT_ rfl rfl (by kernel_rfl) (fun _ _ _ h => h) (Or.inl ⟨by rfl, ?_⟩) ?_ ?_; rotate_left; intro w'; go_simp; with_reducible rfl; rotate_left; simp only [Cap.pz]; rfl
    refine Cap.pu (v := ?_) (a' := ?_) 14 (some 37) zf35 HT_ rfl rfl (by kernel_rfl) (fun _ _ _ h => h) (Or.inl ⟨by rfl, ?_⟩) ?_ ?_; rotate_left; intro w'; go_simp; with_reducible rfl; rotate_left; simp only [Cap.pz]; rfl
    refine Cap.pu (v := ?_) (a' := ?_) 15 (some 38) zf36 HT_ rfl rfl (by kernel_rfl) (fun _ _ _ h => h) (Or.inl ⟨by rfl, ?_⟩) ?_ ?_; rotate_left; intro w'; go_simp; with_reducible rfl; rotate_left; simp only [Cap.pz]; rfl
    refine Cap.pu (v := ?_) (a' := ?_) 16 (some 39) zf37 HT_ rfl rfl (by kernel_rfl) (fun _ _ _ h => h) (Or.inl ⟨by rfl, ?_⟩) ?_ ?_; rotate_left; intro w'; go_simp; with_reducible rfl; rotate_left; simp only [Cap.pz]; rfl
    refine take_ (i := 17) (N := some 40) (v := ?_) (a' := ?_) zf38 rfl rfl (take_ofW HT_.out HW_.out (by kernel_rfl)) (fun _ _ _ h => h) (Or.inl ⟨by rfl, ?_⟩) hHeld ?_ ?_; rotate_left; rintro w' ⟨s0, s1, s2, s3, s4, s5, s6, s7, s8⟩; go_simp; with_reducible rfl; rotate_left; simp only [Cap.pz]; rfl
    refine Cap.pu (v := ?_) (a' := ?_) 18 (some 41) zf39 HT_ rfl rfl (by kernel_rfl) (fun _ _ _ h => h) (Or.inl ⟨by rfl, ?_⟩) ?_ ?_; rotate_left; intro w'; go_simp; with_reducible rfl; rotate_left; simp only [Cap.pz]; rfl
    refine Cap.pu (v := ?_) (a' := ?_) 19 (some 42) zf40 HT_ rfl rfl (by kernel_rfl) (fun _ _ _ h => h) (Or.inl ⟨by rfl, ?_⟩) ?_ ?_; rotate_left; intro w'; go_simp; with_reducible rfl; rotate_left; simp only [Cap.pz]; rfl
    refine take_ (i := 20) (N := some 43) (v := ?_) (a' := ?_) zf41 rfl rfl (take_ofW HT_.out HW_.out (by kernel_rfl)) (fun _ _ _ h => h) (Or.inl ⟨by rfl, ?_⟩) hHeld ?_ ?_; rotate_left; rintro w' ⟨s0, s1, s2, s3, s4, s5, s6, s7, s8⟩; go_simp; with_reducible rfl; rotate_left; simp only [Cap.pz]; rfl
    refine Cap.pu (v := ?_) (a' := ?_) 21 (some 44) zf42 HT_ rfl rfl (by kernel_rfl) (fun _ _ _ h => h) (Or.inl ⟨by rfl, ?_⟩) ?_ ?_; rotate_left; intro w'; go_simp; with_reducible rfl; rotate_left; simp only [Cap.pz]; rfl
    refine Cap.pu (v := ?_) (a' := ?_) 22 (some 45) zf43 HT_ rfl rfl (by kernel_rfl) (fun _ _ _ h => h) (Or.inl ⟨by rfl, ?_⟩) ?_ ?_; rotate_left; intro w'; go_simp; with_reducible rfl; rotate_left; simp only [Cap.pz]; rfl
    refine Cap.pu (v := ?_) (a' := ?_) 23 (some 46) zf44 HT_ rfl rfl (by kernel_rfl) (fun _ _ _ h => h) (Or.inl ⟨by rfl, ?_⟩) ?_ ?_; rotate_left; intro w'; go_simp; with_reducible rfl; rotate_left; simp only [Cap.pz]; rfl
    refine Cap.pu (v := ?_) (a' := ?_) 24 (some 47) zf45 HT_ rfl rfl (by kernel_rfl) (fun _ _ _ h => h) (Or.inl ⟨by rfl, ?_⟩) ?_ ?_; rotate_left; intro w'; go_simp; with_reducible rfl; rotate_left; simp only [Cap.pz]; rfl
    refine Cap.pu (v := ?_) (a' := ?_) 25 (some 48) zf46 HT_ rfl rfl (by kernel_rfl) (fun _ _ _ h => h) (Or.inl ⟨by rfl, ?_⟩) ?_ ?_; rotate_left; intro w'; go_simp; with_reducible rfl; rotate_left; simp only [Cap.pz]; rfl
    refine take_ (i := 26) (N := some 49) (v := ?_) (a' := ?_) zf47 rfl rfl (take_ofW HT_.out HW_.out (by kernel_rfl)) (fun _ _ _ h => h) (Or.inl ⟨by rfl, ?_⟩) hHeld ?_ ?_; rotate_left; rintro w' ⟨s0, s1, s2, s3, s4, s5, s6, s7, s8⟩; go_simp; with_reducible rfl; rotate_left; simp only [Cap.pz]; rfl
    refine Cap.pu (v := ?_) (a' := ?_) 27 (some 50) zf48 HT_ rfl rfl (by kernel_rfl) (fun _ _ _ h => h) (Or.inl ⟨by rfl, ?_⟩) ?_ ?_; rotate_left; intro w'; go_simp; with_reducible rfl; rotate_left; simp only [Cap.pz]; rfl
    refine Cap.pu (v := ?_) (a' := ?_) 28 (some 51) zf49 HT_ rfl rfl (by kernel_rfl) (fun _ _ _ h => h) (Or.inl ⟨by rfl, ?_⟩) ?_ ?_; rotate_left; intro w'; go_simp; with_reducible rfl; rotate_left; simp only [Cap.pz]; rfl
    refine Cap.pu (v := ?_) (a' := ?_) 29 (some 52) zf50 HT_ rfl rfl (by kernel_rfl) (fun _ _ _ h => h) (Or.inl ⟨by rfl, ?_⟩) ?_ ?_; rotate_left; intro w'; go_simp; with_reducible rfl; rotate_left; simp only [Cap.pz]; rfl
    refine Cap.pu (v := ?_) (a' := ?_) 30 (some 53) zf51 HT_ rfl rfl (by kernel_rfl) (fun _ _ _ h => h) (Or.inl ⟨by rfl, ?_⟩) ?_ ?_; rotate_left; intro w'; go_simp; with_reducible rfl; rotate_left; simp only [Cap.pz]; rfl
    refine Cap.pu (v := ?_) (a' := ?_) 31 (some 54) zf52 HT_ rfl rfl (by kernel_rfl) (fun _ _ _ h => h) (Or.inl ⟨by rfl, ?_⟩) ?_ ?_; rotate_left; intro w'; go_simp; with_reducible rfl; rotate_left; simp only [Cap.pz]; rfl
    refine Cap.pu (v := ?_) (a' := ?_) 32 (some 55) zf53 HT_ rfl rfl (by kernel_rfl) (fun _ _ _ h => h) (Or.inl ⟨by rfl, ?_⟩) ?_ ?_; rotate_left; intro w'; go_simp; with_reducible rfl; rotate_left; simp only [Cap.pz]; rfl
    refine Cap.pu (v := ?_) (a' := ?_) 33 (some 56) zf54 HT_ rfl rfl (by kernel_rfl) (fun _ _ _ h => h) (Or.inl ⟨by rfl, ?_⟩) ?_ ?_; rotate_left; intro w'; go_simp; with_reducible rfl; rotate_left; simp only [Cap.pz]; rfl
    refine Cap.pu (v := ?_) (a' := ?_) 34 (some 57) zf55 HT_ rfl rfl (by kernel_rfl) (fun _ _ _ h => h) (Or.inl ⟨by rfl, ?_⟩) ?_ ?_; rotate_left; intro w'; go_simp; with_reducible rfl; rotate_left; simp only [Cap.pz]; rfl
    refine Cap.pu (v := ?_) (a' := ?_) 36 (some 59) zf72 HT_ rfl rfl (by kernel_rfl) (fun _ _ _ h => h) (Or.inl ⟨by rfl, ?_⟩) ?_ ?_; rotate_left; intro w'; go_simp; with_reducible rfl; rotate_left; simp only [Cap.pz]; rfl
    refine Cap.pu (v := ?_) (a' := ?_) 37 (some 60) zf73 HT_ rfl rfl (by kernel_rfl) (fun _ _ _ h => h) (Or.inl ⟨by rfl, ?_⟩) ?_ ?_; rotate_left; intro w'; go_simp; with_reducible rfl; rotate_left; simp only [Cap.pz]; rfl
    refine take_ (i := 35) (N := some 58) (v := ?_) (a' := ?_) zf58 rfl rfl (take_ofW HT_.out HW_.out (by kernel_rfl)) (fun _ _ _ h => h) (Or.inl ⟨by rfl, ?_⟩) hHeld ?_ ?_; rotate_left; rintro w' ⟨s0, s1, s2, s3, s4, s5, s6, s7, s8⟩; go_simp; with_reducible rfl; rotate_left; simp only [Cap.pz]; rfl
    refine Cap.pu (v := ?_) (a' := ?_) 38 (some 61) zf59 HT_ rfl rfl (by kernel_rfl) (fun _ _ _ h => h) (Or.inl ⟨by rfl, ?_⟩) ?_ ?_; rotate_left; intro w'; go_simp; with_reducible rfl; rotate_left; simp only [Cap.pz]; rfl
    refine take_ (i := 39) (N := some 62) (v := ?_) (a' := ?_) zf60 rfl rfl (take_ofW HT_.out HW_.out (by kernel_rfl)) (fun _ _ _ h => h) (Or.inl ⟨by rfl, ?_⟩) hHeld ?_ ?_; rotate_left; rintro w' ⟨s0, s1, s2, s3, s4, s5, s6, s7, s8⟩; go_simp; with_reducible rfl; rotate_left; simp only [Cap.pz]; rfl
    refine take_ (i := 40) (N := some 63) (v := ?_) (a' := ?_) zf61 rfl rfl (take_ofW HT_.out HW_.out (by kernel_rfl)) (fun _ _ _ h => h) (Or.inl ⟨by rfl, ?_⟩) hHeld ?_ ?_; rotate_left; rintro w' ⟨s0, s1, s2, s3, s4, s5, s6, s7, s8⟩; go_simp; with_reducible rfl; rotate_left; simp only [Cap.pz]; rfl
    refine one_ (i := 41) (N := some 64) zf62 rfl rfl (one_of HT_.out (by kernel_rfl)) (by decide) (fun K hK => ?_)
    refine goes_ Try.func23 (by kernel_rfl) rfl #[.agg #[.string ((rd_T43 l0_0 (ji32)).f0), .int .i64 ((rd_T43 l0_0 (ji32)).f1), .bool ((rd_T43 l0_0 (ji32)).f2), .string ((rd_T43 l0_0 (ji32)).f3)], .agg #[.string ((rd_T43 l0_0 x4_1).f0), .int .i64 ((rd_T43 l0_0 x4_1).f1), .bool true, .string ((rd_T43 l0_0 x4_1).f3)]] (by rfl) rfl rfl (by (try simp only [List.map_toArray, List.map_cons, List.map_nil]); first | done | (simp only [hji32]; rfl) | rfl | (simp only [List.length_drop, List.length_take]; rfl)) ?_
    with_reducible refine (spec_l08Less.calls ((rd_T43 l0_0 (ji32)).f0) ((rd_T43 l0_0 (ji32)).f1) ((rd_T43 l0_0 (ji32)).f2) ((rd_T43 l0_0 (ji32)).f3) ((rd_T43 l0_0 x4_1).f0) ((rd_T43 l0_0 x4_1).f1) true ((rd_T43 l0_0 x4_1).f3) true _ A35.out).mono ?_
    rintro e w40 ⟨rfl, hb⟩
    refine ⟨_, rfl, ?_⟩
    have n0_ := Aside0.mk (Kd.R_below (by first | exact Grow.rg HO_3.out | exact HO_3.out) hb)
    have n1_ := Aside0.mk (blk_below (g := gb111) (o := .cells #[.slice (some ad115) l0_0.length c0_0] 26 (0, 0)) (by first | exact Grow.bk BK111.out | exact BK111.out) hb)
    have n2_ := Aside0.mk (blk_below (g := gb116) (o := .cells #[.string ((rd_T43 l0_0 x4_1).f0), .int .i64 ((rd_T43 l0_0 x4_1).f1), .bool true, .string ((rd_T43 l0_0 x4_1).f3)] 43 (0, 0)) (by first | exact Grow.bk BK116.out | exact BK116.out) hb)
    have n3_ := Aside0.mk (below_step (by repeat (first | (with_reducible first | exact HB.out | apply below_alloc | apply pw_below_drewN | apply below_drew1 | refine below_set ?_ GE111.out | refine below_set ?_ GE116.out) | exact HB.out)) hb)
    clear HO_3
    clear BK111
    clear BK116
    clear HB
    have HO_3 := n0_
    have BK111 := n1_
    have BK116 := n2_
    have HB := n3_
    clear n0_ n1_ n2_ n3_
    (try clear hb)
    (try clear hb2)
    (try clear hk)
    (try clear hi)
    obtain ⟨Ao41, co41, eo41⟩ := Kd.R_slice HO_3.out
    (first | subst eo41 | (injection eo41 with f1_ f2_ f3_; have f4_ := f1_.symm; have f5_ := f3_.symm; clear f1_ f2_ f3_; subst f4_; subst f5_))
    refine hK.out _ _ ⟨(blk_cell BK116.out 0).trans rfl, (blk_cell BK116.out 1).trans rfl, (blk_cell BK116.out 2).trans rfl, (blk_cell BK116.out 3).trans rfl, (blk_cell BK111.out 0).trans rfl, ((HB.out.cell (World.block_lt_of_cell? w _ hw117_0)).trans hw117_0), ((HB.out.cell (World.block_lt_of_cell? w _ hw117_1)).trans hw117_1), ((HB.out.cell (World.block_lt_of_cell? w _ hw117_2)).trans hw117_2), ((HB.out.cell (World.block_lt_of_cell? w _ hw117_3)).trans hw117_3)⟩ (fun hHeld => ?_)
    clear hK K
    refine norm_ (a' := ?_) ?_ ?_; rotate_left; show Act.put _ (some 64) _ = _; simp only [Cap.pz]; rfl
    refine Cap.pu (v := ?_) (a' := ?_) 42 (some 65) zf63 HT_ rfl rfl (by kernel_rfl) (fun _ _ _ h => h) (Or.inl ⟨by rfl, ?_⟩) ?_ ?_; rotate_left; intro w'; go_simp; with_reducible rfl; rotate_left; simp only [Cap.pz]; rfl
    refine Cap.pu (v := ?_) (a' := ?_) 43 (some 66) zf64 HT_ rfl rfl (by kernel_rfl) (fun _ _ _ h => h) (Or.inl ⟨by rfl, ?_⟩) ?_ ?_; rotate_left; intro w'; go_simp; with_reducible rfl; rotate_left; simp only [Cap.pz]; rfl
    refine Cap.pu (v := ?_) (a' := ?_) 44 (some 67) zf65 HT_ rfl rfl (by kernel_rfl) (fun _ _ _ h => h) (Or.inl ⟨by rfl, ?_⟩) ?_ ?_; rotate_left; intro w'; go_simp; with_reducible rfl; rotate_left; simp only [Cap.pz]; rfl
    refine Cap.pu (v := ?_) (a' := ?_) 45 (some 68) zf66 HT_ rfl rfl (by kernel_rfl) (fun _ _ _ h => h) (Or.inl ⟨by rfl, ?_⟩) ?_ ?_; rotate_left; intro w'; go_simp; with_reducible rfl; rotate_left; simp only [Cap.pz]; rfl
    refine Cap.pu (v := ?_) (a' := ?_) 46 (some 69) zf67 HT_ rfl rfl (by kernel_rfl) (fun _ _ _ h => h) (Or.inl ⟨by rfl, ?_⟩) ?_ ?_; rotate_left; intro w'; go_simp; with_reducible rfl; rotate_left; simp only [Cap.pz]; rfl
    refine Cap.pu (v := ?_) (a' := ?_) 47 (some 70) zf68 HT_ rfl rfl (by kernel_rfl) (fun _ _ _ h => h) (Or.inl ⟨by rfl, ?_⟩) ?_ ?_; rotate_left; intro w'; go_simp; with_reducible rfl; rotate_left; simp only [Cap.pz]; rfl
    refine take_ (i := 48) (N := some 71) (v := ?_) (a' := ?_) zf69 rfl rfl (take_ofW HT_.out HW_.out (by kernel_rfl)) (fun _ _ _ h => h) (Or.inl ⟨by rfl, ?_⟩) hHeld ?_ ?_; rotate_left; rintro w' ⟨s0, s1, s2, s3, s4, s5, s6, s7, s8⟩; go_simp; with_reducible rfl; rotate_left; simp only [Cap.pz]; rfl
    refine one_ (i := 49) (N := some 72) zf70 rfl rfl (one_of HT_.out (by kernel_rfl)) (by decide) (fun K hK => ?_)
    refine goes_ Try.func24 (by kernel_rfl) rfl #[.slice Ao41 x3_1.length co41, .int .i64 ((rd_T43 l0_0 x4_1).f1)] (by rfl) rfl rfl (by (try simp only [List.map_toArray, List.map_cons, List.map_nil]); first | done | rfl | (simp only [List.length_drop, List.length_take]; rfl)) ?_
    with_reducible refine (spec_l01InInts.calls k1 _ _ x3_1 ((rd_T43 l0_0 x4_1).f1) t119 _ ?side1 ?side2 A37.out).mono ?_
    (case side1 => repeat (first | exact (Kd.R_reads' HO_3.out).2.2 | (with_reducible refine Kd.C_alloc ?_ _) | (with_reducible refine Kd.C_drewN ?_ _) | (with_reducible refine Kd.C_drew ?_)))
    (case side2 => exact (Kd.R_reads' HO_3.out).2.1)
    rintro e w' ⟨rfl, ⟨nd, rfl⟩⟩
    refine ⟨_, rfl, ?_⟩
    refine hK.out _ _ ⟨(blk_cell BK116.out 0).trans rfl, (blk_cell BK116.out 1).trans rfl, (blk_cell BK116.out 2).trans rfl, (blk_cell BK116.out 3).trans rfl, (blk_cell BK111.out 0).trans rfl, ((HB.out.cell (World.block_lt_of_cell? w _ hw117_0)).trans hw117_0), ((HB.out.cell (World.block_lt_of_cell? w _ hw117_1)).trans hw117_1), ((HB.out.cell (World.block_lt_of_cell? w _ hw117_2)).trans hw117_2), ((HB.out.cell (World.block_lt_of_cell? w _ hw117_3)).trans hw117_3)⟩ (fun hHeld => ?_)
    clear hK K
    refine norm_ (a' := ?_) ?_ ?_; rotate_left; show Act.put _ (some 72) _ = _; simp only [Cap.pz]; rfl
    refine Cap.pu (v := ?_) (a' := ?_) 50 (some 73) zf71 HT_ rfl rfl (by kernel_rfl) (fun _ _ _ h => h) (Or.inl ⟨by rfl, ?_⟩) ?_ ?_; rotate_left; intro w'; go_simp; with_reducible rfl; rotate_left; simp only [Cap.pz]; rfl
    refine done_ (done_of HT_.out (by kernel_rfl)) ?_
    try go_wp2
    go_meet
    case rel => (try rw [← Nbq25.out]); exact ⟨_, (t119), (by first | rfl | (simp; done) | (simp [*]; done)), H', ⟨by have := HK1.out; first | omega | exact Nat.le_refl _⟩, ⟨by first | exact Grow.rg HO_3.out | exact HO_3.out⟩, ⟨by first | exact Grow.bk BK111.out | exact BK111.out⟩, ⟨by first | exact Grow.bk BK116.out | exact BK116.out⟩, ⟨by repeat (first | (with_reducible first | exact HB.out | apply below_alloc | apply pw_below_drewN | apply below_drew1 | refine below_set ?_ GE111.out | refine below_set ?_ GE116.out) | exact HB.out)⟩⟩
   case rest =>
    clear HC11
    try clear c2
    try clear p2
    try clear c5
    try clear c23
    try clear c24
    try clear c54
    try clear c54b0
    try clear c56
    try clear c57
    obtain ⟨kq, x73_10, rfl, HA, HJ10, HO_3, BK111, BK116, HB⟩ := hcut
    cases kq with
    | zero => exact absurd HA.out (by simp [spec_RunFault.j1])
    | succ kj10 =>
     have H := HA.out
     clear HA
     simp only [spec_RunFault.j1] at H
     by_cases c72 : x73_10 = true
     ·
      subst c72
      have H1 : (some 1) = some r := by rw [if_pos rfl] at H; exact H
      clear H
      have H := H1
      clear H1
      obtain rfl := Option.some.inj H
      go_wp2
      go_ret
      exact ⟨by first | rfl | (simp [errW_none, errW_some] <;> rfl) | (simp [*, errW_none, errW_some] <;> rfl), by repeat (first | (with_reducible first | exact HB.out | apply below_alloc | apply pw_below_drewN | apply below_drew1 | refine below_set ?_ GE111.out | refine below_set ?_ GE116.out) | exact HB.out)⟩
     replace c72 := Bool.eq_false_iff.mpr c72
     subst c72
     have H1 : (if x3_1.length < 17592186044416 then (spec_RunFault.l0 kj10 (x3_1 ++ [((rd_T43 l0_0 x4_1).f1)]) (wrap64 (x4_1 + 1)) l0_0) else (none)) = some r := by rw [if_neg (show ¬ (false = true) by decide)] at H; exact H
     clear H
     have H := H1
     clear H1
     by_cases c73 : x3_1.length < 17592186044416
     rotate_left
     ·
      rw [if_neg c73] at H
      exact absurd H (by simp)
     rw [if_pos c73] at H
     have LMc73 := Aside0.mk c73
     clear c73
     obtain ⟨y125, hy125⟩ : ∃ y_ : List Int, y_ = (x3_1 ++ [((rd_T43 l0_0 x4_1).f1)]) := ⟨_, rfl⟩
     replace H : (spec_RunFault.l0 kj10 y125 (wrap64 (x4_1 + 1)) l0_0) = some r := by first | (rw [hy125]; with_reducible exact H) | (have H2_ := (Option.bind_some _ _).symm.trans H; rw [hy125]; with_reducible exact H2_) | (have H2_ := (Option.bind_some _ _).symm.trans H; with_reducible exact H2_) | with_reducible exact H | (rw [hy125]; exact H) | exact H
     have Ny125 := Aside0.mk hy125
     clear hy125
     have H' := Aside0.mk H
     clear H
     have hnb74 := NB116_111.out
     have hnc74 := NB111_116.out
     have hcz75_0 : wc.cell? ⟨gb116, 0, none⟩ = some (.string ((rd_T43 l0_0 x4_1).f0)) := (blk_cell BK116.out 0).trans rfl
     have hcz75_1 : wc.cell? ⟨gb116, 1, none⟩ = some (.int .i64 ((rd_T43 l0_0 x4_1).f1)) := (blk_cell BK116.out 1).trans rfl
     have hcz75_2 : wc.cell? ⟨gb116, 2, none⟩ = some (.bool ((rd_T43 l0_0 x4_1).f2)) := (blk_cell BK116.out 2).trans rfl
     have hcz75_3 : wc.cell? ⟨gb116, 3, none⟩ = some (.string ((rd_T43 l0_0 x4_1).f3)) := (blk_cell BK116.out 3).trans rfl
     have hfz75_0 := blk_frozen BK116.out 0
     have hfz75_1 := blk_frozen BK116.out 1
     have hfz75_2 := blk_frozen BK116.out 2
     have hfz75_3 := blk_frozen BK116.out 3
     go_wp2_with (first | ((with_reducible refine gate_builtin (b := .append) (xs := #[.tmp 74, .tmp 77]) rfl ?_); (try (refine gate_guard (by rfl) ?_; dsimp only)); at_builtin; refine Kd.R_append (Kd.int .i64) (w0 := w) w.heap.size rfl (.tmp 74) (.tmp 77) 47 2 (.int .i64 0) 8 rfl Try.underlying47 info2 rfl (by decide) (by omega) u3 x3_1 ((rd_T43 l0_0 x4_1).f1) [.int .i64 ((rd_T43 l0_0 x4_1).f1)] (fun _ => True) (fun _ => False) rfl rfl ?aP (fun _ hk => hk.elim) ?aF ?aO ?aB ?aS ?aL ?_; (case aP => exact rfl); (case aB => exact (by repeat (first | (with_reducible first | exact HB.out | apply below_alloc | apply pw_below_drewN | apply below_drew1 | refine below_set ?_ GE111.out | refine below_set ?_ GE116.out) | exact HB.out))); (case aF => exact (fun _ _ => trivial)); (case aO => exact (by first | exact Grow.rg HO_3.out | exact HO_3.out)); (case aS => exact (below_size (by repeat (first | (with_reducible first | exact HB.out | apply below_alloc | apply pw_below_drewN | apply below_drew1 | refine below_set ?_ GE111.out | refine below_set ?_ GE116.out) | exact HB.out)))); (case aL => have := LMc73.out; omega); intro v126 w76 ho hb hg hat; rw [← Ny125.out] at ho; have n0_ := Aside0.mk (blk_grown (g := gb111) (o := .cells #[.slice (some ad115) l0_0.length c0_0] 26 (0, 0)) (by first | exact Grow.bk BK111.out | exact BK111.out) hg (by first | exact Kd.R_ne HO_3.out BK111.out (by decide) | exact fun e_ => (HO_3.out.1 gb111 e_.symm).2 rfl)); have n1_ := Aside0.mk (blk_grown (g := gb116) (o := .cells #[.string ((rd_T43 l0_0 x4_1).f0), .int .i64 ((rd_T43 l0_0 x4_1).f1), .bool ((rd_T43 l0_0 x4_1).f2), .string ((rd_T43 l0_0 x4_1).f3)] 43 (0, 0)) (by first | exact Grow.bk BK116.out | exact BK116.out) hg (by first | exact Kd.R_ne HO_3.out BK116.out (by decide) | exact fun e_ => (HO_3.out.1 gb116 e_.symm).2 rfl)); have n2_ := Aside0.mk (hb); have n3_ := Aside0.mk (ho); clear BK111; clear BK116; clear HB; clear HO_3; have BK111 := n0_; have BK116 := n1_; have HB := n2_; have HO127 := n3_; clear n0_ n1_ n2_ n3_; clear ho hb hg hat))
     go_roundg kj10
     case measure => have := HK1.out; have := HJ10.out; omega
     case rel => exact ⟨(y125), (wrap64 (x4_1 + 1)), (by first | rfl | (simp; done) | (simp [*]; done)), H', ⟨by have := HK1.out; have := HJ10.out; omega⟩, ⟨by first | exact Grow.rg HO127.out | exact HO127.out⟩, ⟨by first | exact Grow.bk BK111.out | exact BK111.out⟩, ⟨by repeat (first | (with_reducible first | exact HB.out | apply below_alloc | apply pw_below_drewN | apply below_drew1 | refine below_set ?_ GE111.out | refine below_set ?_ GE116.out) | exact HB.out)⟩⟩
end Go.Proofs.Ytjjccaepbfijeaa.QFnExactMergeRuns
