-- A text of this session, printed by a program of its own (wip/tools: xpatch.py, xprint.sh, mkq.py). No condition.
import Derived.Test.YtjjccaepbfijeaaQFnExactMergeRunsx0
import Derived.Test.YtjjccaepbfijeaaQFnExactMergeRunsx5
namespace Go.Proofs.Ytjjccaepbfijeaa.QFnExactMergeRuns
open Go.RowKit Go.Proofs.YtjjccaepbfijeaaW.PrintWords Go.Proofs.YtjjccaepbfijeaaW.PrintLast Go.Proofs.YtjjccaepbfijeaaW.PrintMore
attribute [local go_sem] max2_int min2_int max_two min_two max_three min_three max_four min_four   -- for this text's walks alone
set_option linter.unusedVariables false
set_option linter.unusedSimpArgs false
/-! ### impl_RunFault: function 17 -/
mutual
def impl_RunFault.l0 : Nat → List Int → List (S43) → Int → Int → List (S43) → Option (Int)
  | 0, _, _, _, _, _ => none
  | k + 1, x3, x12, x13, x14, x207000 => if x14 < x13 then (if 0 ≤ x14 then (if x14 < (x12.length : Int) then (if (((rd_T43 x12 x14).f0).size : Int) < 1 then (impl_RunFault.j1 k x3 x14 x12 x13 x14 true x207000 ((rd_T43 x12 x14).f0) ((rd_T43 x12 x14).f1) ((rd_T43 x12 x14).f2) ((rd_T43 x12 x14).f3)) else (if (((rd_T43 x12 x14).f0).size : Int) > 200 then (impl_RunFault.j1 k x3 x14 x12 x13 x14 true x207000 ((rd_T43 x12 x14).f0) ((rd_T43 x12 x14).f1) ((rd_T43 x12 x14).f2) ((rd_T43 x12 x14).f3)) else (if ((rd_T43 x12 x14).f1) < 1 then (impl_RunFault.j1 k x3 x14 x12 x13 x14 true x207000 ((rd_T43 x12 x14).f0) ((rd_T43 x12 x14).f1) ((rd_T43 x12 x14).f2) ((rd_T43 x12 x14).f3)) else (if (rd_T43 x12 x14).f2 = true then (if ((rd_T43 x12 x14).f3).toList = ([] : List UInt8) then (if (((rd_T43 x12 x14).f3).size : Int) > 100000 then (impl_RunFault.j1 k x3 x14 x12 x13 x14 true x207000 ((rd_T43 x12 x14).f0) ((rd_T43 x12 x14).f1) ((rd_T43 x12 x14).f2) ((rd_T43 x12 x14).f3)) else ((mapHas.f x3 ((rd_T43 x12 x14).f1)).bind fun t212 => (impl_RunFault.j1 k x3 x14 x12 x13 x14 t212 x207000 ((rd_T43 x12 x14).f0) ((rd_T43 x12 x14).f1) ((rd_T43 x12 x14).f2) ((rd_T43 x12 x14).f3)))) else (impl_RunFault.j1 k x3 x14 x12 x13 x14 true x207000 ((rd_T43 x12 x14).f0) ((rd_T43 x12 x14).f1) ((rd_T43 x12 x14).f2) ((rd_T43 x12 x14).f3))) else (if (((rd_T43 x12 x14).f3).size : Int) > 100000 then (impl_RunFault.j1 k x3 x14 x12 x13 x14 true x207000 ((rd_T43 x12 x14).f0) ((rd_T43 x12 x14).f1) ((rd_T43 x12 x14).f2) ((rd_T43 x12 x14).f3)) else ((mapHas.f x3 ((rd_T43 x12 x14).f1)).bind fun t213 => (impl_RunFault.j1 k x3 x14 x12 x13 x14 t213 x207000 ((rd_T43 x12 x14).f0) ((rd_T43 x12 x14).f1) ((rd_T43 x12 x14).f2) ((rd_T43 x12 x14).f3)))))))) else (none)) else (none)) else (some 0)
def impl_RunFault.j1 : Nat → List Int → Int → List (S43) → Int → Int → Bool → List (S43) → ByteArray → Int → Bool → ByteArray → Option (Int)
  | 0, _, _, _, _, _, _, _, _, _, _, _ => none
  | k + 1, x3, x4, x12, x13, x14, x54, x207000, x212000, x212001, x212002, x212003 => if x54 = true then (some 1) else (if x4 > 0 then (if 0 ≤ (wrap64 (x4 - 1)) then (if (wrap64 (x4 - 1)) < (x207000.length : Int) then ((impl_entryOrder.f ((rd_T43 x207000 (wrap64 (x4 - 1))).f0) ((rd_T43 x207000 (wrap64 (x4 - 1))).f1) ((rd_T43 x207000 (wrap64 (x4 - 1))).f2) ((rd_T43 x207000 (wrap64 (x4 - 1))).f3) x212000 x212001 x212002 x212003).bind fun t215 => (impl_RunFault.j2 k x3 x12 x13 x14 (decide (t215 ≥ 0)) x207000 x212000 x212001 x212002 x212003)) else (none)) else (none)) else (impl_RunFault.j2 k x3 x12 x13 x14 false x207000 x212000 x212001 x212002 x212003))
def impl_RunFault.j2 : Nat → List Int → List (S43) → Int → Int → Bool → List (S43) → ByteArray → Int → Bool → ByteArray → Option (Int)
  | 0, _, _, _, _, _, _, _, _, _, _ => none
  | k + 1, x3, x12, x13, x14, x67, x207000, x212000, x212001, x212002, x212003 => if x67 = true then (some 1) else ((keyIn.f x212001).bind fun t216 => (if x3.length < 17592186044416 then (impl_RunFault.l0 k (x3 ++ [t216]) x12 x13 (wrap64 (x14 + 1)) x207000) else (none)))
end
def impl_RunFault.f (k : Nat) (l0_0 : List (S43)) : Option (Int) := if (l0_0.length : Int) > 1000 then (some 1) else (impl_RunFault.l0 k (([] : List Int)) l0_0 (l0_0.length : Int) 0 l0_0)
def impl_RunFault.T9 : Bool × List (List Nat × List Nat) := (true, [([], []), ([0], [0]), ([1], [1]), ([2], [2]), ([3, 2], [2, 3]), ([2], [2]), ([5, 2], [2, 5]), ([4, 6, 2], [2, 4, 6]), ([7, 2], [2, 7]), ([2], [2]), ([8, 9, 2, 2], [2, 8, 9]), ([10, 2], [2, 10]), ([2, 11], [2, 11])])
def impl_RunFault.B9 : List Nat := [0, 1, 3, 7, 15, 7, 39, 127, 255, 7, 1023, 2047, 4095]
theorem impl_RunFault.tab9 : rtab .any (opsOf Try.f17 9) = impl_RunFault.T9 := by kernel_rfl
theorem impl_RunFault.bits9 : waitsOk impl_RunFault.T9.2 impl_RunFault.B9 = true := by kernel_rfl
set_option maxHeartbeats 8000000 in
set_option maxRecDepth 100000 in
theorem impl_RunFault.calls (k : Nat) (A0_0 : Option Addr) (c0_0 : Nat) (l0_0 : List (S43)) (r : Int) (w : World) (hr0_0 : Kd.C k43 w A0_0 l0_0.length l0_0) (hc0_0 : l0_0.length ≤ c0_0) (h : impl_RunFault.f k l0_0 = some r) :
  Calls Try.prog 17 #[.agg #[.slice A0_0 l0_0.length c0_0]] w fun e w' => e = .returned (.int .i64 r) ∧ Below w.heap.size w w' := by
 have hu26 := Try.underlying26
 have hu43 := Try.underlying43
 have HR0_0 := Aside0.mk hr0_0
 have HC0_0 := Aside0.mk hc0_0
 clear hr0_0 hc0_0
 have HB := Aside0.mk (Below.refl w.heap.size w)
 have H : (if (l0_0.length : Int) > 1000 then (some 1) else (impl_RunFault.l0 k (([] : List Int)) l0_0 (l0_0.length : Int) 0 l0_0)) = some r := h
 clear h
 by_cases c2 : (l0_0.length : Int) > 1000
 ·
  rw [if_pos c2] at H
  have c2b0 : decide (1000 < (l0_0.length : Int)) = true := decide_eq_true c2
  have c2b1 : decide (1000 < l0_0.length) = true := decide_eq_true (by omega)
  clear c2
  obtain rfl := Option.some.inj H
  go_enter Try.func17, Try.ntmps17
  go_wp2_with (first | ((with_reducible refine gate_dst (N := 1) rfl ?_); (try (refine gate_guard (by rfl) ?_; dsimp only)); refine box_event ?hg (N := 1) ?hd (cs := #[.slice A0_0 l0_0.length c0_0]) (t := 26) ?hr ?_; (case hd => rfl); (case hg => rfl); (case hr => first | (go_simp; done) | (go_simp; rfl)); intro gb206 hg w3 hbox hb; have n0_ := Aside0.mk (below_step (by first | exact Grow.bl HB.out | exact HB.out) hb); have n1_ := Aside0.mk (hbox); have n2_ := Aside0.mk ((by rw [hg]; exact (below_size (by first | exact Grow.bl HB.out | exact HB.out)) : w.heap.size ≤ gb206)); have n3_ := Aside0.mk ((by rw [hg]; exact (below_size (by first | exact Grow.bl HB.out | exact HB.out)) : w.heap.size ≤ gb206)); clear HB; have HB := n0_; have BK206 := n1_; have GW206 := n2_; have GE206 := n3_; clear n0_ n1_ n2_ n3_; clear hb hbox hg; have hcz4_0 : w3.cell? ⟨gb206, 0, none⟩ = some (.slice A0_0 l0_0.length c0_0) := (blk_cell BK206.out 0).trans rfl; have hfz4_0 := blk_frozen BK206.out 0))
  go_ret
  exact ⟨by first | rfl | (simp [errW_none, errW_some] <;> rfl) | (simp [*, errW_none, errW_some] <;> rfl), by repeat (first | (with_reducible first | exact HB.out | apply below_alloc | apply pw_below_drewN | apply below_drew1 | refine below_set ?_ GE206.out) | exact HB.out)⟩
 rw [if_neg c2] at H
 have c2b0 : decide (1000 < (l0_0.length : Int)) = false := decide_eq_false c2
 have c2b1 : decide (1000 < l0_0.length) = false := decide_eq_false (by omega)
 clear c2
 obtain ⟨y207, hy207⟩ : ∃ y_ : List Int, y_ = (([] : List Int)) := ⟨_, rfl⟩
 replace H : (impl_RunFault.l0 k y207 l0_0 (l0_0.length : Int) 0 l0_0) = some r := by first | (rw [hy207]; with_reducible exact H) | (have H2_ := (Option.bind_some _ _).symm.trans H; rw [hy207]; with_reducible exact H2_) | (have H2_ := (Option.bind_some _ _).symm.trans H; with_reducible exact H2_) | with_reducible exact H | (rw [hy207]; exact H) | exact H
 have Ny207 := Aside0.mk hy207
 clear hy207
 have H' := Aside0.mk H
 clear H
 go_enter Try.func17, Try.ntmps17
 go_wp2_with (first | ((with_reducible refine gate_dst (N := 1) rfl ?_); (try (refine gate_guard (by rfl) ?_; dsimp only)); refine box_event ?hg (N := 1) ?hd (cs := #[.slice A0_0 l0_0.length c0_0]) (t := 26) ?hr ?_; (case hd => rfl); (case hg => rfl); (case hr => first | (go_simp; done) | (go_simp; rfl)); intro gb206 hg w5 hbox hb; have n0_ := Aside0.mk (below_step (by first | exact Grow.bl HB.out | exact HB.out) hb); have n1_ := Aside0.mk (hbox); have n2_ := Aside0.mk ((by rw [hg]; exact (below_size (by first | exact Grow.bl HB.out | exact HB.out)) : w.heap.size ≤ gb206)); have n3_ := Aside0.mk ((by rw [hg]; exact (below_size (by first | exact Grow.bl HB.out | exact HB.out)) : w.heap.size ≤ gb206)); clear HB; have HB := n0_; have BK206 := n1_; have GW206 := n2_; have GE206 := n3_; clear n0_ n1_ n2_ n3_; clear hb hbox hg; have hcz6_0 : w5.cell? ⟨gb206, 0, none⟩ = some (.slice A0_0 l0_0.length c0_0) := (blk_cell BK206.out 0).trans rfl; have hfz6_0 := blk_frozen BK206.out 0) | ((with_reducible refine gate_dst (N := 10) rfl ?_); (try (refine gate_guard (by rfl) ?_; dsimp only)); refine MR.R_make rfl rfl rfl ?_; intro v208 w7 ho8 hb hg_ hnew_; clear hg_ hnew_; (first | rw [← Ny207.out] at ho8 | (simp only [Int.reduceToNat] at ho8; rw [← Ny207.out] at ho8)); have n0_ := Aside0.mk (MR.R_lower ho8 (below_size (by repeat (first | (with_reducible first | exact HB.out | apply below_alloc | apply pw_below_drewN | apply below_drew1 | refine below_set ?_ GE206.out) | exact HB.out)))); have n1_ := Aside0.mk (blk_below (g := gb206) (o := .cells #[.slice A0_0 l0_0.length c0_0] 26 (0, 0)) (by first | exact Grow.bk BK206.out | exact BK206.out) hb); have n2_ := Aside0.mk (below_step (by repeat (first | (with_reducible first | exact HB.out | apply below_alloc | apply pw_below_drewN | apply below_drew1 | refine below_set ?_ GE206.out) | exact HB.out)) hb); clear BK206; clear HB; have HO209 := n0_; have BK206 := n1_; have HB := n2_; clear n0_ n1_ n2_; clear hb ho8; have hcz9_0 : w7.cell? ⟨gb206, 0, none⟩ = some (.slice A0_0 l0_0.length c0_0) := (blk_cell BK206.out 0).trans rfl; have hfz9_0 := blk_frozen BK206.out 0))
 go_loopg [14] k (fun kq v14 w' => ∃ (x3_1 : List Int) (x14_1 : Int), v14 = .int .i64 x14_1 ∧ Aside0 (impl_RunFault.l0 kq x3_1 l0_0 (l0_0.length : Int) x14_1 l0_0 = some r) ∧ Aside0 (kq ≤ k) ∧ Aside0 (MR.R w' w.heap.size (fun _ => True) v208 x3_1) ∧ Aside0 (w'.heap[gb206]? = some (.cells #[(.slice A0_0 l0_0.length c0_0)] 26 (0, 0))) ∧ Aside0 (Below w.heap.size w w'))
 case atStart => exact ⟨(y207), (0), (by first | rfl | (simp; done) | (simp [*]; done)), H', ⟨Nat.le_refl _⟩, ⟨by (with_reducible repeat (first | apply MR.R_alloc | apply MR.R_drewN | apply MR.R_drew)); exact HO209.out⟩, ⟨by first | exact Grow.bk BK206.out | exact BK206.out⟩, ⟨by repeat (first | (with_reducible first | exact HB.out | apply below_alloc | apply pw_below_drewN | apply below_drew1 | refine below_set ?_ GE206.out) | exact HB.out)⟩⟩
 case round =>
  clear H'
  try clear c1
  try clear c2
  try clear c2b0
  try clear c2b1
  try clear p2
  try clear hcz4_0
  try clear hcz6_0
  try clear hcz9_0
  try clear hfz4_0
  try clear hfz6_0
  try clear hfz9_0
  obtain ⟨x3_1, x14_1, rfl, HA, HK1, HO_3, BK206, HB⟩ := hrel
  cases gk with
  | zero => exact absurd HA.out (by simp [impl_RunFault.l0])
  | succ k1 =>
   have H := HA.out
   clear HA
   simp only [impl_RunFault.l0] at H
   by_cases c10 : x14_1 < (l0_0.length : Int)
   rotate_left
   ·
    rw [if_neg c10] at H
    have c10b0 : decide (x14_1 < (l0_0.length : Int)) = false := decide_eq_false c10
    clear c10
    obtain rfl := Option.some.inj H
    go_wp2
    go_ret
    exact ⟨by first | rfl | (simp [errW_none, errW_some] <;> rfl) | (simp [*, errW_none, errW_some] <;> rfl), by repeat (first | (with_reducible first | exact HB.out | apply below_alloc | apply pw_below_drewN | apply below_drew1 | refine below_set ?_ GE206.out) | exact HB.out)⟩
   rw [if_pos c10] at H
   have c10b0 : decide (x14_1 < (l0_0.length : Int)) = true := decide_eq_true c10
   clear c10
   by_cases c11 : 0 ≤ x14_1
   rotate_left
   ·
    rw [if_neg c11] at H
    exact absurd H (by simp)
   rw [if_pos c11] at H
   have c11b0 : decide (0 ≤ x14_1) = true := decide_eq_true c11
   clear c11
   by_cases c12 : x14_1 < (l0_0.length : Int)
   rotate_left
   ·
    rw [if_neg c12] at H
    exact absurd H (by simp)
   rw [if_pos c12] at H
   have c12b0 : decide (x14_1 < (l0_0.length : Int)) = true := decide_eq_true c12
   clear c12
   have HC13 := Aside0.mk H
   clear H
   have p210 : 0 ≤ (x14_1 : Int) := of_decide_eq_true (by first | (with_reducible assumption) | assumption)
   have q210 : x14_1 < (l0_0.length : Int) := of_decide_eq_true (by first | (with_reducible assumption) | assumption)
   obtain ⟨ad210, e210, hx210_0, hx210_1, hx210_2, hx210_3⟩ := at_T43 HR0_0.out x14_1 p210 q210
   cases e210
   replace hx210_0 := Grow.bc HB.out hx210_0
   replace hx210_1 := Grow.bc HB.out hx210_1
   replace hx210_2 := Grow.bc HB.out hx210_2
   replace hx210_3 := Grow.bc HB.out hx210_3
   replace p210 := eq_true p210
   replace q210 := eq_true q210
   go_upto_region 7 with (first | ((with_reducible refine gate_dst (N := 5) rfl ?_); (try (refine gate_guard (by rfl) ?_; dsimp only)); refine box_event ?hg (N := 5) ?hd (cs := #[.string (⟨#[]⟩ : ByteArray), .int .i64 0, .bool false, .string (⟨#[]⟩ : ByteArray)]) (t := 43) ?hr ?_; (case hd => rfl); (case hg => rfl); (case hr => first | (go_simp; done) | (go_simp; rfl)); intro gb211 hg w14 hbox hb; have n0_ := Aside0.mk (MR.R_below (by (with_reducible repeat (first | apply MR.R_alloc | apply MR.R_drewN | apply MR.R_drew)); exact HO_3.out) hb); have n1_ := Aside0.mk (blk_below (g := gb206) (o := .cells #[.slice (some ad210) l0_0.length c0_0] 26 (0, 0)) (by first | exact Grow.bk BK206.out | exact BK206.out) hb); have n2_ := Aside0.mk (below_step (by repeat (first | (with_reducible first | exact HB.out | apply below_alloc | apply pw_below_drewN | apply below_drew1 | refine below_set ?_ GE206.out) | exact HB.out)) hb); have n3_ := Aside0.mk (hbox); have n4_ := Aside0.mk ((by rw [hg]; exact (below_size (by repeat (first | (with_reducible first | exact HB.out | apply below_alloc | apply pw_below_drewN | apply below_drew1 | refine below_set ?_ GE206.out) | exact HB.out))) : w.heap.size ≤ gb211)); have n5_ := Aside0.mk ((by rw [hg]; exact (below_size (by repeat (first | (with_reducible first | exact HB.out | apply below_alloc | apply pw_below_drewN | apply below_drew1 | refine below_set ?_ GE206.out) | exact HB.out))) : w.heap.size ≤ gb211)); have n6_ := Aside0.mk ((by rw [hg]; exact Nat.ne_of_lt (blk_lt (g := gb206) (o := .cells #[.slice (some ad210) l0_0.length c0_0] 26 (0, 0)) (by first | exact Grow.bk BK206.out | exact BK206.out)) : gb206 ≠ gb211)); have n7_ := Aside0.mk ((by rw [hg]; exact Nat.ne_of_gt (blk_lt (g := gb206) (o := .cells #[.slice (some ad210) l0_0.length c0_0] 26 (0, 0)) (by first | exact Grow.bk BK206.out | exact BK206.out)) : gb211 ≠ gb206)); clear HO_3; clear BK206; clear HB; have HO_3 := n0_; have BK206 := n1_; have HB := n2_; have BK211 := n3_; have GW211 := n4_; have GE211 := n5_; have NB206_211 := n6_; have NB211_206 := n7_; clear n0_ n1_ n2_ n3_ n4_ n5_ n6_ n7_; clear hb hbox hg; have hnb15 := NB211_206.out; have hnc15 := NB206_211.out; have hcz16_0 : w14.cell? ⟨gb211, 0, none⟩ = some (.string (⟨#[]⟩ : ByteArray)) := (blk_cell BK211.out 0).trans rfl; have hcz16_1 : w14.cell? ⟨gb211, 1, none⟩ = some (.int .i64 0) := (blk_cell BK211.out 1).trans rfl; have hcz16_2 : w14.cell? ⟨gb211, 2, none⟩ = some (.bool false) := (blk_cell BK211.out 2).trans rfl; have hcz16_3 : w14.cell? ⟨gb211, 3, none⟩ = some (.string (⟨#[]⟩ : ByteArray)) := (blk_cell BK211.out 3).trans rfl; have hfz16_0 := blk_frozen BK211.out 0; have hfz16_1 := blk_frozen BK211.out 1; have hfz16_2 := blk_frozen BK211.out 2; have hfz16_3 := blk_frozen BK211.out 3))
   (try simp only [Act.put, List.setIfInBounds_toArray, List.set_cons_zero, List.set_cons_succ])
   go_cut [54] (fun v54 wc => ∃ (kq : Nat) (x54_12 : Bool), v54 = .bool x54_12 ∧ Aside0 (impl_RunFault.j1 kq x3_1 x14_1 l0_0 (l0_0.length : Int) x14_1 x54_12 l0_0 ((rd_T43 l0_0 x14_1).f0) ((rd_T43 l0_0 x14_1).f1) ((rd_T43 l0_0 x14_1).f2) ((rd_T43 l0_0 x14_1).f3) = some r) ∧ Aside0 (kq ≤ k1) ∧ Aside0 (MR.R wc w.heap.size (fun _ => True) v208 x3_1) ∧ Aside0 (wc.heap[gb206]? = some (.cells #[(.slice (some ad210) l0_0.length c0_0)] 26 (0, 0))) ∧ Aside0 (wc.heap[gb211]? = some (.cells #[.string ((rd_T43 l0_0 x14_1).f0), .int .i64 ((rd_T43 l0_0 x14_1).f1), .bool ((rd_T43 l0_0 x14_1).f2), .string ((rd_T43 l0_0 x14_1).f3)] 43 (0, 0))) ∧ Aside0 (Below w.heap.size w wc))
   case first =>
    have H := HC13.out
    clear HC13
    by_cases c17 : (((rd_T43 l0_0 x14_1).f0).size : Int) < 1
    ·
     rw [if_pos c17] at H
     have c17b0 : decide ((((rd_T43 l0_0 x14_1).f0).size : Int) < 1) = true := decide_eq_true c17
     have c17b1 : decide (((rd_T43 l0_0 x14_1).f0).size < 1) = true := decide_eq_true (by omega)
     clear c17
     (first | rw [c17b0] | rw [c17b1] | (simp only [i64_w, i32_w]; rw [c17b0]) | skip)
     have H' := Aside0.mk H
     clear H
     have hnb18 := NB211_206.out
     have hnc18 := NB206_211.out
     have hcz19_0 : w14.cell? ⟨gb211, 0, none⟩ = some (.string (⟨#[]⟩ : ByteArray)) := (blk_cell BK211.out 0).trans rfl
     have hcz19_1 : w14.cell? ⟨gb211, 1, none⟩ = some (.int .i64 0) := (blk_cell BK211.out 1).trans rfl
     have hcz19_2 : w14.cell? ⟨gb211, 2, none⟩ = some (.bool false) := (blk_cell BK211.out 2).trans rfl
     have hcz19_3 : w14.cell? ⟨gb211, 3, none⟩ = some (.string (⟨#[]⟩ : ByteArray)) := (blk_cell BK211.out 3).trans rfl
     have hfz19_0 := blk_frozen BK211.out 0
     have hfz19_1 := blk_frozen BK211.out 1
     have hfz19_2 := blk_frozen BK211.out 2
     have hfz19_3 := blk_frozen BK211.out 3
     go_wp2
     go_meet
     case rel => exact ⟨_, (true), (by first | rfl | (simp; done) | (simp [*]; done)), H', ⟨by have := HK1.out; first | omega | exact Nat.le_refl _⟩, ⟨by (with_reducible repeat (first | apply MR.R_alloc | apply MR.R_drewN | apply MR.R_drew)); exact MR.R_mono (MR.R_far (p := ⟨gb211, 3, none⟩) (MR.R_far (p := ⟨gb211, 2, none⟩) (MR.R_far (p := ⟨gb211, 1, none⟩) (MR.R_far (p := ⟨gb211, 0, none⟩) (MR.R_types HO_3.out BK211.out (by decide)) (fun _ hk => hk.2) (.string ((rd_T43 l0_0 x14_1).f0))) (fun _ hk => hk.2) (.int .i64 ((rd_T43 l0_0 x14_1).f1))) (fun _ hk => hk.2) (.bool ((rd_T43 l0_0 x14_1).f2))) (fun _ hk => hk.2) (.string ((rd_T43 l0_0 x14_1).f3))) (fun _ hk => trivial)⟩, ⟨by (with_reducible repeat (first | refine blk_drewN ?_ _ | refine blk_drew ?_ | refine blk_alloc ?_ _)); refine blk_far ?_ NB206_211.out _; (with_reducible repeat (first | refine blk_drewN ?_ _ | refine blk_drew ?_ | refine blk_alloc ?_ _)); refine blk_far ?_ NB206_211.out _; (with_reducible repeat (first | refine blk_drewN ?_ _ | refine blk_drew ?_ | refine blk_alloc ?_ _)); refine blk_far ?_ NB206_211.out _; (with_reducible repeat (first | refine blk_drewN ?_ _ | refine blk_drew ?_ | refine blk_alloc ?_ _)); refine blk_far ?_ NB206_211.out _; (with_reducible repeat (first | refine blk_drewN ?_ _ | refine blk_drew ?_ | refine blk_alloc ?_ _)); exact BK206.out⟩, ⟨by (with_reducible repeat (first | refine blk_drewN ?_ _ | refine blk_drew ?_ | refine blk_alloc ?_ _)); refine blk_put (cs := #[.string ((rd_T43 l0_0 x14_1).f0), .int .i64 ((rd_T43 l0_0 x14_1).f1), .bool ((rd_T43 l0_0 x14_1).f2), .string (⟨#[]⟩ : ByteArray)]) ?_ 3 _ rfl; (with_reducible repeat (first | refine blk_drewN ?_ _ | refine blk_drew ?_ | refine blk_alloc ?_ _)); refine blk_put (cs := #[.string ((rd_T43 l0_0 x14_1).f0), .int .i64 ((rd_T43 l0_0 x14_1).f1), .bool false, .string (⟨#[]⟩ : ByteArray)]) ?_ 2 _ rfl; (with_reducible repeat (first | refine blk_drewN ?_ _ | refine blk_drew ?_ | refine blk_alloc ?_ _)); refine blk_put (cs := #[.string ((rd_T43 l0_0 x14_1).f0), .int .i64 0, .bool false, .string (⟨#[]⟩ : ByteArray)]) ?_ 1 _ rfl; (with_reducible repeat (first | refine blk_drewN ?_ _ | refine blk_drew ?_ | refine blk_alloc ?_ _)); refine blk_put (cs := #[.string (⟨#[]⟩ : ByteArray), .int .i64 0, .bool false, .string (⟨#[]⟩ : ByteArray)]) ?_ 0 _ rfl; (with_reducible repeat (first | refine blk_drewN ?_ _ | refine blk_drew ?_ | refine blk_alloc ?_ _)); exact BK211.out⟩, ⟨by repeat (first | (with_reducible first | exact HB.out | apply below_alloc | apply pw_below_drewN | apply below_drew1 | refine below_set ?_ GE206.out | refine below_set ?_ GE211.out) | exact HB.out)⟩⟩
    rw [if_neg c17] at H
    have c17b0 : decide ((((rd_T43 l0_0 x14_1).f0).size : Int) < 1) = false := decide_eq_false c17
    have c17b1 : decide (((rd_T43 l0_0 x14_1).f0).size < 1) = false := decide_eq_false (by omega)
    clear c17
    (first | rw [c17b0] | rw [c17b1] | (simp only [i64_w, i32_w]; rw [c17b0]) | skip)
    by_cases c20 : (((rd_T43 l0_0 x14_1).f0).size : Int) > 200
    ·
     rw [if_pos c20] at H
     have c20b0 : decide (200 < (((rd_T43 l0_0 x14_1).f0).size : Int)) = true := decide_eq_true c20
     have c20b1 : decide (200 < ((rd_T43 l0_0 x14_1).f0).size) = true := decide_eq_true (by omega)
     clear c20
     have H' := Aside0.mk H
     clear H
     have hnb21 := NB211_206.out
     have hnc21 := NB206_211.out
     have hcz22_0 : w14.cell? ⟨gb211, 0, none⟩ = some (.string (⟨#[]⟩ : ByteArray)) := (blk_cell BK211.out 0).trans rfl
     have hcz22_1 : w14.cell? ⟨gb211, 1, none⟩ = some (.int .i64 0) := (blk_cell BK211.out 1).trans rfl
     have hcz22_2 : w14.cell? ⟨gb211, 2, none⟩ = some (.bool false) := (blk_cell BK211.out 2).trans rfl
     have hcz22_3 : w14.cell? ⟨gb211, 3, none⟩ = some (.string (⟨#[]⟩ : ByteArray)) := (blk_cell BK211.out 3).trans rfl
     have hfz22_0 := blk_frozen BK211.out 0
     have hfz22_1 := blk_frozen BK211.out 1
     have hfz22_2 := blk_frozen BK211.out 2
     have hfz22_3 := blk_frozen BK211.out 3
     go_wp2
     go_meet
     case rel => exact ⟨_, (true), (by first | rfl | (simp; done) | (simp [*]; done)), H', ⟨by have := HK1.out; first | omega | exact Nat.le_refl _⟩, ⟨by (with_reducible repeat (first | apply MR.R_alloc | apply MR.R_drewN | apply MR.R_drew)); exact MR.R_mono (MR.R_far (p := ⟨gb211, 3, none⟩) (MR.R_far (p := ⟨gb211, 2, none⟩) (MR.R_far (p := ⟨gb211, 1, none⟩) (MR.R_far (p := ⟨gb211, 0, none⟩) (MR.R_types HO_3.out BK211.out (by decide)) (fun _ hk => hk.2) (.string ((rd_T43 l0_0 x14_1).f0))) (fun _ hk => hk.2) (.int .i64 ((rd_T43 l0_0 x14_1).f1))) (fun _ hk => hk.2) (.bool ((rd_T43 l0_0 x14_1).f2))) (fun _ hk => hk.2) (.string ((rd_T43 l0_0 x14_1).f3))) (fun _ hk => trivial)⟩, ⟨by (with_reducible repeat (first | refine blk_drewN ?_ _ | refine blk_drew ?_ | refine blk_alloc ?_ _)); refine blk_far ?_ NB206_211.out _; (with_reducible repeat (first | refine blk_drewN ?_ _ | refine blk_drew ?_ | refine blk_alloc ?_ _)); refine blk_far ?_ NB206_211.out _; (with_reducible repeat (first | refine blk_drewN ?_ _ | refine blk_drew ?_ | refine blk_alloc ?_ _)); refine blk_far ?_ NB206_211.out _; (with_reducible repeat (first | refine blk_drewN ?_ _ | refine blk_drew ?_ | refine blk_alloc ?_ _)); refine blk_far ?_ NB206_211.out _; (with_reducible repeat (first | refine blk_drewN ?_ _ | refine blk_drew ?_ | refine blk_alloc ?_ _)); exact BK206.out⟩, ⟨by (with_reducible repeat (first | refine blk_drewN ?_ _ | refine blk_drew ?_ | refine blk_alloc ?_ _)); refine blk_put (cs := #[.string ((rd_T43 l0_0 x14_1).f0), .int .i64 ((rd_T43 l0_0 x14_1).f1), .bool ((rd_T43 l0_0 x14_1).f2), .string (⟨#[]⟩ : ByteArray)]) ?_ 3 _ rfl; (with_reducible repeat (first | refine blk_drewN ?_ _ | refine blk_drew ?_ | refine blk_alloc ?_ _)); refine blk_put (cs := #[.string ((rd_T43 l0_0 x14_1).f0), .int .i64 ((rd_T43 l0_0 x14_1).f1), .bool false, .string (⟨#[]⟩ : ByteArray)]) ?_ 2 _ rfl; (with_reducible repeat (first | refine blk_drewN ?_ _ | refine blk_drew ?_ | refine blk_alloc ?_ _)); refine blk_put (cs := #[.string ((rd_T43 l0_0 x14_1).f0), .int .i64 0, .bool false, .string (⟨#[]⟩ : ByteArray)]) ?_ 1 _ rfl; (with_reducible repeat (first | refine blk_drewN ?_ _ | refine blk_drew ?_ | refine blk_alloc ?_ _)); refine blk_put (cs := #[.string (⟨#[]⟩ : ByteArray), .int .i64 0, .bool false, .string (⟨#[]⟩ : ByteArray)]) ?_ 0 _ rfl; (with_reducible repeat (first | refine blk_drewN ?_ _ | refine blk_drew ?_ | refine blk_alloc ?_ _)); exact BK211.out⟩, ⟨by repeat (first | (with_reducible first | exact HB.out | apply below_alloc | apply pw_below_drewN | apply below_drew1 | refine below_set ?_ GE206.out | refine below_set ?_ GE211.out) | exact HB.out)⟩⟩
    rw [if_neg c20] at H
    have c20b0 : decide (200 < (((rd_T43 l0_0 x14_1).f0).size : Int)) = false := decide_eq_false c20
    have c20b1 : decide (200 < ((rd_T43 l0_0 x14_1).f0).size) = false := decide_eq_false (by omega)
    clear c20
    by_cases c23 : ((rd_T43 l0_0 x14_1).f1) < 1
    ·
     rw [if_pos c23] at H
     have c23b0 : decide (((rd_T43 l0_0 x14_1).f1) < 1) = true := decide_eq_true c23
     clear c23
     have H' := Aside0.mk H
     clear H
     have hnb24 := NB211_206.out
     have hnc24 := NB206_211.out
     have hcz25_0 : w14.cell? ⟨gb211, 0, none⟩ = some (.string (⟨#[]⟩ : ByteArray)) := (blk_cell BK211.out 0).trans rfl
     have hcz25_1 : w14.cell? ⟨gb211, 1, none⟩ = some (.int .i64 0) := (blk_cell BK211.out 1).trans rfl
     have hcz25_2 : w14.cell? ⟨gb211, 2, none⟩ = some (.bool false) := (blk_cell BK211.out 2).trans rfl
     have hcz25_3 : w14.cell? ⟨gb211, 3, none⟩ = some (.string (⟨#[]⟩ : ByteArray)) := (blk_cell BK211.out 3).trans rfl
     have hfz25_0 := blk_frozen BK211.out 0
     have hfz25_1 := blk_frozen BK211.out 1
     have hfz25_2 := blk_frozen BK211.out 2
     have hfz25_3 := blk_frozen BK211.out 3
     go_wp2
     go_meet
     case rel => exact ⟨_, (true), (by first | rfl | (simp; done) | (simp [*]; done)), H', ⟨by have := HK1.out; first | omega | exact Nat.le_refl _⟩, ⟨by (with_reducible repeat (first | apply MR.R_alloc | apply MR.R_drewN | apply MR.R_drew)); exact MR.R_mono (MR.R_far (p := ⟨gb211, 3, none⟩) (MR.R_far (p := ⟨gb211, 2, none⟩) (MR.R_far (p := ⟨gb211, 1, none⟩) (MR.R_far (p := ⟨gb211, 0, none⟩) (MR.R_types HO_3.out BK211.out (by decide)) (fun _ hk => hk.2) (.string ((rd_T43 l0_0 x14_1).f0))) (fun _ hk => hk.2) (.int .i64 ((rd_T43 l0_0 x14_1).f1))) (fun _ hk => hk.2) (.bool ((rd_T43 l0_0 x14_1).f2))) (fun _ hk => hk.2) (.string ((rd_T43 l0_0 x14_1).f3))) (fun _ hk => trivial)⟩, ⟨by (with_reducible repeat (first | refine blk_drewN ?_ _ | refine blk_drew ?_ | refine blk_alloc ?_ _)); refine blk_far ?_ NB206_211.out _; (with_reducible repeat (first | refine blk_drewN ?_ _ | refine blk_drew ?_ | refine blk_alloc ?_ _)); refine blk_far ?_ NB206_211.out _; (with_reducible repeat (first | refine blk_drewN ?_ _ | refine blk_drew ?_ | refine blk_alloc ?_ _)); refine blk_far ?_ NB206_211.out _; (with_reducible repeat (first | refine blk_drewN ?_ _ | refine blk_drew ?_ | refine blk_alloc ?_ _)); refine blk_far ?_ NB206_211.out _; (with_reducible repeat (first | refine blk_drewN ?_ _ | refine blk_drew ?_ | refine blk_alloc ?_ _)); exact BK206.out⟩, ⟨by (with_reducible repeat (first | refine blk_drewN ?_ _ | refine blk_drew ?_ | refine blk_alloc ?_ _)); refine blk_put (cs := #[.string ((rd_T43 l0_0 x14_1).f0), .int .i64 ((rd_T43 l0_0 x14_1).f1), .bool ((rd_T43 l0_0 x14_1).f2), .string (⟨#[]⟩ : ByteArray)]) ?_ 3 _ rfl; (with_reducible repeat (first | refine blk_drewN ?_ _ | refine blk_drew ?_ | refine blk_alloc ?_ _)); refine blk_put (cs := #[.string ((rd_T43 l0_0 x14_1).f0), .int .i64 ((rd_T43 l0_0 x14_1).f1), .bool false, .string (⟨#[]⟩ : ByteArray)]) ?_ 2 _ rfl; (with_reducible repeat (first | refine blk_drewN ?_ _ | refine blk_drew ?_ | refine blk_alloc ?_ _)); refine blk_put (cs := #[.string ((rd_T43 l0_0 x14_1).f0), .int .i64 0, .bool false, .string (⟨#[]⟩ : ByteArray)]) ?_ 1 _ rfl; (with_reducible repeat (first | refine blk_drewN ?_ _ | refine blk_drew ?_ | refine blk_alloc ?_ _)); refine blk_put (cs := #[.string (⟨#[]⟩ : ByteArray), .int .i64 0, .bool false, .string (⟨#[]⟩ : ByteArray)]) ?_ 0 _ rfl; (with_reducible repeat (first | refine blk_drewN ?_ _ | refine blk_drew ?_ | refine blk_alloc ?_ _)); exact BK211.out⟩, ⟨by repeat (first | (with_reducible first | exact HB.out | apply below_alloc | apply pw_below_drewN | apply below_drew1 | refine below_set ?_ GE206.out | refine below_set ?_ GE211.out) | exact HB.out)⟩⟩
    rw [if_neg c23] at H
    have c23b0 : decide (((rd_T43 l0_0 x14_1).f1) < 1) = false := decide_eq_false c23
    clear c23
    obtain ⟨bq26, hbq26⟩ : ∃ b_ : Bool, b_ = ((rd_T43 l0_0 x14_1).f2) := ⟨_, rfl⟩
    replace H : (if bq26 = true then (if ((rd_T43 l0_0 x14_1).f3).toList = ([] : List UInt8) then (if (((rd_T43 l0_0 x14_1).f3).size : Int) > 100000 then (impl_RunFault.j1 k1 x3_1 x14_1 l0_0 (l0_0.length : Int) x14_1 true l0_0 ((rd_T43 l0_0 x14_1).f0) ((rd_T43 l0_0 x14_1).f1) bq26 ((rd_T43 l0_0 x14_1).f3)) else ((mapHas.f x3_1 ((rd_T43 l0_0 x14_1).f1)).bind fun t212 => (impl_RunFault.j1 k1 x3_1 x14_1 l0_0 (l0_0.length : Int) x14_1 t212 l0_0 ((rd_T43 l0_0 x14_1).f0) ((rd_T43 l0_0 x14_1).f1) bq26 ((rd_T43 l0_0 x14_1).f3)))) else (impl_RunFault.j1 k1 x3_1 x14_1 l0_0 (l0_0.length : Int) x14_1 true l0_0 ((rd_T43 l0_0 x14_1).f0) ((rd_T43 l0_0 x14_1).f1) bq26 ((rd_T43 l0_0 x14_1).f3))) else (if (((rd_T43 l0_0 x14_1).f3).size : Int) > 100000 then (impl_RunFault.j1 k1 x3_1 x14_1 l0_0 (l0_0.length : Int) x14_1 true l0_0 ((rd_T43 l0_0 x14_1).f0) ((rd_T43 l0_0 x14_1).f1) bq26 ((rd_T43 l0_0 x14_1).f3)) else ((mapHas.f x3_1 ((rd_T43 l0_0 x14_1).f1)).bind fun t213 => (impl_RunFault.j1 k1 x3_1 x14_1 l0_0 (l0_0.length : Int) x14_1 t213 l0_0 ((rd_T43 l0_0 x14_1).f0) ((rd_T43 l0_0 x14_1).f1) bq26 ((rd_T43 l0_0 x14_1).f3))))) = some r := by rw [← hbq26] at H; exact H
    have Nbq26 := Aside0.mk hbq26
    clear hbq26
    by_cases c27 : bq26 = true
    rotate_left
    ·
     replace c27 := Bool.eq_false_iff.mpr c27
     subst c27
     (try rw [← Nbq26.out])
     have H1 : (if (((rd_T43 l0_0 x14_1).f3).size : Int) > 100000 then (impl_RunFault.j1 k1 x3_1 x14_1 l0_0 (l0_0.length : Int) x14_1 true l0_0 ((rd_T43 l0_0 x14_1).f0) ((rd_T43 l0_0 x14_1).f1) false ((rd_T43 l0_0 x14_1).f3)) else ((mapHas.f x3_1 ((rd_T43 l0_0 x14_1).f1)).bind fun t213 => (impl_RunFault.j1 k1 x3_1 x14_1 l0_0 (l0_0.length : Int) x14_1 t213 l0_0 ((rd_T43 l0_0 x14_1).f0) ((rd_T43 l0_0 x14_1).f1) false ((rd_T43 l0_0 x14_1).f3)))) = some r := by rw [if_neg (show ¬ (false = true) by decide)] at H; exact H
     clear H
     have H := H1
     clear H1
     by_cases c38 : (((rd_T43 l0_0 x14_1).f3).size : Int) > 100000
     ·
      rw [if_pos c38] at H
      have c38b0 : decide (100000 < (((rd_T43 l0_0 x14_1).f3).size : Int)) = true := decide_eq_true c38
      have c38b1 : decide (100000 < ((rd_T43 l0_0 x14_1).f3).size) = true := decide_eq_true (by omega)
      clear c38
      have H' := Aside0.mk H
      clear H
      have hnb39 := NB211_206.out
      have hnc39 := NB206_211.out
      have hcz40_0 : w14.cell? ⟨gb211, 0, none⟩ = some (.string (⟨#[]⟩ : ByteArray)) := (blk_cell BK211.out 0).trans rfl
      have hcz40_1 : w14.cell? ⟨gb211, 1, none⟩ = some (.int .i64 0) := (blk_cell BK211.out 1).trans rfl
      have hcz40_2 : w14.cell? ⟨gb211, 2, none⟩ = some (.bool false) := (blk_cell BK211.out 2).trans rfl
      have hcz40_3 : w14.cell? ⟨gb211, 3, none⟩ = some (.string (⟨#[]⟩ : ByteArray)) := (blk_cell BK211.out 3).trans rfl
      have hfz40_0 := blk_frozen BK211.out 0
      have hfz40_1 := blk_frozen BK211.out 1
      have hfz40_2 := blk_frozen BK211.out 2
      have hfz40_3 := blk_frozen BK211.out 3
      go_wp2
      go_meet
      case rel => (try rw [← Nbq26.out]); exact ⟨_, (true), (by first | rfl | (simp; done) | (simp [*]; done)), H', ⟨by have := HK1.out; first | omega | exact Nat.le_refl _⟩, ⟨by (with_reducible repeat (first | apply MR.R_alloc | apply MR.R_drewN | apply MR.R_drew)); exact MR.R_mono (MR.R_far (p := ⟨gb211, 3, none⟩) (MR.R_far (p := ⟨gb211, 2, none⟩) (MR.R_far (p := ⟨gb211, 1, none⟩) (MR.R_far (p := ⟨gb211, 0, none⟩) (MR.R_types HO_3.out BK211.out (by decide)) (fun _ hk => hk.2) (.string ((rd_T43 l0_0 x14_1).f0))) (fun _ hk => hk.2) (.int .i64 ((rd_T43 l0_0 x14_1).f1))) (fun _ hk => hk.2) (.bool (false))) (fun _ hk => hk.2) (.string ((rd_T43 l0_0 x14_1).f3))) (fun _ hk => trivial)⟩, ⟨by (with_reducible repeat (first | refine blk_drewN ?_ _ | refine blk_drew ?_ | refine blk_alloc ?_ _)); refine blk_far ?_ NB206_211.out _; (with_reducible repeat (first | refine blk_drewN ?_ _ | refine blk_drew ?_ | refine blk_alloc ?_ _)); refine blk_far ?_ NB206_211.out _; (with_reducible repeat (first | refine blk_drewN ?_ _ | refine blk_drew ?_ | refine blk_alloc ?_ _)); refine blk_far ?_ NB206_211.out _; (with_reducible repeat (first | refine blk_drewN ?_ _ | refine blk_drew ?_ | refine blk_alloc ?_ _)); refine blk_far ?_ NB206_211.out _; (with_reducible repeat (first | refine blk_drewN ?_ _ | refine blk_drew ?_ | refine blk_alloc ?_ _)); exact BK206.out⟩, ⟨by (with_reducible repeat (first | refine blk_drewN ?_ _ | refine blk_drew ?_ | refine blk_alloc ?_ _)); refine blk_put (cs := #[.string ((rd_T43 l0_0 x14_1).f0), .int .i64 ((rd_T43 l0_0 x14_1).f1), .bool (false), .string (⟨#[]⟩ : ByteArray)]) ?_ 3 _ rfl; (with_reducible repeat (first | refine blk_drewN ?_ _ | refine blk_drew ?_ | refine blk_alloc ?_ _)); refine blk_put (cs := #[.string ((rd_T43 l0_0 x14_1).f0), .int .i64 ((rd_T43 l0_0 x14_1).f1), .bool false, .string (⟨#[]⟩ : ByteArray)]) ?_ 2 _ rfl; (with_reducible repeat (first | refine blk_drewN ?_ _ | refine blk_drew ?_ | refine blk_alloc ?_ _)); refine blk_put (cs := #[.string ((rd_T43 l0_0 x14_1).f0), .int .i64 0, .bool false, .string (⟨#[]⟩ : ByteArray)]) ?_ 1 _ rfl; (with_reducible repeat (first | refine blk_drewN ?_ _ | refine blk_drew ?_ | refine blk_alloc ?_ _)); refine blk_put (cs := #[.string (⟨#[]⟩ : ByteArray), .int .i64 0, .bool false, .string (⟨#[]⟩ : ByteArray)]) ?_ 0 _ rfl; (with_reducible repeat (first | refine blk_drewN ?_ _ | refine blk_drew ?_ | refine blk_alloc ?_ _)); exact BK211.out⟩, ⟨by repeat (first | (with_reducible first | exact HB.out | apply below_alloc | apply pw_below_drewN | apply below_drew1 | refine below_set ?_ GE206.out | refine below_set ?_ GE211.out) | exact HB.out)⟩⟩
     rw [if_neg c38] at H
     have c38b0 : decide (100000 < (((rd_T43 l0_0 x14_1).f3).size : Int)) = false := decide_eq_false c38
     have c38b1 : decide (100000 < ((rd_T43 l0_0 x14_1).f3).size) = false := decide_eq_false (by omega)
     clear c38
     replace H := Option.bind_eq_some_iff.mp H
     obtain ⟨t213, A410, H⟩ := H
     replace H : (impl_RunFault.j1 k1 x3_1 x14_1 l0_0 (l0_0.length : Int) x14_1 t213 l0_0 ((rd_T43 l0_0 x14_1).f0) ((rd_T43 l0_0 x14_1).f1) false ((rd_T43 l0_0 x14_1).f3)) = some r := H
     have A41 := Aside0.mk A410
     clear A410
     have H' := Aside0.mk H
     clear H
     have hnb42 := NB211_206.out
     have hnc42 := NB206_211.out
     have hcz43_0 : w14.cell? ⟨gb211, 0, none⟩ = some (.string (⟨#[]⟩ : ByteArray)) := (blk_cell BK211.out 0).trans rfl
     have hcz43_1 : w14.cell? ⟨gb211, 1, none⟩ = some (.int .i64 0) := (blk_cell BK211.out 1).trans rfl
     have hcz43_2 : w14.cell? ⟨gb211, 2, none⟩ = some (.bool false) := (blk_cell BK211.out 2).trans rfl
     have hcz43_3 : w14.cell? ⟨gb211, 3, none⟩ = some (.string (⟨#[]⟩ : ByteArray)) := (blk_cell BK211.out 3).trans rfl
     have hfz43_0 := blk_frozen BK211.out 0
     have hfz43_1 := blk_frozen BK211.out 1
     have hfz43_2 := blk_frozen BK211.out 2
     have hfz43_3 := blk_frozen BK211.out 3
     obtain ⟨bo44, eo44⟩ := MR.R_map HO_3.out
     subst eo44
     go_wp2_with (first | ((with_reducible refine gate_dst (N := 53) rfl ?_); (try (refine gate_guard (by rfl) ?_; dsimp only)); refine MR.R_look (base := w.heap.size) (ok := fun _ => True) (xs := x3_1) (y := ((rd_T43 l0_0 x14_1).f1)) (t := t213) rfl rfl rfl rfl (by (with_reducible repeat (first | apply MR.R_alloc | apply MR.R_drewN | apply MR.R_drew)); exact (MR.R_mono (MR.R_far (p := ⟨gb211, 3, none⟩) (MR.R_far (p := ⟨gb211, 2, none⟩) (MR.R_far (p := ⟨gb211, 1, none⟩) (MR.R_far (p := ⟨gb211, 0, none⟩) (MR.R_types HO_3.out BK211.out (by decide)) (fun _ hk => hk.2) (.string ((rd_T43 l0_0 x14_1).f0))) (fun _ hk => hk.2) (.int .i64 ((rd_T43 l0_0 x14_1).f1))) (fun _ hk => hk.2) (.bool (false))) (fun _ hk => hk.2) (.string ((rd_T43 l0_0 x14_1).f3))) (fun _ h_ => h_.1))) (mapHas.of A41.out).1 (mapHas.of A41.out).2 ?_))
     go_meet
     case rel => (try rw [← Nbq26.out]); exact ⟨_, (t213), (by first | rfl | (simp; done) | (simp [*]; done)), H', ⟨by have := HK1.out; first | omega | exact Nat.le_refl _⟩, ⟨by (with_reducible repeat (first | apply MR.R_alloc | apply MR.R_drewN | apply MR.R_drew)); exact MR.R_mono (MR.R_far (p := ⟨gb211, 3, none⟩) (MR.R_far (p := ⟨gb211, 2, none⟩) (MR.R_far (p := ⟨gb211, 1, none⟩) (MR.R_far (p := ⟨gb211, 0, none⟩) (MR.R_types HO_3.out BK211.out (by decide)) (fun _ hk => hk.2) (.string ((rd_T43 l0_0 x14_1).f0))) (fun _ hk => hk.2) (.int .i64 ((rd_T43 l0_0 x14_1).f1))) (fun _ hk => hk.2) (.bool (false))) (fun _ hk => hk.2) (.string ((rd_T43 l0_0 x14_1).f3))) (fun _ hk => trivial)⟩, ⟨by (with_reducible repeat (first | refine blk_drewN ?_ _ | refine blk_drew ?_ | refine blk_alloc ?_ _)); refine blk_far ?_ NB206_211.out _; (with_reducible repeat (first | refine blk_drewN ?_ _ | refine blk_drew ?_ | refine blk_alloc ?_ _)); refine blk_far ?_ NB206_211.out _; (with_reducible repeat (first | refine blk_drewN ?_ _ | refine blk_drew ?_ | refine blk_alloc ?_ _)); refine blk_far ?_ NB206_211.out _; (with_reducible repeat (first | refine blk_drewN ?_ _ | refine blk_drew ?_ | refine blk_alloc ?_ _)); refine blk_far ?_ NB206_211.out _; (with_reducible repeat (first | refine blk_drewN ?_ _ | refine blk_drew ?_ | refine blk_alloc ?_ _)); exact BK206.out⟩, ⟨by (with_reducible repeat (first | refine blk_drewN ?_ _ | refine blk_drew ?_ | refine blk_alloc ?_ _)); refine blk_put (cs := #[.string ((rd_T43 l0_0 x14_1).f0), .int .i64 ((rd_T43 l0_0 x14_1).f1), .bool (false), .string (⟨#[]⟩ : ByteArray)]) ?_ 3 _ rfl; (with_reducible repeat (first | refine blk_drewN ?_ _ | refine blk_drew ?_ | refine blk_alloc ?_ _)); refine blk_put (cs := #[.string ((rd_T43 l0_0 x14_1).f0), .int .i64 ((rd_T43 l0_0 x14_1).f1), .bool false, .string (⟨#[]⟩ : ByteArray)]) ?_ 2 _ rfl; (with_reducible repeat (first | refine blk_drewN ?_ _ | refine blk_drew ?_ | refine blk_alloc ?_ _)); refine blk_put (cs := #[.string ((rd_T43 l0_0 x14_1).f0), .int .i64 0, .bool false, .string (⟨#[]⟩ : ByteArray)]) ?_ 1 _ rfl; (with_reducible repeat (first | refine blk_drewN ?_ _ | refine blk_drew ?_ | refine blk_alloc ?_ _)); refine blk_put (cs := #[.string (⟨#[]⟩ : ByteArray), .int .i64 0, .bool false, .string (⟨#[]⟩ : ByteArray)]) ?_ 0 _ rfl; (with_reducible repeat (first | refine blk_drewN ?_ _ | refine blk_drew ?_ | refine blk_alloc ?_ _)); exact BK211.out⟩, ⟨by repeat (first | (with_reducible first | exact HB.out | apply below_alloc | apply pw_below_drewN | apply below_drew1 | refine below_set ?_ GE206.out | refine below_set ?_ GE211.out) | exact HB.out)⟩⟩
    subst c27
    (try rw [← Nbq26.out])
    have H1 : (if ((rd_T43 l0_0 x14_1).f3).toList = ([] : List UInt8) then (if (((rd_T43 l0_0 x14_1).f3).size : Int) > 100000 then (impl_RunFault.j1 k1 x3_1 x14_1 l0_0 (l0_0.length : Int) x14_1 true l0_0 ((rd_T43 l0_0 x14_1).f0) ((rd_T43 l0_0 x14_1).f1) true ((rd_T43 l0_0 x14_1).f3)) else ((mapHas.f x3_1 ((rd_T43 l0_0 x14_1).f1)).bind fun t212 => (impl_RunFault.j1 k1 x3_1 x14_1 l0_0 (l0_0.length : Int) x14_1 t212 l0_0 ((rd_T43 l0_0 x14_1).f0) ((rd_T43 l0_0 x14_1).f1) true ((rd_T43 l0_0 x14_1).f3)))) else (impl_RunFault.j1 k1 x3_1 x14_1 l0_0 (l0_0.length : Int) x14_1 true l0_0 ((rd_T43 l0_0 x14_1).f0) ((rd_T43 l0_0 x14_1).f1) true ((rd_T43 l0_0 x14_1).f3))) = some r := by rw [if_pos rfl] at H; exact H
    clear H
    have H := H1
    clear H1
    by_cases c28 : ((rd_T43 l0_0 x14_1).f3).toList = ([] : List UInt8)
    rotate_left
    ·
     rw [if_neg c28] at H
     have c28b0 : (((rd_T43 l0_0 x14_1).f3).toList == ([] : List UInt8)) = false := beq_eq_false_iff_ne.mpr c28
     have c28b1 : (((rd_T43 l0_0 x14_1).f3).toList != ([] : List UInt8)) = true := bne_iff_ne.mpr c28
     have H' := Aside0.mk H
     clear H
     have hnb36 := NB211_206.out
     have hnc36 := NB206_211.out
     have hcz37_0 : w14.cell? ⟨gb211, 0, none⟩ = some (.string (⟨#[]⟩ : ByteArray)) := (blk_cell BK211.out 0).trans rfl
     have hcz37_1 : w14.cell? ⟨gb211, 1, none⟩ = some (.int .i64 0) := (blk_cell BK211.out 1).trans rfl
     have hcz37_2 : w14.cell? ⟨gb211, 2, none⟩ = some (.bool false) := (blk_cell BK211.out 2).trans rfl
     have hcz37_3 : w14.cell? ⟨gb211, 3, none⟩ = some (.string (⟨#[]⟩ : ByteArray)) := (blk_cell BK211.out 3).trans rfl
     have hfz37_0 := blk_frozen BK211.out 0
     have hfz37_1 := blk_frozen BK211.out 1
     have hfz37_2 := blk_frozen BK211.out 2
     have hfz37_3 := blk_frozen BK211.out 3
     go_wp2
     go_meet
     case rel => (try rw [← Nbq26.out]); exact ⟨_, (true), (by first | rfl | (simp; done) | (simp [*]; done)), H', ⟨by have := HK1.out; first | omega | exact Nat.le_refl _⟩, ⟨by (with_reducible repeat (first | apply MR.R_alloc | apply MR.R_drewN | apply MR.R_drew)); exact MR.R_mono (MR.R_far (p := ⟨gb211, 3, none⟩) (MR.R_far (p := ⟨gb211, 2, none⟩) (MR.R_far (p := ⟨gb211, 1, none⟩) (MR.R_far (p := ⟨gb211, 0, none⟩) (MR.R_types HO_3.out BK211.out (by decide)) (fun _ hk => hk.2) (.string ((rd_T43 l0_0 x14_1).f0))) (fun _ hk => hk.2) (.int .i64 ((rd_T43 l0_0 x14_1).f1))) (fun _ hk => hk.2) (.bool (true))) (fun _ hk => hk.2) (.string ((rd_T43 l0_0 x14_1).f3))) (fun _ hk => trivial)⟩, ⟨by (with_reducible repeat (first | refine blk_drewN ?_ _ | refine blk_drew ?_ | refine blk_alloc ?_ _)); refine blk_far ?_ NB206_211.out _; (with_reducible repeat (first | refine blk_drewN ?_ _ | refine blk_drew ?_ | refine blk_alloc ?_ _)); refine blk_far ?_ NB206_211.out _; (with_reducible repeat (first | refine blk_drewN ?_ _ | refine blk_drew ?_ | refine blk_alloc ?_ _)); refine blk_far ?_ NB206_211.out _; (with_reducible repeat (first | refine blk_drewN ?_ _ | refine blk_drew ?_ | refine blk_alloc ?_ _)); refine blk_far ?_ NB206_211.out _; (with_reducible repeat (first | refine blk_drewN ?_ _ | refine blk_drew ?_ | refine blk_alloc ?_ _)); exact BK206.out⟩, ⟨by (with_reducible repeat (first | refine blk_drewN ?_ _ | refine blk_drew ?_ | refine blk_alloc ?_ _)); refine blk_put (cs := #[.string ((rd_T43 l0_0 x14_1).f0), .int .i64 ((rd_T43 l0_0 x14_1).f1), .bool (true), .string (⟨#[]⟩ : ByteArray)]) ?_ 3 _ rfl; (with_reducible repeat (first | refine blk_drewN ?_ _ | refine blk_drew ?_ | refine blk_alloc ?_ _)); refine blk_put (cs := #[.string ((rd_T43 l0_0 x14_1).f0), .int .i64 ((rd_T43 l0_0 x14_1).f1), .bool false, .string (⟨#[]⟩ : ByteArray)]) ?_ 2 _ rfl; (with_reducible repeat (first | refine blk_drewN ?_ _ | refine blk_drew ?_ | refine blk_alloc ?_ _)); refine blk_put (cs := #[.string ((rd_T43 l0_0 x14_1).f0), .int .i64 0, .bool false, .string (⟨#[]⟩ : ByteArray)]) ?_ 1 _ rfl; (with_reducible repeat (first | refine blk_drewN ?_ _ | refine blk_drew ?_ | refine blk_alloc ?_ _)); refine blk_put (cs := #[.string (⟨#[]⟩ : ByteArray), .int .i64 0, .bool false, .string (⟨#[]⟩ : ByteArray)]) ?_ 0 _ rfl; (with_reducible repeat (first | refine blk_drewN ?_ _ | refine blk_drew ?_ | refine blk_alloc ?_ _)); exact BK211.out⟩, ⟨by repeat (first | (with_reducible first | exact HB.out | apply below_alloc | apply pw_below_drewN | apply below_drew1 | refine below_set ?_ GE206.out | refine below_set ?_ GE211.out) | exact HB.out)⟩⟩
    rw [if_pos c28] at H
    have c28b0 : (((rd_T43 l0_0 x14_1).f3).toList == ([] : List UInt8)) = true := beq_iff_eq.mpr c28
    have c28b1 : (((rd_T43 l0_0 x14_1).f3).toList != ([] : List UInt8)) = false := bne_eq_false_iff_eq.mpr c28
    clear c28
    by_cases c29 : (((rd_T43 l0_0 x14_1).f3).size : Int) > 100000
    ·
     rw [if_pos c29] at H
     have c29b0 : decide (100000 < (((rd_T43 l0_0 x14_1).f3).size : Int)) = true := decide_eq_true c29
     have c29b1 : decide (100000 < ((rd_T43 l0_0 x14_1).f3).size) = true := decide_eq_true (by omega)
     clear c29
     have H' := Aside0.mk H
     clear H
     have hnb30 := NB211_206.out
     have hnc30 := NB206_211.out
     have hcz31_0 : w14.cell? ⟨gb211, 0, none⟩ = some (.string (⟨#[]⟩ : ByteArray)) := (blk_cell BK211.out 0).trans rfl
     have hcz31_1 : w14.cell? ⟨gb211, 1, none⟩ = some (.int .i64 0) := (blk_cell BK211.out 1).trans rfl
     have hcz31_2 : w14.cell? ⟨gb211, 2, none⟩ = some (.bool false) := (blk_cell BK211.out 2).trans rfl
     have hcz31_3 : w14.cell? ⟨gb211, 3, none⟩ = some (.string (⟨#[]⟩ : ByteArray)) := (blk_cell BK211.out 3).trans rfl
     have hfz31_0 := blk_frozen BK211.out 0
     have hfz31_1 := blk_frozen BK211.out 1
     have hfz31_2 := blk_frozen BK211.out 2
     have hfz31_3 := blk_frozen BK211.out 3
     go_wp2
     go_meet
     case rel => (try rw [← Nbq26.out]); exact ⟨_, (true), (by first | rfl | (simp; done) | (simp [*]; done)), H', ⟨by have := HK1.out; first | omega | exact Nat.le_refl _⟩, ⟨by (with_reducible repeat (first | apply MR.R_alloc | apply MR.R_drewN | apply MR.R_drew)); exact MR.R_mono (MR.R_far (p := ⟨gb211, 3, none⟩) (MR.R_far (p := ⟨gb211, 2, none⟩) (MR.R_far (p := ⟨gb211, 1, none⟩) (MR.R_far (p := ⟨gb211, 0, none⟩) (MR.R_types HO_3.out BK211.out (by decide)) (fun _ hk => hk.2) (.string ((rd_T43 l0_0 x14_1).f0))) (fun _ hk => hk.2) (.int .i64 ((rd_T43 l0_0 x14_1).f1))) (fun _ hk => hk.2) (.bool (true))) (fun _ hk => hk.2) (.string ((rd_T43 l0_0 x14_1).f3))) (fun _ hk => trivial)⟩, ⟨by (with_reducible repeat (first | refine blk_drewN ?_ _ | refine blk_drew ?_ | refine blk_alloc ?_ _)); refine blk_far ?_ NB206_211.out _; (with_reducible repeat (first | refine blk_drewN ?_ _ | refine blk_drew ?_ | refine blk_alloc ?_ _)); refine blk_far ?_ NB206_211.out _; (with_reducible repeat (first | refine blk_drewN ?_ _ | refine blk_drew ?_ | refine blk_alloc ?_ _)); refine blk_far ?_ NB206_211.out _; (with_reducible repeat (first | refine blk_drewN ?_ _ | refine blk_drew ?_ | refine blk_alloc ?_ _)); refine blk_far ?_ NB206_211.out _; (with_reducible repeat (first | refine blk_drewN ?_ _ | refine blk_drew ?_ | refine blk_alloc ?_ _)); exact BK206.out⟩, ⟨by (with_reducible repeat (first | refine blk_drewN ?_ _ | refine blk_drew ?_ | refine blk_alloc ?_ _)); refine blk_put (cs := #[.string ((rd_T43 l0_0 x14_1).f0), .int .i64 ((rd_T43 l0_0 x14_1).f1), .bool (true), .string (⟨#[]⟩ : ByteArray)]) ?_ 3 _ rfl; (with_reducible repeat (first | refine blk_drewN ?_ _ | refine blk_drew ?_ | refine blk_alloc ?_ _)); refine blk_put (cs := #[.string ((rd_T43 l0_0 x14_1).f0), .int .i64 ((rd_T43 l0_0 x14_1).f1), .bool false, .string (⟨#[]⟩ : ByteArray)]) ?_ 2 _ rfl; (with_reducible repeat (first | refine blk_drewN ?_ _ | refine blk_drew ?_ | refine blk_alloc ?_ _)); refine blk_put (cs := #[.string ((rd_T43 l0_0 x14_1).f0), .int .i64 0, .bool false, .string (⟨#[]⟩ : ByteArray)]) ?_ 1 _ rfl; (with_reducible repeat (first | refine blk_drewN ?_ _ | refine blk_drew ?_ | refine blk_alloc ?_ _)); refine blk_put (cs := #[.string (⟨#[]⟩ : ByteArray), .int .i64 0, .bool false, .string (⟨#[]⟩ : ByteArray)]) ?_ 0 _ rfl; (with_reducible repeat (first | refine blk_drewN ?_ _ | refine blk_drew ?_ | refine blk_alloc ?_ _)); exact BK211.out⟩, ⟨by repeat (first | (with_reducible first | exact HB.out | apply below_alloc | apply pw_below_drewN | apply below_drew1 | refine below_set ?_ GE206.out | refine below_set ?_ GE211.out) | exact HB.out)⟩⟩
    rw [if_neg c29] at H
    have c29b0 : decide (100000 < (((rd_T43 l0_0 x14_1).f3).size : Int)) = false := decide_eq_false c29
    have c29b1 : decide (100000 < ((rd_T43 l0_0 x14_1).f3).size) = false := decide_eq_false (by omega)
    clear c29
    replace H := Option.bind_eq_some_iff.mp H
    obtain ⟨t212, A320, H⟩ := H
    replace H : (impl_RunFault.j1 k1 x3_1 x14_1 l0_0 (l0_0.length : Int) x14_1 t212 l0_0 ((rd_T43 l0_0 x14_1).f0) ((rd_T43 l0_0 x14_1).f1) true ((rd_T43 l0_0 x14_1).f3)) = some r := H
    have A32 := Aside0.mk A320
    clear A320
    have H' := Aside0.mk H
    clear H
    have hnb33 := NB211_206.out
    have hnc33 := NB206_211.out
    have hcz34_0 : w14.cell? ⟨gb211, 0, none⟩ = some (.string (⟨#[]⟩ : ByteArray)) := (blk_cell BK211.out 0).trans rfl
    have hcz34_1 : w14.cell? ⟨gb211, 1, none⟩ = some (.int .i64 0) := (blk_cell BK211.out 1).trans rfl
    have hcz34_2 : w14.cell? ⟨gb211, 2, none⟩ = some (.bool false) := (blk_cell BK211.out 2).trans rfl
    have hcz34_3 : w14.cell? ⟨gb211, 3, none⟩ = some (.string (⟨#[]⟩ : ByteArray)) := (blk_cell BK211.out 3).trans rfl
    have hfz34_0 := blk_frozen BK211.out 0
    have hfz34_1 := blk_frozen BK211.out 1
    have hfz34_2 := blk_frozen BK211.out 2
    have hfz34_3 := blk_frozen BK211.out 3
    obtain ⟨bo35, eo35⟩ := MR.R_map HO_3.out
    subst eo35
    go_wp2_with (first | ((with_reducible refine gate_dst (N := 53) rfl ?_); (try (refine gate_guard (by rfl) ?_; dsimp only)); refine MR.R_look (base := w.heap.size) (ok := fun _ => True) (xs := x3_1) (y := ((rd_T43 l0_0 x14_1).f1)) (t := t212) rfl rfl rfl rfl (by (with_reducible repeat (first | apply MR.R_alloc | apply MR.R_drewN | apply MR.R_drew)); exact (MR.R_mono (MR.R_far (p := ⟨gb211, 3, none⟩) (MR.R_far (p := ⟨gb211, 2, none⟩) (MR.R_far (p := ⟨gb211, 1, none⟩) (MR.R_far (p := ⟨gb211, 0, none⟩) (MR.R_types HO_3.out BK211.out (by decide)) (fun _ hk => hk.2) (.string ((rd_T43 l0_0 x14_1).f0))) (fun _ hk => hk.2) (.int .i64 ((rd_T43 l0_0 x14_1).f1))) (fun _ hk => hk.2) (.bool (true))) (fun _ hk => hk.2) (.string ((rd_T43 l0_0 x14_1).f3))) (fun _ h_ => h_.1))) (mapHas.of A32.out).1 (mapHas.of A32.out).2 ?_))
    go_meet
    case rel => (try rw [← Nbq26.out]); exact ⟨_, (t212), (by first | rfl | (simp; done) | (simp [*]; done)), H', ⟨by have := HK1.out; first | omega | exact Nat.le_refl _⟩, ⟨by (with_reducible repeat (first | apply MR.R_alloc | apply MR.R_drewN | apply MR.R_drew)); exact MR.R_mono (MR.R_far (p := ⟨gb211, 3, none⟩) (MR.R_far (p := ⟨gb211, 2, none⟩) (MR.R_far (p := ⟨gb211, 1, none⟩) (MR.R_far (p := ⟨gb211, 0, none⟩) (MR.R_types HO_3.out BK211.out (by decide)) (fun _ hk => hk.2) (.string ((rd_T43 l0_0 x14_1).f0))) (fun _ hk => hk.2) (.int .i64 ((rd_T43 l0_0 x14_1).f1))) (fun _ hk => hk.2) (.bool (true))) (fun _ hk => hk.2) (.string ((rd_T43 l0_0 x14_1).f3))) (fun _ hk => trivial)⟩, ⟨by (with_reducible repeat (first | refine blk_drewN ?_ _ | refine blk_drew ?_ | refine blk_alloc ?_ _)); refine blk_far ?_ NB206_211.out _; (with_reducible repeat (first | refine blk_drewN ?_ _ | refine blk_drew ?_ | refine blk_alloc ?_ _)); refine blk_far ?_ NB206_211.out _; (with_reducible repeat (first | refine blk_drewN ?_ _ | refine blk_drew ?_ | refine blk_alloc ?_ _)); refine blk_far ?_ NB206_211.out _; (with_reducible repeat (first | refine blk_drewN ?_ _ | refine blk_drew ?_ | refine blk_alloc ?_ _)); refine blk_far ?_ NB206_211.out _; (with_reducible repeat (first | refine blk_drewN ?_ _ | refine blk_drew ?_ | refine blk_alloc ?_ _)); exact BK206.out⟩, ⟨by (with_reducible repeat (first | refine blk_drewN ?_ _ | refine blk_drew ?_ | refine blk_alloc ?_ _)); refine blk_put (cs := #[.string ((rd_T43 l0_0 x14_1).f0), .int .i64 ((rd_T43 l0_0 x14_1).f1), .bool (true), .string (⟨#[]⟩ : ByteArray)]) ?_ 3 _ rfl; (with_reducible repeat (first | refine blk_drewN ?_ _ | refine blk_drew ?_ | refine blk_alloc ?_ _)); refine blk_put (cs := #[.string ((rd_T43 l0_0 x14_1).f0), .int .i64 ((rd_T43 l0_0 x14_1).f1), .bool false, .string (⟨#[]⟩ : ByteArray)]) ?_ 2 _ rfl; (with_reducible repeat (first | refine blk_drewN ?_ _ | refine blk_drew ?_ | refine blk_alloc ?_ _)); refine blk_put (cs := #[.string ((rd_T43 l0_0 x14_1).f0), .int .i64 0, .bool false, .string (⟨#[]⟩ : ByteArray)]) ?_ 1 _ rfl; (with_reducible repeat (first | refine blk_drewN ?_ _ | refine blk_drew ?_ | refine blk_alloc ?_ _)); refine blk_put (cs := #[.string (⟨#[]⟩ : ByteArray), .int .i64 0, .bool false, .string (⟨#[]⟩ : ByteArray)]) ?_ 0 _ rfl; (with_reducible repeat (first | refine blk_drewN ?_ _ | refine blk_drew ?_ | refine blk_alloc ?_ _)); exact BK211.out⟩, ⟨by repeat (first | (with_reducible first | exact HB.out | apply below_alloc | apply pw_below_drewN | apply below_drew1 | refine below_set ?_ GE206.out | refine below_set ?_ GE211.out) | exact HB.out)⟩⟩
   case rest =>
    clear HC13
    try clear c1
    try clear c2
    try clear c2b0
    try clear c2b1
    try clear p2
    try clear q2
    try clear hx2
    try clear c3
    try clear c4
    try clear c10
    try clear c10b0
    try clear c11
    try clear c11b0
    try clear c12
    try clear c12b0
    try clear c15
    try clear c17
    try clear c17b0
    try clear c17b1
    try clear c18
    try clear c20
    try clear c20b0
    try clear c20b1
    try clear c21
    try clear p21
    try clear q21
    try clear hx21
    try clear c23
    try clear c23b0
    try clear c24
    try clear q26
    try clear c27
    try clear c28
    try clear c28b0
    try clear c28b1
    try clear c29
    try clear c29b0
    try clear c29b1
    try clear c30
    try clear c33
    try clear c36
    try clear c38
    try clear c38b0
    try clear c38b1
    try clear c39
    try clear c42
    try clear hcz16_0
    try clear hcz16_1
    try clear hcz16_2
    try clear hcz16_3
    try clear hcz19_0
    try clear hcz19_1
    try clear hcz19_2
    try clear hcz19_3
    try clear hcz22_0
    try clear hcz22_1
    try clear hcz22_2
    try clear hcz22_3
    try clear hcz25_0
    try clear hcz25_1
    try clear hcz25_2
    try clear hcz25_3
    try clear hcz31_0
    try clear hcz31_1
    try clear hcz31_2
    try clear hcz31_3
    try clear hcz34_0
    try clear hcz34_1
    try clear hcz34_2
    try clear hcz34_3
    try clear hcz37_0
    try clear hcz37_1
    try clear hcz37_2
    try clear hcz37_3
    try clear hcz40_0
    try clear hcz40_1
    try clear hcz40_2
    try clear hcz40_3
    try clear hcz43_0
    try clear hcz43_1
    try clear hcz43_2
    try clear hcz43_3
    try clear hcz4_0
    try clear hcz6_0
    try clear hcz9_0
    try clear hfz16_0
    try clear hfz16_1
    try clear hfz16_2
    try clear hfz16_3
    try clear hfz19_0
    try clear hfz19_1
    try clear hfz19_2
    try clear hfz19_3
    try clear hfz22_0
    try clear hfz22_1
    try clear hfz22_2
    try clear hfz22_3
    try clear hfz25_0
    try clear hfz25_1
    try clear hfz25_2
    try clear hfz25_3
    try clear hfz31_0
    try clear hfz31_1
    try clear hfz31_2
    try clear hfz31_3
    try clear hfz34_0
    try clear hfz34_1
    try clear hfz34_2
    try clear hfz34_3
    try clear hfz37_0
    try clear hfz37_1
    try clear hfz37_2
    try clear hfz37_3
    try clear hfz40_0
    try clear hfz40_1
    try clear hfz40_2
    try clear hfz40_3
    try clear hfz43_0
    try clear hfz43_1
    try clear hfz43_2
    try clear hfz43_3
    try clear hfz4_0
    try clear hfz6_0
    try clear hfz9_0
    try clear hx210_0
    try clear hx210_1
    try clear hx210_2
    try clear hx210_3
    try clear p2
    try clear p210
    try clear q210
    obtain ⟨kq, x54_12, rfl, HA, HJ12, HO_3, BK206, BK211, HB⟩ := hcut
    cases kq with
    | zero => exact absurd HA.out (by simp [impl_RunFault.j1])
    | succ kj12 =>
     have H := HA.out
     clear HA
     simp only [impl_RunFault.j1] at H
     by_cases c45 : x54_12 = true
     ·
      subst c45
      have H1 : (some 1) = some r := by rw [if_pos rfl] at H; exact H
      clear H
      have H := H1
      clear H1
      obtain rfl := Option.some.inj H
      go_wp2
      go_ret
      exact ⟨by first | rfl | (simp [errW_none, errW_some] <;> rfl) | (simp [*, errW_none, errW_some] <;> rfl), by repeat (first | (with_reducible first | exact HB.out | apply below_alloc | apply pw_below_drewN | apply below_drew1 | refine below_set ?_ GE206.out | refine below_set ?_ GE211.out) | exact HB.out)⟩
     replace c45 := Bool.eq_false_iff.mpr c45
     subst c45
     have H1 : (if x14_1 > 0 then (if 0 ≤ (wrap64 (x14_1 - 1)) then (if (wrap64 (x14_1 - 1)) < (l0_0.length : Int) then ((impl_entryOrder.f ((rd_T43 l0_0 (wrap64 (x14_1 - 1))).f0) ((rd_T43 l0_0 (wrap64 (x14_1 - 1))).f1) ((rd_T43 l0_0 (wrap64 (x14_1 - 1))).f2) ((rd_T43 l0_0 (wrap64 (x14_1 - 1))).f3) ((rd_T43 l0_0 x14_1).f0) ((rd_T43 l0_0 x14_1).f1) ((rd_T43 l0_0 x14_1).f2) ((rd_T43 l0_0 x14_1).f3)).bind fun t215 => (impl_RunFault.j2 kj12 x3_1 l0_0 (l0_0.length : Int) x14_1 (decide (t215 ≥ 0)) l0_0 ((rd_T43 l0_0 x14_1).f0) ((rd_T43 l0_0 x14_1).f1) ((rd_T43 l0_0 x14_1).f2) ((rd_T43 l0_0 x14_1).f3))) else (none)) else (none)) else (impl_RunFault.j2 kj12 x3_1 l0_0 (l0_0.length : Int) x14_1 false l0_0 ((rd_T43 l0_0 x14_1).f0) ((rd_T43 l0_0 x14_1).f1) ((rd_T43 l0_0 x14_1).f2) ((rd_T43 l0_0 x14_1).f3))) = some r := by rw [if_neg (show ¬ (false = true) by decide)] at H; exact H
     clear H
     have H := H1
     clear H1
     have HC46 := Aside0.mk H
     clear H
     go_upto_region 9 with (fail)
     go_cut [67] (fun v67 wc => ∃ (kq : Nat) (x67_45 : Bool), v67 = .bool x67_45 ∧ Aside0 (impl_RunFault.j2 kq x3_1 l0_0 (l0_0.length : Int) x14_1 x67_45 l0_0 ((rd_T43 l0_0 x14_1).f0) ((rd_T43 l0_0 x14_1).f1) ((rd_T43 l0_0 x14_1).f2) ((rd_T43 l0_0 x14_1).f3) = some r) ∧ Aside0 (kq ≤ kj12) ∧ Aside0 (MR.R wc w.heap.size (fun _ => True) v208 x3_1) ∧ Aside0 (wc.heap[gb206]? = some (.cells #[(.slice (some ad210) l0_0.length c0_0)] 26 (0, 0))) ∧ Aside0 (wc.heap[gb211]? = some (.cells #[.string ((rd_T43 l0_0 x14_1).f0), .int .i64 ((rd_T43 l0_0 x14_1).f1), .bool ((rd_T43 l0_0 x14_1).f2), .string ((rd_T43 l0_0 x14_1).f3)] 43 (0, 0))) ∧ Aside0 (Below w.heap.size w wc))
     case first =>
      have H := HC46.out
      clear HC46
      by_cases c47 : x14_1 > 0
      rotate_left
      ·
       rw [if_neg c47] at H
       have c47b0 : decide (0 < x14_1) = false := decide_eq_false c47
       clear c47
       (first | rw [c47b0] | (simp only [i64_w, i32_w]; rw [c47b0]) | skip)
       have H' := Aside0.mk H
       clear H
       try go_wp2
       have n0_ := Aside0.mk (MR.R_drew HO_3.out)
       have n1_ := Aside0.mk (blk_drew BK206.out)
       have n2_ := Aside0.mk (blk_drew BK211.out)
       have n3_ := Aside0.mk (below_drew1 HB.out)
       clear HO_3
       clear BK206
       clear BK211
       clear HB
       have HO_3 := n0_
       have BK206 := n1_
       have BK211 := n2_
       have HB := n3_
       clear n0_ n1_ n2_ n3_
       refine start_ (n := 13) (S := fun w' => True) (ds := []) zf93 (by kernel_rfl) rfl rfl trivial (fun hHeld => ?_); refine with_tabW impl_RunFault.tab9 impl_RunFault.bits9 (fun HT_ HW_ => ?_)
       generalize wc.drew = w54 at HO_3 BK206 BK211 HB hHeld ⊢
       refine Cap.pu (v := ?_) (a' := ?_) 0 (some 55) zf94 HT_ rfl rfl (by kernel_rfl) (fun _ _ _ h => h) (Or.inl ⟨by rfl, ?_⟩) ?_ ?_; rotate_left; intro w'; go_simp; with_reducible rfl; rotate_left; simp only [Cap.pz]; rfl
       refine Cap.pu (v := ?_) (a' := ?_) 1 (some 56) zf95 HT_ rfl rfl (by kernel_rfl) (fun _ _ _ h => h) (Or.inl ⟨by rfl, ?_⟩) ?_ ?_; rotate_left; intro w'; go_simp; with_reducible rfl; rotate_left; simp only [Cap.pz]; rfl
       refine Cap.pu (v := ?_) (a' := ?_) 2 (some 57) zf96 HT_ rfl rfl (by kernel_rfl) (fun _ _ _ h => h) (Or.inl ⟨by rfl, ?_⟩) ?_ ?_; rotate_left; intro w'; go_simp; with_reducible rfl; rotate_left; simp only [Cap.pz]; rfl
       refine Cap.pu (v := undef) (a' := ?_) 3 (some 58) zf97 HT_ rfl rfl (by kernel_rfl) (fun _ _ _ h => h) (Or.inr ⟨by rfl, rfl⟩) ?_ ?_; rotate_left; simp only [Cap.pz]; rfl
       refine Cap.pu (v := undef) (a' := ?_) 4 (some 59) zf98 HT_ rfl rfl (by kernel_rfl) (fun _ _ _ h => h) (Or.inr ⟨by rfl, rfl⟩) ?_ ?_; rotate_left; simp only [Cap.pz]; rfl
       refine Cap.pu (v := undef) (a' := ?_) 5 (some 60) zf99 HT_ rfl rfl (by kernel_rfl) (fun _ _ _ h => h) (Or.inr ⟨by rfl, rfl⟩) ?_ ?_; rotate_left; simp only [Cap.pz]; rfl
       refine Cap.pu (v := undef) (a' := ?_) 6 (some 61) zf100 HT_ rfl rfl (by kernel_rfl) (fun _ _ _ h => h) (Or.inr ⟨by rfl, rfl⟩) ?_ ?_; rotate_left; simp only [Cap.pz]; rfl
       refine Cap.pu (v := undef) (a' := ?_) 7 (some 62) zf101 HT_ rfl rfl (by kernel_rfl) (fun _ _ _ h => h) (Or.inr ⟨by rfl, rfl⟩) ?_ ?_; rotate_left; simp only [Cap.pz]; rfl
       refine Cap.pu (v := undef) (a' := ?_) 8 (some 63) zf102 HT_ rfl rfl (by kernel_rfl) (fun _ _ _ h => h) (Or.inr ⟨by rfl, rfl⟩) ?_ ?_; rotate_left; simp only [Cap.pz]; rfl
       refine Cap.pu (v := undef) (a' := ?_) 9 (some 64) zf103 HT_ rfl rfl (by kernel_rfl) (fun _ _ _ h => h) (Or.inr ⟨by rfl, rfl⟩) ?_ ?_; rotate_left; simp only [Cap.pz]; rfl
       refine Cap.pu (v := undef) (a' := ?_) 10 (some 65) zf104 HT_ rfl rfl (by kernel_rfl) (fun _ _ _ h => h) (Or.inr ⟨by rfl, rfl⟩) ?_ ?_; rotate_left; simp only [Cap.pz]; rfl
       refine Cap.pu (v := undef) (a' := ?_) 11 (some 66) zf105 HT_ rfl rfl (by kernel_rfl) (fun _ _ _ h => h) (Or.inr ⟨by rfl, rfl⟩) ?_ ?_; rotate_left; simp only [Cap.pz]; rfl
       refine Cap.pu (v := ?_) (a' := ?_) 12 (some 67) zf106 HT_ rfl rfl (by kernel_rfl) (fun _ _ _ h => h) (Or.inl ⟨by rfl, ?_⟩) ?_ ?_; rotate_left; intro w'; go_simp; with_reducible rfl; rotate_left; simp only [Cap.pz]; rfl
       refine done_ (done_of HT_.out (by kernel_rfl)) ?_
       try go_wp2
       go_meet
       case rel => exact ⟨_, (false), (by first | rfl | (simp; done) | (simp [*]; done)), H', ⟨by have := HK1.out; have := HJ12.out; first | omega | exact Nat.le_refl _⟩, ⟨by (with_reducible repeat (first | apply MR.R_alloc | apply MR.R_drewN | apply MR.R_drew)); exact HO_3.out⟩, ⟨by first | exact Grow.bk BK206.out | exact BK206.out⟩, ⟨by first | exact Grow.bk BK211.out | exact BK211.out⟩, ⟨by repeat (first | (with_reducible first | exact HB.out | apply below_alloc | apply pw_below_drewN | apply below_drew1 | refine below_set ?_ GE206.out | refine below_set ?_ GE211.out) | exact HB.out)⟩⟩
      rw [if_pos c47] at H
      have c47b0 : decide (0 < x14_1) = true := decide_eq_true c47
      clear c47
      (first | rw [c47b0] | (simp only [i64_w, i32_w]; rw [c47b0]) | skip)
      obtain ⟨ji48, hji48⟩ : ∃ j_ : Int, (wrap64 (x14_1 - 1)) = j_ := ⟨_, rfl⟩
      replace H : (if 0 ≤ (ji48) then (if (ji48) < (l0_0.length : Int) then ((impl_entryOrder.f ((rd_T43 l0_0 (ji48)).f0) ((rd_T43 l0_0 (ji48)).f1) ((rd_T43 l0_0 (ji48)).f2) ((rd_T43 l0_0 (ji48)).f3) ((rd_T43 l0_0 x14_1).f0) ((rd_T43 l0_0 x14_1).f1) ((rd_T43 l0_0 x14_1).f2) ((rd_T43 l0_0 x14_1).f3)).bind fun t215 => (impl_RunFault.j2 kj12 x3_1 l0_0 (l0_0.length : Int) x14_1 (decide (t215 ≥ 0)) l0_0 ((rd_T43 l0_0 x14_1).f0) ((rd_T43 l0_0 x14_1).f1) ((rd_T43 l0_0 x14_1).f2) ((rd_T43 l0_0 x14_1).f3))) else (none)) else (none)) = some r := by first | (rw [hji48] at H; exact H) | (simp only [hji48] at H ⊢; exact H)
      have hji48w : (IntKind.i64.wrap (x14_1 - 1)) = ji48 := (i64_w _).trans hji48
      by_cases c49 : 0 ≤ (ji48)
      rotate_left
      ·
       rw [if_neg c49] at H
       exact absurd H (by simp)
      rw [if_pos c49] at H
      have c49b0 : decide (0 ≤ (ji48)) = true := decide_eq_true c49
      clear c49
      by_cases c50 : (ji48) < (l0_0.length : Int)
      rotate_left
      ·
       rw [if_neg c50] at H
       exact absurd H (by simp)
      rw [if_pos c50] at H
      have c50b0 : decide ((ji48) < (l0_0.length : Int)) = true := decide_eq_true c50
      clear c50
      replace H := Option.bind_eq_some_iff.mp H
      obtain ⟨t215, A510, H⟩ := H
      replace H : (impl_RunFault.j2 kj12 x3_1 l0_0 (l0_0.length : Int) x14_1 (decide (t215 ≥ 0)) l0_0 ((rd_T43 l0_0 x14_1).f0) ((rd_T43 l0_0 x14_1).f1) ((rd_T43 l0_0 x14_1).f2) ((rd_T43 l0_0 x14_1).f3)) = some r := H
      have A51 := Aside0.mk A510
      clear A510
      have H' := Aside0.mk H
      clear H
      try go_wp2
      have n0_ := Aside0.mk (MR.R_drew HO_3.out)
      have n1_ := Aside0.mk (blk_drew BK206.out)
      have n2_ := Aside0.mk (blk_drew BK211.out)
      have n3_ := Aside0.mk (below_drew1 HB.out)
      clear HO_3
      clear BK206
      clear BK211
      clear HB
      have HO_3 := n0_
      have BK206 := n1_
      have BK211 := n2_
      have HB := n3_
      clear n0_ n1_ n2_ n3_
      have p214 : 0 ≤ ((ji48) : Int) := of_decide_eq_true (by first | (with_reducible assumption) | assumption)
      have q214 : (ji48) < (l0_0.length : Int) := of_decide_eq_true (by first | (with_reducible assumption) | assumption)
      obtain ⟨ad214, e214, hx214_0, hx214_1, hx214_2, hx214_3⟩ := at_T43 HR0_0.out (ji48) p214 q214
      have hw214_3 := hx214_3
      have hw214_2 := hx214_2
      have hw214_1 := hx214_1
      have hw214_0 := hx214_0
      obtain rfl : ad210 = ad214 := (by injection e214)
      replace hx214_0 := Grow.bc HB.out hx214_0
      replace hx214_1 := Grow.bc HB.out hx214_1
      replace hx214_2 := Grow.bc HB.out hx214_2
      replace hx214_3 := Grow.bc HB.out hx214_3
      replace p214 := eq_true p214
      replace q214 := eq_true q214
      refine start_ (n := 13) (S := fun w' => w'.cell? ⟨gb206, 0, none⟩ = some (.slice (some ad210) l0_0.length c0_0) ∧ w'.cell? ⟨gb211, 0, none⟩ = some (.string ((rd_T43 l0_0 x14_1).f0)) ∧ w'.cell? ⟨gb211, 1, none⟩ = some (.int .i64 ((rd_T43 l0_0 x14_1).f1)) ∧ w'.cell? ⟨gb211, 2, none⟩ = some (.bool ((rd_T43 l0_0 x14_1).f2)) ∧ w'.cell? ⟨gb211, 3, none⟩ = some (.string ((rd_T43 l0_0 x14_1).f3)) ∧ w'.cell? (ad210.add (((ji48)).toNat * 4)) = some (.string ((rd_T43 l0_0 (ji48)).f0)) ∧ w'.cell? ⟨(ad210.add (((ji48)).toNat * 4)).block, (ad210.add (((ji48)).toNat * 4)).off + 1, none⟩ = some (.int .i64 ((rd_T43 l0_0 (ji48)).f1)) ∧ w'.cell? ⟨(ad210.add (((ji48)).toNat * 4)).block, (ad210.add (((ji48)).toNat * 4)).off + 2, none⟩ = some (.bool ((rd_T43 l0_0 (ji48)).f2)) ∧ w'.cell? ⟨(ad210.add (((ji48)).toNat * 4)).block, (ad210.add (((ji48)).toNat * 4)).off + 3, none⟩ = some (.string ((rd_T43 l0_0 (ji48)).f3))) (ds := []) zf93 (by kernel_rfl) rfl rfl ⟨(blk_cell BK206.out 0).trans rfl, (blk_cell BK211.out 0).trans rfl, (blk_cell BK211.out 1).trans rfl, (blk_cell BK211.out 2).trans rfl, (blk_cell BK211.out 3).trans rfl, ((HB.out.cell (World.block_lt_of_cell? w _ hw214_0)).trans hw214_0), ((HB.out.cell (World.block_lt_of_cell? w _ hw214_1)).trans hw214_1), ((HB.out.cell (World.block_lt_of_cell? w _ hw214_2)).trans hw214_2), ((HB.out.cell (World.block_lt_of_cell? w _ hw214_3)).trans hw214_3)⟩ (fun hHeld => ?_); refine with_tabW impl_RunFault.tab9 impl_RunFault.bits9 (fun HT_ HW_ => ?_)
      generalize wc.drew = w52 at HO_3 BK206 BK211 HB hx214_0 hx214_1 hx214_2 hx214_3 hHeld ⊢
      refine Cap.pu (v := ?_) (a' := ?_) 0 (some 55) zf94 HT_ rfl rfl (by kernel_rfl) (fun _ _ _ h => h) (Or.inl ⟨by rfl, ?_⟩) ?_ ?_; rotate_left; intro w'; go_simp; with_reducible rfl; rotate_left; simp only [Cap.pz]; rfl
      refine Cap.pu (v := ?_) (a' := ?_) 1 (some 56) zf95 HT_ rfl rfl (by kernel_rfl) (fun _ _ _ h => h) (Or.inl ⟨by rfl, ?_⟩) ?_ ?_; rotate_left; intro w'; go_simp; with_reducible rfl; rotate_left; simp only [Cap.pz]; rfl
      refine Cap.pu (v := ?_) (a' := ?_) 2 (some 57) zf96 HT_ rfl rfl (by kernel_rfl) (fun _ _ _ h => h) (Or.inl ⟨by rfl, ?_⟩) ?_ ?_; rotate_left; intro w'; go_simp; with_reducible rfl; rotate_left; simp only [Cap.pz]; rfl
      refine Cap.pu (v := ?_) (a' := ?_) 3 (some 58) zf97 HT_ rfl rfl (by kernel_rfl) (fun _ _ _ h => h) (Or.inl ⟨by rfl, ?_⟩) ?_ ?_; rotate_left; intro w'; go_simp; with_reducible rfl; rotate_left; simp only [Cap.pz]; rfl
      refine Cap.pu (v := ?_) (a' := ?_) 5 (some 60) zf107 HT_ rfl rfl (by kernel_rfl) (fun _ _ _ h => h) (Or.inl ⟨by rfl, ?_⟩) ?_ ?_; rotate_left; intro w'; go_simp; with_reducible rfl; rotate_left; simp only [Cap.pz]; rfl
      refine Cap.pu (v := ?_) (a' := ?_) 6 (some 61) zf108 HT_ rfl rfl (by kernel_rfl) (fun _ _ _ h => h) (Or.inl ⟨by rfl, ?_⟩) ?_ ?_; rotate_left; intro w'; go_simp; with_reducible rfl; rotate_left; simp only [Cap.pz]; rfl
      refine take_ (i := 4) (N := some 59) (v := ?_) (a' := ?_) zf100 rfl rfl (take_ofW HT_.out HW_.out (by kernel_rfl)) (fun _ _ _ h => h) (Or.inl ⟨by rfl, ?_⟩) hHeld ?_ ?_; rotate_left; rintro w' ⟨s0, s1, s2, s3, s4, s5, s6, s7, s8⟩; go_simp; with_reducible rfl; rotate_left; simp only [Cap.pz]; rfl
      refine Cap.pu (v := ?_) (a' := ?_) 7 (some 62) zf101 HT_ rfl rfl (by kernel_rfl) (fun _ _ _ h => h) (Or.inl ⟨by rfl, ?_⟩) ?_ ?_; rotate_left; intro w'; go_simp; with_reducible rfl; rotate_left; simp only [Cap.pz]; rfl
      refine take_ (i := 8) (N := some 63) (v := ?_) (a' := ?_) zf102 rfl rfl (take_ofW HT_.out HW_.out (by kernel_rfl)) (fun _ _ _ h => h) (Or.inl ⟨by rfl, ?_⟩) hHeld ?_ ?_; rotate_left; rintro w' ⟨s0, s1, s2, s3, s4, s5, s6, s7, s8⟩; go_simp; with_reducible rfl; rotate_left; simp only [Cap.pz]; rfl
      refine take_ (i := 9) (N := some 64) (v := ?_) (a' := ?_) zf103 rfl rfl (take_ofW HT_.out HW_.out (by kernel_rfl)) (fun _ _ _ h => h) (Or.inl ⟨by rfl, ?_⟩) hHeld ?_ ?_; rotate_left; rintro w' ⟨s0, s1, s2, s3, s4, s5, s6, s7, s8⟩; go_simp; with_reducible rfl; rotate_left; simp only [Cap.pz]; rfl
      refine one_ (i := 10) (N := some 65) zf104 rfl rfl (one_of HT_.out (by kernel_rfl)) (by decide) (fun K hK => ?_)
      refine goes_ Try.func27 (by kernel_rfl) rfl #[.agg #[.string ((rd_T43 l0_0 (ji48)).f0), .int .i64 ((rd_T43 l0_0 (ji48)).f1), .bool ((rd_T43 l0_0 (ji48)).f2), .string ((rd_T43 l0_0 (ji48)).f3)], .agg #[.string ((rd_T43 l0_0 x14_1).f0), .int .i64 ((rd_T43 l0_0 x14_1).f1), .bool ((rd_T43 l0_0 x14_1).f2), .string ((rd_T43 l0_0 x14_1).f3)]] (by rfl) rfl rfl (by (try simp only [List.map_toArray, List.map_cons, List.map_nil]); first | done | (simp only [hji48]; rfl) | rfl | (simp only [List.length_drop, List.length_take]; rfl)) ?_
      with_reducible refine (impl_entryOrder.calls ((rd_T43 l0_0 (ji48)).f0) ((rd_T43 l0_0 (ji48)).f1) ((rd_T43 l0_0 (ji48)).f2) ((rd_T43 l0_0 (ji48)).f3) ((rd_T43 l0_0 x14_1).f0) ((rd_T43 l0_0 x14_1).f1) ((rd_T43 l0_0 x14_1).f2) ((rd_T43 l0_0 x14_1).f3) t215 _ A51.out).mono ?_
      rintro e w53 ⟨rfl, hb⟩
      refine ⟨_, rfl, ?_⟩
      have n0_ := Aside0.mk (MR.R_below (by (with_reducible repeat (first | apply MR.R_alloc | apply MR.R_drewN | apply MR.R_drew)); exact HO_3.out) hb)
      have n1_ := Aside0.mk (blk_below (g := gb206) (o := .cells #[.slice (some ad210) l0_0.length c0_0] 26 (0, 0)) (by first | exact Grow.bk BK206.out | exact BK206.out) hb)
      have n2_ := Aside0.mk (blk_below (g := gb211) (o := .cells #[.string ((rd_T43 l0_0 x14_1).f0), .int .i64 ((rd_T43 l0_0 x14_1).f1), .bool ((rd_T43 l0_0 x14_1).f2), .string ((rd_T43 l0_0 x14_1).f3)] 43 (0, 0)) (by first | exact Grow.bk BK211.out | exact BK211.out) hb)
      have n3_ := Aside0.mk (below_step (by repeat (first | (with_reducible first | exact HB.out | apply below_alloc | apply pw_below_drewN | apply below_drew1 | refine below_set ?_ GE206.out | refine below_set ?_ GE211.out) | exact HB.out)) hb)
      clear HO_3
      clear BK206
      clear BK211
      clear HB
      have HO_3 := n0_
      have BK206 := n1_
      have BK211 := n2_
      have HB := n3_
      clear n0_ n1_ n2_ n3_
      (try clear hb)
      (try clear hb2)
      (try clear hk)
      (try clear hi)
      refine hK.out _ _ ⟨(blk_cell BK206.out 0).trans rfl, (blk_cell BK211.out 0).trans rfl, (blk_cell BK211.out 1).trans rfl, (blk_cell BK211.out 2).trans rfl, (blk_cell BK211.out 3).trans rfl, ((HB.out.cell (World.block_lt_of_cell? w _ hw214_0)).trans hw214_0), ((HB.out.cell (World.block_lt_of_cell? w _ hw214_1)).trans hw214_1), ((HB.out.cell (World.block_lt_of_cell? w _ hw214_2)).trans hw214_2), ((HB.out.cell (World.block_lt_of_cell? w _ hw214_3)).trans hw214_3)⟩ (fun hHeld => ?_)
      clear hK K
      refine norm_ (a' := ?_) ?_ ?_; rotate_left; show Act.put _ (some 65) _ = _; simp only [Cap.pz]; rfl
      refine Cap.pu (v := ?_) (a' := ?_) 11 (some 66) zf105 HT_ rfl rfl (by kernel_rfl) (fun _ _ _ h => h) (Or.inl ⟨by rfl, ?_⟩) ?_ ?_; rotate_left; intro w'; go_simp; with_reducible rfl; rotate_left; simp only [Cap.pz]; rfl
      refine Cap.pu (v := ?_) (a' := ?_) 12 (some 67) zf106 HT_ rfl rfl (by kernel_rfl) (fun _ _ _ h => h) (Or.inl ⟨by rfl, ?_⟩) ?_ ?_; rotate_left; intro w'; go_simp; with_reducible rfl; rotate_left; simp only [Cap.pz]; rfl
      refine done_ (done_of HT_.out (by kernel_rfl)) ?_
      try go_wp2
      go_meet
      case rel => exact ⟨_, (decide (t215 ≥ 0)), (by first | rfl | (simp; done) | (simp [*]; done)), H', ⟨by have := HK1.out; have := HJ12.out; first | omega | exact Nat.le_refl _⟩, ⟨by (with_reducible repeat (first | apply MR.R_alloc | apply MR.R_drewN | apply MR.R_drew)); exact HO_3.out⟩, ⟨by first | exact Grow.bk BK206.out | exact BK206.out⟩, ⟨by first | exact Grow.bk BK211.out | exact BK211.out⟩, ⟨by repeat (first | (with_reducible first | exact HB.out | apply below_alloc | apply pw_below_drewN | apply below_drew1 | refine below_set ?_ GE206.out | refine below_set ?_ GE211.out) | exact HB.out)⟩⟩
     case rest =>
      clear HC46
      try clear c1
      try clear c2
      try clear c2b0
      try clear c2b1
      try clear p2
      try clear q2
      try clear hx2
      try clear c3
      try clear c4
      try clear c5
      try clear p6
      try clear c10
      try clear c10b0
      try clear c11
      try clear c11b0
      try clear c12
      try clear c12b0
      try clear c15
      try clear c17
      try clear c17b0
      try clear c17b1
      try clear c18
      try clear c20
      try clear c20b0
      try clear c20b1
      try clear c21
      try clear p21
      try clear q21
      try clear hx21
      try clear c23
      try clear c23b0
      try clear c24
      try clear q26
      try clear c27
      try clear c28
      try clear c28b0
      try clear c28b1
      try clear c29
      try clear c29b0
      try clear c29b1
      try clear c30
      try clear c33
      try clear c36
      try clear c38
      try clear c38b0
      try clear c38b1
      try clear c39
      try clear c42
      try clear c45
      try clear c47
      try clear c47b0
      try clear c49
      try clear c49b0
      try clear c50
      try clear c50b0
      try clear hcz16_0
      try clear hcz16_1
      try clear hcz16_2
      try clear hcz16_3
      try clear hcz19_0
      try clear hcz19_1
      try clear hcz19_2
      try clear hcz19_3
      try clear hcz22_0
      try clear hcz22_1
      try clear hcz22_2
      try clear hcz22_3
      try clear hcz25_0
      try clear hcz25_1
      try clear hcz25_2
      try clear hcz25_3
      try clear hcz31_0
      try clear hcz31_1
      try clear hcz31_2
      try clear hcz31_3
      try clear hcz34_0
      try clear hcz34_1
      try clear hcz34_2
      try clear hcz34_3
      try clear hcz37_0
      try clear hcz37_1
      try clear hcz37_2
      try clear hcz37_3
      try clear hcz40_0
      try clear hcz40_1
      try clear hcz40_2
      try clear hcz40_3
      try clear hcz43_0
      try clear hcz43_1
      try clear hcz43_2
      try clear hcz43_3
      try clear hcz4_0
      try clear hcz6_0
      try clear hcz9_0
      try clear hfz16_0
      try clear hfz16_1
      try clear hfz16_2
      try clear hfz16_3
      try clear hfz19_0
      try clear hfz19_1
      try clear hfz19_2
      try clear hfz19_3
      try clear hfz22_0
      try clear hfz22_1
      try clear hfz22_2
      try clear hfz22_3
      try clear hfz25_0
      try clear hfz25_1
      try clear hfz25_2
      try clear hfz25_3
      try clear hfz31_0
      try clear hfz31_1
      try clear hfz31_2
      try clear hfz31_3
      try clear hfz34_0
      try clear hfz34_1
      try clear hfz34_2
      try clear hfz34_3
      try clear hfz37_0
      try clear hfz37_1
      try clear hfz37_2
      try clear hfz37_3
      try clear hfz40_0
      try clear hfz40_1
      try clear hfz40_2
      try clear hfz40_3
      try clear hfz43_0
      try clear hfz43_1
      try clear hfz43_2
      try clear hfz43_3
      try clear hfz4_0
      try clear hfz6_0
      try clear hfz9_0
      try clear hx210_0
      try clear hx210_1
      try clear hx210_2
      try clear hx210_3
      try clear hx214_0
      try clear hx214_1
      try clear hx214_2
      try clear hx214_3
      try clear p2
      try clear p21
      try clear p210
      try clear p214
      try clear q2
      try clear q21
      try clear q210
      try clear q214
      try clear q26
      obtain ⟨kq, x67_45, rfl, HA, HJ45, HO_3, BK206, BK211, HB⟩ := hcut
      cases kq with
      | zero => exact absurd HA.out (by simp [impl_RunFault.j2])
      | succ kj45 =>
       have H := HA.out
       clear HA
       simp only [impl_RunFault.j2] at H
       by_cases c55 : x67_45 = true
       ·
        subst c55
        have H1 : (some 1) = some r := by rw [if_pos rfl] at H; exact H
        clear H
        have H := H1
        clear H1
        obtain rfl := Option.some.inj H
        go_wp2
        go_ret
        exact ⟨by first | rfl | (simp [errW_none, errW_some] <;> rfl) | (simp [*, errW_none, errW_some] <;> rfl), by repeat (first | (with_reducible first | exact HB.out | apply below_alloc | apply pw_below_drewN | apply below_drew1 | refine below_set ?_ GE206.out | refine below_set ?_ GE211.out) | exact HB.out)⟩
       replace c55 := Bool.eq_false_iff.mpr c55
       subst c55
       have H1 : ((keyIn.f ((rd_T43 l0_0 x14_1).f1)).bind fun t216 => (if x3_1.length < 17592186044416 then (impl_RunFault.l0 kj45 (x3_1 ++ [t216]) l0_0 (l0_0.length : Int) (wrap64 (x14_1 + 1)) l0_0) else (none))) = some r := by rw [if_neg (show ¬ (false = true) by decide)] at H; exact H
       clear H
       have H := H1
       clear H1
       replace H := Option.bind_eq_some_iff.mp H
       obtain ⟨t216, A560, H⟩ := H
       replace H : (if x3_1.length < 17592186044416 then (impl_RunFault.l0 kj45 (x3_1 ++ [t216]) l0_0 (l0_0.length : Int) (wrap64 (x14_1 + 1)) l0_0) else (none)) = some r := H
       have A56 := Aside0.mk A560
       clear A560
       by_cases c57 : x3_1.length < 17592186044416
       rotate_left
       ·
        rw [if_neg c57] at H
        exact absurd H (by simp)
       rw [if_pos c57] at H
       have LMc57 := Aside0.mk c57
       clear c57
       obtain ⟨y217, hy217⟩ : ∃ y_ : List Int, y_ = (x3_1 ++ [t216]) := ⟨_, rfl⟩
       replace H : (impl_RunFault.l0 kj45 y217 l0_0 (l0_0.length : Int) (wrap64 (x14_1 + 1)) l0_0) = some r := by first | (rw [hy217]; with_reducible exact H) | (have H2_ := (Option.bind_some _ _).symm.trans H; rw [hy217]; with_reducible exact H2_) | (have H2_ := (Option.bind_some _ _).symm.trans H; with_reducible exact H2_) | with_reducible exact H | (rw [hy217]; exact H) | exact H
       have Ny217 := Aside0.mk hy217
       clear hy217
       have H' := Aside0.mk H
       clear H
       have hnb58 := NB211_206.out
       have hnc58 := NB206_211.out
       have hcz59_0 : wc.cell? ⟨gb211, 0, none⟩ = some (.string ((rd_T43 l0_0 x14_1).f0)) := (blk_cell BK211.out 0).trans rfl
       have hcz59_1 : wc.cell? ⟨gb211, 1, none⟩ = some (.int .i64 ((rd_T43 l0_0 x14_1).f1)) := (blk_cell BK211.out 1).trans rfl
       have hcz59_2 : wc.cell? ⟨gb211, 2, none⟩ = some (.bool ((rd_T43 l0_0 x14_1).f2)) := (blk_cell BK211.out 2).trans rfl
       have hcz59_3 : wc.cell? ⟨gb211, 3, none⟩ = some (.string ((rd_T43 l0_0 x14_1).f3)) := (blk_cell BK211.out 3).trans rfl
       have hfz59_0 := blk_frozen BK211.out 0
       have hfz59_1 := blk_frozen BK211.out 1
       have hfz59_2 := blk_frozen BK211.out 2
       have hfz59_3 := blk_frozen BK211.out 3
       go_wp2_with (first | (at_mapUpdate; refine MR.R_put (w0 := w) (base := w.heap.size) (ok := fun _ => True) rfl rfl rfl rfl rfl (by (with_reducible repeat (first | apply MR.R_alloc | apply MR.R_drewN | apply MR.R_drew)); exact HO_3.out) (keyIn.of A56.out).1 (by have := LMc57.out; simp only [maxLen]; omega) (by repeat (first | (with_reducible first | exact HB.out | apply below_alloc | apply pw_below_drewN | apply below_drew1 | refine below_set ?_ GE206.out | refine below_set ?_ GE211.out) | exact HB.out)) ?_; intro w60 ho hb hg; rw [(keyIn.of A56.out).2] at ho; rw [← Ny217.out] at ho; have n0_ := Aside0.mk (blk_grown (g := gb206) (o := .cells #[.slice (some ad210) l0_0.length c0_0] 26 (0, 0)) (by first | exact Grow.bk BK206.out | exact BK206.out) hg (by first | exact MR.R_ne HO_3.out BK206.out (by decide) | exact fun e_ => (HO_3.out.1 gb206 e_.symm).2 rfl)); have n1_ := Aside0.mk (blk_grown (g := gb211) (o := .cells #[.string ((rd_T43 l0_0 x14_1).f0), .int .i64 ((rd_T43 l0_0 x14_1).f1), .bool ((rd_T43 l0_0 x14_1).f2), .string ((rd_T43 l0_0 x14_1).f3)] 43 (0, 0)) (by first | exact Grow.bk BK211.out | exact BK211.out) hg (by first | exact MR.R_ne HO_3.out BK211.out (by decide) | exact fun e_ => (HO_3.out.1 gb211 e_.symm).2 rfl)); have n2_ := Aside0.mk (hb); have n3_ := Aside0.mk (ho); clear BK206; clear BK211; clear HB; clear HO_3; have BK206 := n0_; have BK211 := n1_; have HB := n2_; have HO219 := n3_; clear n0_ n1_ n2_ n3_; clear ho hb hg))
       go_roundg kj45
       case measure => have := HK1.out; have := HJ12.out; have := HJ45.out; omega
       case rel => exact ⟨(y217), (wrap64 (x14_1 + 1)), (by first | rfl | (simp; done) | (simp [*]; done)), H', ⟨by have := HK1.out; have := HJ12.out; have := HJ45.out; omega⟩, ⟨by (with_reducible repeat (first | apply MR.R_alloc | apply MR.R_drewN | apply MR.R_drew)); exact HO219.out⟩, ⟨by first | exact Grow.bk BK206.out | exact BK206.out⟩, ⟨by repeat (first | (with_reducible first | exact HB.out | apply below_alloc | apply pw_below_drewN | apply below_drew1 | refine below_set ?_ GE206.out | refine below_set ?_ GE211.out) | exact HB.out)⟩⟩
end Go.Proofs.Ytjjccaepbfijeaa.QFnExactMergeRuns
