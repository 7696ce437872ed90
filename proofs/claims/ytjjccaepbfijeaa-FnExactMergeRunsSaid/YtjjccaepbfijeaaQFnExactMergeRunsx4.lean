-- A text of this session, printed by a program of its own (wip/tools: xpatch.py, xprint.sh, mkq.py). No condition.
import Derived.Test.YtjjccaepbfijeaaQFnExactMergeRunsx0
import Derived.Test.YtjjccaepbfijeaaQFnExactMergeRunsx3
namespace Go.Proofs.Ytjjccaepbfijeaa.QFnExactMergeRuns
open Go.RowKit Go.Proofs.YtjjccaepbfijeaaW.PrintWords Go.Proofs.YtjjccaepbfijeaaW.PrintLast Go.Proofs.YtjjccaepbfijeaaW.PrintMore
attribute [local go_sem] max2_int min2_int max_two min_two max_three min_three max_four min_four   -- for this text's walks alone
set_option linter.unusedVariables false
set_option linter.unusedSimpArgs false
/-! ### spec_l08Merge: function 15 -/
mutual
def spec_l08Merge.l0 : Nat → List (S26) → Int → List (S43) → Int → Option ((List (S43)))
  | 0, _, _, _, _ => none
  | k + 1, x0, x1, x5, x6 => if x6 < (x0.length : Int) then (if 0 ≤ x6 then (if x5.length + ((rd_T26 x0 x6).f0).length < 2932031007402 then (spec_l08Merge.l0 k x0 x1 (x5 ++ ((rd_T26 x0 x6).f0)) (wrap64 (x6 + 1))) else (none)) else (none)) else ((spec_l08Sort.f k x5).bind fun t149 => (spec_l08Merge.l1 k x1 t149 (([] : List (S43))) 0))
def spec_l08Merge.l1 : Nat → Int → List (S43) → List (S43) → Int → Option ((List (S43)))
  | 0, _, _, _, _ => none
  | k + 1, x1, x5, x7, x8 => if x8 < (x5.length : Int) then (if 0 ≤ x8 then (if ((rd_T43 x5 x8).f1) ≤ x1 then (if x8 > 0 then (if 0 ≤ (wrap64 (x8 - 1)) then (if (wrap64 (x8 - 1)) < (x5.length : Int) then (if ((rd_T43 x5 (wrap64 (x8 - 1))).f0).toList = ((rd_T43 x5 x8).f0).toList then (spec_l08Merge.j2 k x1 x5 x7 x8 (decide (((rd_T43 x5 (wrap64 (x8 - 1))).f1) ≤ x1)) ((rd_T43 x5 x8).f0) ((rd_T43 x5 x8).f1) ((rd_T43 x5 x8).f2) ((rd_T43 x5 x8).f3)) else (spec_l08Merge.j2 k x1 x5 x7 x8 false ((rd_T43 x5 x8).f0) ((rd_T43 x5 x8).f1) ((rd_T43 x5 x8).f2) ((rd_T43 x5 x8).f3))) else (none)) else (none)) else (spec_l08Merge.j2 k x1 x5 x7 x8 false ((rd_T43 x5 x8).f0) ((rd_T43 x5 x8).f1) ((rd_T43 x5 x8).f2) ((rd_T43 x5 x8).f3))) else (if x7.length < 2932031007402 then (spec_l08Merge.l1 k x1 x5 (x7 ++ [(⟨(rd_T43 x5 x8).f0, (rd_T43 x5 x8).f1, (rd_T43 x5 x8).f2, (rd_T43 x5 x8).f3⟩ : S43)]) (wrap64 (x8 + 1))) else (none))) else (none)) else (some x7)
def spec_l08Merge.j2 : Nat → Int → List (S43) → List (S43) → Int → Bool → ByteArray → Int → Bool → ByteArray → Option ((List (S43)))
  | 0, _, _, _, _, _, _, _, _, _ => none
  | k + 1, x1, x5, x7, x8, x10, x157000, x157001, x157002, x157003 => if x10 = true then (spec_l08Merge.j3 k x1 x5 x7 x8 true x157000 x157001 x157002 x157003) else (spec_l08Merge.j3 k x1 x5 x7 x8 x157002 x157000 x157001 x157002 x157003)
def spec_l08Merge.j3 : Nat → Int → List (S43) → List (S43) → Int → Bool → ByteArray → Int → Bool → ByteArray → Option ((List (S43)))
  | 0, _, _, _, _, _, _, _, _, _ => none
  | k + 1, x1, x5, x7, x8, x69, x157000, x157001, x157002, x157003 => if x69 = true then (spec_l08Merge.l1 k x1 x5 x7 (wrap64 (x8 + 1))) else (if x7.length < 2932031007402 then (spec_l08Merge.l1 k x1 x5 (x7 ++ [(⟨x157000, x157001, x157002, x157003⟩ : S43)]) (wrap64 (x8 + 1))) else (none))
end
def spec_l08Merge.f (k : Nat) (l0 : List (S26)) (a1 : Int) : Option ((List (S43))) := spec_l08Merge.l0 k l0 a1 (([] : List (S43))) 0
set_option maxHeartbeats 8000000 in
set_option maxRecDepth 100000 in
theorem spec_l08Merge.calls (k : Nat) (A0 : Option Addr) (c0 : Nat) (l0 : List (S26)) (a1 : Int) (r : List (S43)) (w : World) (hr0 : Kd.C k26 w A0 l0.length l0) (hc0 : l0.length ≤ c0) (h : spec_l08Merge.f k l0 a1 = some r) :
  Calls Try.prog 15 #[.slice A0 l0.length c0, .int .i64 a1] w fun e w' => ∃ v0_ : Value, e = .returned (.agg #[v0_]) ∧ Kd.R k43 43 w' w.heap.size (fun _ => True) v0_ r ∧ Below w.heap.size w w' := by
 have hu26 := Try.underlying26
 have hu43 := Try.underlying43
 have HR0 := Aside0.mk hr0
 have HC0 := Aside0.mk hc0
 clear hr0 hc0
 have HB := Aside0.mk (Below.refl w.heap.size w)
 have H : (spec_l08Merge.l0 k l0 a1 (([] : List (S43))) 0) = some r := h
 clear h
 obtain ⟨y142, hy142⟩ : ∃ y_ : List (S43), y_ = (([] : List (S43))) := ⟨_, rfl⟩
 replace H : (spec_l08Merge.l0 k l0 a1 y142 0) = some r := by first | (rw [hy142]; with_reducible exact H) | (have H2_ := (Option.bind_some _ _).symm.trans H; rw [hy142]; with_reducible exact H2_) | (have H2_ := (Option.bind_some _ _).symm.trans H; with_reducible exact H2_) | with_reducible exact H | (rw [hy142]; exact H) | exact H
 have Ny142 := Aside0.mk hy142
 clear hy142
 have H' := Aside0.mk H
 clear H
 go_enter Try.func15, Try.ntmps15
 go_wp2_with (first | ((with_reducible refine gate_dst (N := 4) rfl ?_); refine box_event ?hg (N := 4) ?hd (cs := #[.slice none 0 0]) (t := 26) ?hr ?_; (case hd => rfl); (case hg => rfl); (case hr => first | (go_simp; done) | (go_simp; rfl)); intro gb141 hg w3 hbox hb; have n0_ := Aside0.mk (below_step (by first | exact Grow.bl HB.out | exact HB.out) hb); have n1_ := Aside0.mk (hbox); have n2_ := Aside0.mk ((by rw [hg]; exact (below_size (by first | exact Grow.bl HB.out | exact HB.out)) : w.heap.size ≤ gb141)); have n3_ := Aside0.mk ((by rw [hg]; exact (below_size (by first | exact Grow.bl HB.out | exact HB.out)) : w.heap.size ≤ gb141)); clear HB; have HB := n0_; have BK141 := n1_; have GW141 := n2_; have GE141 := n3_; clear n0_ n1_ n2_ n3_; clear hb hbox hg) | ((with_reducible refine gate_dst (N := 11) rfl ?_); refine Kd.R_lit k43 _ 43 ?hg (N := 11) ?hd (xs := ([] : List (S43))) (inner := []) (ok := fun _ => True) (okp := fun _ => True) ?hr ?hp (fun _ hk => hk) trivial (Below.refl _ _) (Nat.le_refl _) (by simp) ?_; (case hd => rfl); (case hg => rfl); (case hr => first | (go_simp; done) | (go_simp; rfl)); (case hp => exact (Reps.none _ _)); intro v143 w4 ho5 hb hg_ hnew_; clear hg_ hnew_; (first | rw [← Ny142.out] at ho5 | (simp only [Int.reduceToNat] at ho5; rw [← Ny142.out] at ho5)); have n0_ := Aside0.mk (Kd.R_lower ho5 (below_size (by repeat (first | (with_reducible first | exact HB.out | apply below_alloc | apply pw_below_drewN | apply below_drew1 | refine below_set ?_ GE141.out) | exact HB.out)))); have n1_ := Aside0.mk (blk_below (g := gb141) (o := .cells #[.slice none 0 0] 26 (0, 0)) (by first | exact Grow.bk BK141.out | exact BK141.out) hb); have n2_ := Aside0.mk (below_step (by repeat (first | (with_reducible first | exact HB.out | apply below_alloc | apply pw_below_drewN | apply below_drew1 | refine below_set ?_ GE141.out) | exact HB.out)) hb); clear BK141; clear HB; have HO144 := n0_; have BK141 := n1_; have HB := n2_; clear n0_ n1_ n2_; clear hb ho5))
 repeat (go_quiet (first | ((with_reducible refine gate_dst (N := 4) rfl ?_); refine box_event ?hg (N := 4) ?hd (cs := #[.slice none 0 0]) (t := 26) ?hr ?_; (case hd => rfl); (case hg => rfl); (case hr => first | (go_simp; done) | (go_simp; rfl)); intro gb141 hg w3 hbox hb; have n0_ := Aside0.mk (below_step (by first | exact Grow.bl HB.out | exact HB.out) hb); have n1_ := Aside0.mk (hbox); have n2_ := Aside0.mk ((by rw [hg]; exact (below_size (by first | exact Grow.bl HB.out | exact HB.out)) : w.heap.size ≤ gb141)); have n3_ := Aside0.mk ((by rw [hg]; exact (below_size (by first | exact Grow.bl HB.out | exact HB.out)) : w.heap.size ≤ gb141)); clear HB; have HB := n0_; have BK141 := n1_; have GW141 := n2_; have GE141 := n3_; clear n0_ n1_ n2_ n3_; clear hb hbox hg) | ((with_reducible refine gate_dst (N := 11) rfl ?_); refine Kd.R_lit k43 _ 43 ?hg (N := 11) ?hd (xs := ([] : List (S43))) (inner := []) (ok := fun _ => True) (okp := fun _ => True) ?hr ?hp (fun _ hk => hk) trivial (Below.refl _ _) (Nat.le_refl _) (by simp) ?_; (case hd => rfl); (case hg => rfl); (case hr => first | (go_simp; done) | (go_simp; rfl)); (case hp => exact (Reps.none _ _)); intro v143 w4 ho5 hb hg_ hnew_; clear hg_ hnew_; (first | rw [← Ny142.out] at ho5 | (simp only [Int.reduceToNat] at ho5; rw [← Ny142.out] at ho5)); have n0_ := Aside0.mk (Kd.R_lower ho5 (below_size (by repeat (first | (with_reducible first | exact HB.out | apply below_alloc | apply pw_below_drewN | apply below_drew1 | refine below_set ?_ GE141.out) | exact HB.out)))); have n1_ := Aside0.mk (blk_below (g := gb141) (o := .cells #[.slice none 0 0] 26 (0, 0)) (by first | exact Grow.bk BK141.out | exact BK141.out) hb); have n2_ := Aside0.mk (below_step (by repeat (first | (with_reducible first | exact HB.out | apply below_alloc | apply pw_below_drewN | apply below_drew1 | refine below_set ?_ GE141.out) | exact HB.out)) hb); clear BK141; clear HB; have HO144 := n0_; have BK141 := n1_; have HB := n2_; clear n0_ n1_ n2_; clear hb ho5)); try go_wp2_with (first | ((with_reducible refine gate_dst (N := 4) rfl ?_); refine box_event ?hg (N := 4) ?hd (cs := #[.slice none 0 0]) (t := 26) ?hr ?_; (case hd => rfl); (case hg => rfl); (case hr => first | (go_simp; done) | (go_simp; rfl)); intro gb141 hg w3 hbox hb; have n0_ := Aside0.mk (below_step (by first | exact Grow.bl HB.out | exact HB.out) hb); have n1_ := Aside0.mk (hbox); have n2_ := Aside0.mk ((by rw [hg]; exact (below_size (by first | exact Grow.bl HB.out | exact HB.out)) : w.heap.size ≤ gb141)); have n3_ := Aside0.mk ((by rw [hg]; exact (below_size (by first | exact Grow.bl HB.out | exact HB.out)) : w.heap.size ≤ gb141)); clear HB; have HB := n0_; have BK141 := n1_; have GW141 := n2_; have GE141 := n3_; clear n0_ n1_ n2_ n3_; clear hb hbox hg) | ((with_reducible refine gate_dst (N := 11) rfl ?_); refine Kd.R_lit k43 _ 43 ?hg (N := 11) ?hd (xs := ([] : List (S43))) (inner := []) (ok := fun _ => True) (okp := fun _ => True) ?hr ?hp (fun _ hk => hk) trivial (Below.refl _ _) (Nat.le_refl _) (by simp) ?_; (case hd => rfl); (case hg => rfl); (case hr => first | (go_simp; done) | (go_simp; rfl)); (case hp => exact (Reps.none _ _)); intro v143 w4 ho5 hb hg_ hnew_; clear hg_ hnew_; (first | rw [← Ny142.out] at ho5 | (simp only [Int.reduceToNat] at ho5; rw [← Ny142.out] at ho5)); have n0_ := Aside0.mk (Kd.R_lower ho5 (below_size (by repeat (first | (with_reducible first | exact HB.out | apply below_alloc | apply pw_below_drewN | apply below_drew1 | refine below_set ?_ GE141.out) | exact HB.out)))); have n1_ := Aside0.mk (blk_below (g := gb141) (o := .cells #[.slice none 0 0] 26 (0, 0)) (by first | exact Grow.bk BK141.out | exact BK141.out) hb); have n2_ := Aside0.mk (below_step (by repeat (first | (with_reducible first | exact HB.out | apply below_alloc | apply pw_below_drewN | apply below_drew1 | refine below_set ?_ GE141.out) | exact HB.out)) hb); clear BK141; clear HB; have HO144 := n0_; have BK141 := n1_; have HB := n2_; clear n0_ n1_ n2_; clear hb ho5)))
 go_loopg [5, 6] k (fun kq v5 v6 w' => ∃ (x5_1 : List (S43)) (x6_1 : Int), v6 = .int .i64 x6_1 ∧ Aside0 (spec_l08Merge.l0 kq l0 a1 x5_1 x6_1 = some r) ∧ Aside0 (kq ≤ k) ∧ Aside0 (Kd.R k43 43 w' w.heap.size (fun _ => True) v5 x5_1) ∧ Aside0 (w'.heap[gb141]? = some (.cells #[(.slice none 0 0)] 26 (0, 0))) ∧ Aside0 (Below w.heap.size w w'))
 case atStart => exact ⟨(y142), (0), (by first | rfl | (simp; done) | (simp [*]; done)), H', ⟨Nat.le_refl _⟩, ⟨by first | exact Grow.rg HO144.out | exact HO144.out⟩, ⟨by first | exact Grow.bk BK141.out | exact BK141.out⟩, ⟨by repeat (first | (with_reducible first | exact HB.out | apply below_alloc | apply pw_below_drewN | apply below_drew1 | refine below_set ?_ GE141.out) | exact HB.out)⟩⟩
 case round =>
  clear H'
  try clear c1
  try clear p2
  obtain ⟨x5_1, x6_1, rfl, HA, HK1, HO_5, BK141, HB⟩ := hrel
  cases gk with
  | zero => exact absurd HA.out (by simp [spec_l08Merge.l0])
  | succ k1 =>
   have H := HA.out
   clear HA
   simp only [spec_l08Merge.l0] at H
   by_cases c6 : x6_1 < (l0.length : Int)
   ·
    rw [if_pos c6] at H
    have c6b0 : decide (x6_1 < (l0.length : Int)) = true := decide_eq_true c6
    clear c6
    by_cases c7 : 0 ≤ x6_1
    rotate_left
    ·
     rw [if_neg c7] at H
     exact absurd H (by simp)
    rw [if_pos c7] at H
    have c7b0 : decide (0 ≤ x6_1) = true := decide_eq_true c7
    clear c7
    by_cases c8 : x5_1.length + ((rd_T26 l0 x6_1).f0).length < 2932031007402
    rotate_left
    ·
     rw [if_neg c8] at H
     exact absurd H (by simp)
    rw [if_pos c8] at H
    have LMc8 := Aside0.mk c8
    clear c8
    obtain ⟨y146, hy146⟩ : ∃ y_ : List (S43), y_ = (x5_1 ++ ((rd_T26 l0 x6_1).f0)) := ⟨_, rfl⟩
    replace H : (spec_l08Merge.l0 k1 l0 a1 y146 (wrap64 (x6_1 + 1))) = some r := by first | (rw [hy146]; with_reducible exact H) | (have H2_ := (Option.bind_some _ _).symm.trans H; rw [hy146]; with_reducible exact H2_) | (have H2_ := (Option.bind_some _ _).symm.trans H; with_reducible exact H2_) | with_reducible exact H | (rw [hy146]; exact H) | exact H
    have Ny146 := Aside0.mk hy146
    clear hy146
    have H' := Aside0.mk H
    clear H
    have p145 : 0 ≤ (x6_1 : Int) := of_decide_eq_true (by first | (with_reducible assumption) | assumption)
    have q145 : x6_1 < (l0.length : Int) := of_decide_eq_true (by first | (with_reducible assumption) | assumption)
    obtain ⟨ad145, A145_0, c145_0, e145, hx145_0, hl145_0, hi145_0⟩ := at_T26 HR0.out x6_1 p145 q145
    cases e145
    replace hx145_0 := Grow.bc HB.out hx145_0
    have HR145_0 := Aside0.mk hi145_0
    have HC145_0 := Aside0.mk hl145_0
    clear hi145_0 hl145_0
    replace p145 := eq_true p145
    replace q145 := eq_true q145
    go_wp2_with (first | ((with_reducible refine gate_builtin (b := .append) (xs := #[.tmp 18, .tmp 23]) rfl ?_); at_builtin; refine Kd.R_append_rows k43 (w0 := w) w.heap.size rfl (.tmp 18) (.tmp 23) 24 43 (.agg #[(.string ⟨#[]⟩), (.int .i64 0), (.bool false), (.string ⟨#[]⟩)]) 48 rfl Try.underlying24 info43 rfl (by decide) (by omega) u5 x5_1 ((rd_T26 l0 x6_1).f0) _ _ _ (fun _ => True) (fun _ => False) rfl rfl ?aO ?aR (fun _ _ h => h) (fun _ h => h.elim) ?aF ?aB ?aS ?aL ?_; (case aR => first | exact Grow.cb HR145_0.out HB.out | exact Kd.C_below HR145_0.out HB.out); (case aB => exact (by repeat (first | (with_reducible first | exact HB.out | apply below_alloc | apply pw_below_drewN | apply below_drew1 | refine below_set ?_ GE141.out) | exact HB.out))); (case aF => exact (fun _ _ => trivial)); (case aO => exact (by first | exact Grow.rg HO_5.out | exact HO_5.out)); (case aS => exact (below_size (by repeat (first | (with_reducible first | exact HB.out | apply below_alloc | apply pw_below_drewN | apply below_drew1 | refine below_set ?_ GE141.out) | exact HB.out)))); (case aL => have := LMc8.out; omega); intro v147 w9 ho hb hg hat; rw [← Ny146.out] at ho; have n0_ := Aside0.mk (blk_grown (g := gb141) (o := .cells #[.slice none 0 0] 26 (0, 0)) (by first | exact Grow.bk BK141.out | exact BK141.out) hg (by first | exact Kd.R_ne HO_5.out BK141.out (by decide) | exact fun e_ => (HO_5.out.1 gb141 e_.symm).2 rfl)); have n1_ := Aside0.mk (hb); have n2_ := Aside0.mk (ho); clear BK141; clear HB; clear HO_5; have BK141 := n0_; have HB := n1_; have HO148 := n2_; clear n0_ n1_ n2_; clear ho hb hg hat))
    repeat (go_quiet (first | ((with_reducible refine gate_builtin (b := .append) (xs := #[.tmp 18, .tmp 23]) rfl ?_); at_builtin; refine Kd.R_append_rows k43 (w0 := w) w.heap.size rfl (.tmp 18) (.tmp 23) 24 43 (.agg #[(.string ⟨#[]⟩), (.int .i64 0), (.bool false), (.string ⟨#[]⟩)]) 48 rfl Try.underlying24 info43 rfl (by decide) (by omega) u5 x5_1 ((rd_T26 l0 x6_1).f0) _ _ _ (fun _ => True) (fun _ => False) rfl rfl ?aO ?aR (fun _ _ h => h) (fun _ h => h.elim) ?aF ?aB ?aS ?aL ?_; (case aR => first | exact Grow.cb HR145_0.out HB.out | exact Kd.C_below HR145_0.out HB.out); (case aB => exact (by repeat (first | (with_reducible first | exact HB.out | apply below_alloc | apply pw_below_drewN | apply below_drew1 | refine below_set ?_ GE141.out) | exact HB.out))); (case aF => exact (fun _ _ => trivial)); (case aO => exact (by first | exact Grow.rg HO_5.out | exact HO_5.out)); (case aS => exact (below_size (by repeat (first | (with_reducible first | exact HB.out | apply below_alloc | apply pw_below_drewN | apply below_drew1 | refine below_set ?_ GE141.out) | exact HB.out)))); (case aL => have := LMc8.out; omega); intro v147 w9 ho hb hg hat; rw [← Ny146.out] at ho; have n0_ := Aside0.mk (blk_grown (g := gb141) (o := .cells #[.slice none 0 0] 26 (0, 0)) (by first | exact Grow.bk BK141.out | exact BK141.out) hg (by first | exact Kd.R_ne HO_5.out BK141.out (by decide) | exact fun e_ => (HO_5.out.1 gb141 e_.symm).2 rfl)); have n1_ := Aside0.mk (hb); have n2_ := Aside0.mk (ho); clear BK141; clear HB; clear HO_5; have BK141 := n0_; have HB := n1_; have HO148 := n2_; clear n0_ n1_ n2_; clear ho hb hg hat)); try go_wp2_with (first | ((with_reducible refine gate_builtin (b := .append) (xs := #[.tmp 18, .tmp 23]) rfl ?_); at_builtin; refine Kd.R_append_rows k43 (w0 := w) w.heap.size rfl (.tmp 18) (.tmp 23) 24 43 (.agg #[(.string ⟨#[]⟩), (.int .i64 0), (.bool false), (.string ⟨#[]⟩)]) 48 rfl Try.underlying24 info43 rfl (by decide) (by omega) u5 x5_1 ((rd_T26 l0 x6_1).f0) _ _ _ (fun _ => True) (fun _ => False) rfl rfl ?aO ?aR (fun _ _ h => h) (fun _ h => h.elim) ?aF ?aB ?aS ?aL ?_; (case aR => first | exact Grow.cb HR145_0.out HB.out | exact Kd.C_below HR145_0.out HB.out); (case aB => exact (by repeat (first | (with_reducible first | exact HB.out | apply below_alloc | apply pw_below_drewN | apply below_drew1 | refine below_set ?_ GE141.out) | exact HB.out))); (case aF => exact (fun _ _ => trivial)); (case aO => exact (by first | exact Grow.rg HO_5.out | exact HO_5.out)); (case aS => exact (below_size (by repeat (first | (with_reducible first | exact HB.out | apply below_alloc | apply pw_below_drewN | apply below_drew1 | refine below_set ?_ GE141.out) | exact HB.out)))); (case aL => have := LMc8.out; omega); intro v147 w9 ho hb hg hat; rw [← Ny146.out] at ho; have n0_ := Aside0.mk (blk_grown (g := gb141) (o := .cells #[.slice none 0 0] 26 (0, 0)) (by first | exact Grow.bk BK141.out | exact BK141.out) hg (by first | exact Kd.R_ne HO_5.out BK141.out (by decide) | exact fun e_ => (HO_5.out.1 gb141 e_.symm).2 rfl)); have n1_ := Aside0.mk (hb); have n2_ := Aside0.mk (ho); clear BK141; clear HB; clear HO_5; have BK141 := n0_; have HB := n1_; have HO148 := n2_; clear n0_ n1_ n2_; clear ho hb hg hat)))
    go_roundg k1
    case measure => have := HK1.out; omega
    case rel => exact ⟨(y146), (wrap64 (x6_1 + 1)), (by first | rfl | (simp; done) | (simp [*]; done)), H', ⟨by have := HK1.out; omega⟩, ⟨by first | exact Grow.rg HO148.out | exact HO148.out⟩, ⟨by first | exact Grow.bk BK141.out | exact BK141.out⟩, ⟨by repeat (first | (with_reducible first | exact HB.out | apply below_alloc | apply pw_below_drewN | apply below_drew1 | refine below_set ?_ GE141.out) | exact HB.out)⟩⟩
   rw [if_neg c6] at H
   have c6b0 : decide (x6_1 < (l0.length : Int)) = false := decide_eq_false c6
   clear c6
   replace H := Option.bind_eq_some_iff.mp H
   obtain ⟨t149, A100, H⟩ := H
   replace H : (spec_l08Merge.l1 k1 a1 t149 (([] : List (S43))) 0) = some r := H
   have A10 := Aside0.mk A100
   clear A100
   obtain ⟨y152, hy152⟩ : ∃ y_ : List (S43), y_ = (([] : List (S43))) := ⟨_, rfl⟩
   replace H : (spec_l08Merge.l1 k1 a1 t149 y152 0) = some r := by first | (rw [hy152]; with_reducible exact H) | (have H2_ := (Option.bind_some _ _).symm.trans H; rw [hy152]; with_reducible exact H2_) | (have H2_ := (Option.bind_some _ _).symm.trans H; with_reducible exact H2_) | with_reducible exact H | (rw [hy152]; exact H) | exact H
   have Ny152 := Aside0.mk hy152
   clear hy152
   have H' := Aside0.mk H
   clear H
   obtain ⟨Ao11, co11, eo11⟩ := Kd.R_slice HO_5.out
   subst eo11
   go_wp2_with (first | (go_at_call 25; (with_reducible refine (spec_l08Sort.calls k1 _ _ x5_1 t149 _ ?side1 ?side2 A10.out).mono ?_); (case side1 => repeat (first | exact (Kd.R_reads' HO_5.out).2.2 | (with_reducible refine Kd.C_alloc ?_ _) | (with_reducible refine Kd.C_drewN ?_ _) | (with_reducible refine Kd.C_drew ?_))); (case side2 => exact (Kd.R_reads' HO_5.out).2.1); rintro e w12 ⟨v150, rfl, ho0, hb⟩; have n0_ := Aside0.mk (Kd.R_elder' (by first | exact Grow.rg HO_5.out | exact HO_5.out) (Kd.R_base ho0) hb); have n1_ := Aside0.mk (Kd.R_lower (Kd.R_new' ho0 (Kd.R_lt (by first | exact Grow.rg HO_5.out | exact HO_5.out))) (below_size (by repeat (first | (with_reducible first | exact HB.out | apply below_alloc | apply pw_below_drewN | apply below_drew1 | refine below_set ?_ GE141.out) | exact HB.out)))); have n2_ := Aside0.mk (blk_below (g := gb141) (o := .cells #[.slice none 0 0] 26 (0, 0)) (by first | exact Grow.bk BK141.out | exact BK141.out) hb); have n3_ := Aside0.mk (below_step (by repeat (first | (with_reducible first | exact HB.out | apply below_alloc | apply pw_below_drewN | apply below_drew1 | refine below_set ?_ GE141.out) | exact HB.out)) hb); clear HO_5; clear BK141; clear HB; have HO_5 := n0_; have HO151 := n1_; have BK141 := n2_; have HB := n3_; clear n0_ n1_ n2_ n3_; (try clear hb); (try clear hb2); (try clear hk); (try clear hi); (try clear ho0)) | ((with_reducible refine gate_dst (N := 27) rfl ?_); refine Kd.R_lit k43 _ 43 ?hg (N := 27) ?hd (xs := ([] : List (S43))) (inner := []) (ok := fun _ => True) (okp := fun _ => True) ?hr ?hp (fun _ hk => hk) trivial (Below.refl _ _) (Nat.le_refl _) (by simp) ?_; (case hd => rfl); (case hg => rfl); (case hr => first | (go_simp; done) | (go_simp; rfl)); (case hp => exact (Reps.none _ _)); intro v153 w13 ho14 hb hg_ hnew_; clear hg_ hnew_; (first | rw [← Ny152.out] at ho14 | (simp only [Int.reduceToNat] at ho14; rw [← Ny152.out] at ho14)); have n0_ := Aside0.mk (Kd.R_elder' (by first | exact Grow.rg HO_5.out | exact HO_5.out) (Kd.R_base ho14) hb); have n1_ := Aside0.mk (Kd.R_elder' (by first | exact Grow.rg HO151.out | exact HO151.out) (Kd.R_base ho14) hb); have n2_ := Aside0.mk (Kd.R_lower (Kd.R_new' (Kd.R_new' ho14 (Kd.R_lt (by first | exact Grow.rg HO_5.out | exact HO_5.out))) (Kd.R_lt (by first | exact Grow.rg HO151.out | exact HO151.out))) (below_size (by repeat (first | (with_reducible first | exact HB.out | apply below_alloc | apply pw_below_drewN | apply below_drew1 | refine below_set ?_ GE141.out) | exact HB.out)))); have n3_ := Aside0.mk (blk_below (g := gb141) (o := .cells #[.slice none 0 0] 26 (0, 0)) (by first | exact Grow.bk BK141.out | exact BK141.out) hb); have n4_ := Aside0.mk (below_step (by repeat (first | (with_reducible first | exact HB.out | apply below_alloc | apply pw_below_drewN | apply below_drew1 | refine below_set ?_ GE141.out) | exact HB.out)) hb); clear HO_5; clear HO151; clear BK141; clear HB; have HO_5 := n0_; have HO151 := n1_; have HO154 := n2_; have BK141 := n3_; have HB := n4_; clear n0_ n1_ n2_ n3_ n4_; clear hb ho14))
   repeat (go_quiet (first | (go_at_call 25; (with_reducible refine (spec_l08Sort.calls k1 _ _ x5_1 t149 _ ?side1 ?side2 A10.out).mono ?_); (case side1 => repeat (first | exact (Kd.R_reads' HO_5.out).2.2 | (with_reducible refine Kd.C_alloc ?_ _) | (with_reducible refine Kd.C_drewN ?_ _) | (with_reducible refine Kd.C_drew ?_))); (case side2 => exact (Kd.R_reads' HO_5.out).2.1); rintro e w12 ⟨v150, rfl, ho0, hb⟩; have n0_ := Aside0.mk (Kd.R_elder' (by first | exact Grow.rg HO_5.out | exact HO_5.out) (Kd.R_base ho0) hb); have n1_ := Aside0.mk (Kd.R_lower (Kd.R_new' ho0 (Kd.R_lt (by first | exact Grow.rg HO_5.out | exact HO_5.out))) (below_size (by repeat (first | (with_reducible first | exact HB.out | apply below_alloc | apply pw_below_drewN | apply below_drew1 | refine below_set ?_ GE141.out) | exact HB.out)))); have n2_ := Aside0.mk (blk_below (g := gb141) (o := .cells #[.slice none 0 0] 26 (0, 0)) (by first | exact Grow.bk BK141.out | exact BK141.out) hb); have n3_ := Aside0.mk (below_step (by repeat (first | (with_reducible first | exact HB.out | apply below_alloc | apply pw_below_drewN | apply below_drew1 | refine below_set ?_ GE141.out) | exact HB.out)) hb); clear HO_5; clear BK141; clear HB; have HO_5 := n0_; have HO151 := n1_; have BK141 := n2_; have HB := n3_; clear n0_ n1_ n2_ n3_; (try clear hb); (try clear hb2); (try clear hk); (try clear hi); (try clear ho0)) | ((with_reducible refine gate_dst (N := 27) rfl ?_); refine Kd.R_lit k43 _ 43 ?hg (N := 27) ?hd (xs := ([] : List (S43))) (inner := []) (ok := fun _ => True) (okp := fun _ => True) ?hr ?hp (fun _ hk => hk) trivial (Below.refl _ _) (Nat.le_refl _) (by simp) ?_; (case hd => rfl); (case hg => rfl); (case hr => first | (go_simp; done) | (go_simp; rfl)); (case hp => exact (Reps.none _ _)); intro v153 w13 ho14 hb hg_ hnew_; clear hg_ hnew_; (first | rw [← Ny152.out] at ho14 | (simp only [Int.reduceToNat] at ho14; rw [← Ny152.out] at ho14)); have n0_ := Aside0.mk (Kd.R_elder' (by first | exact Grow.rg HO_5.out | exact HO_5.out) (Kd.R_base ho14) hb); have n1_ := Aside0.mk (Kd.R_elder' (by first | exact Grow.rg HO151.out | exact HO151.out) (Kd.R_base ho14) hb); have n2_ := Aside0.mk (Kd.R_lower (Kd.R_new' (Kd.R_new' ho14 (Kd.R_lt (by first | exact Grow.rg HO_5.out | exact HO_5.out))) (Kd.R_lt (by first | exact Grow.rg HO151.out | exact HO151.out))) (below_size (by repeat (first | (with_reducible first | exact HB.out | apply below_alloc | apply pw_below_drewN | apply below_drew1 | refine below_set ?_ GE141.out) | exact HB.out)))); have n3_ := Aside0.mk (blk_below (g := gb141) (o := .cells #[.slice none 0 0] 26 (0, 0)) (by first | exact Grow.bk BK141.out | exact BK141.out) hb); have n4_ := Aside0.mk (below_step (by repeat (first | (with_reducible first | exact HB.out | apply below_alloc | apply pw_below_drewN | apply below_drew1 | refine below_set ?_ GE141.out) | exact HB.out)) hb); clear HO_5; clear HO151; clear BK141; clear HB; have HO_5 := n0_; have HO151 := n1_; have HO154 := n2_; have BK141 := n3_; have HB := n4_; clear n0_ n1_ n2_ n3_ n4_; clear hb ho14)); try go_wp2_with (first | (go_at_call 25; (with_reducible refine (spec_l08Sort.calls k1 _ _ x5_1 t149 _ ?side1 ?side2 A10.out).mono ?_); (case side1 => repeat (first | exact (Kd.R_reads' HO_5.out).2.2 | (with_reducible refine Kd.C_alloc ?_ _) | (with_reducible refine Kd.C_drewN ?_ _) | (with_reducible refine Kd.C_drew ?_))); (case side2 => exact (Kd.R_reads' HO_5.out).2.1); rintro e w12 ⟨v150, rfl, ho0, hb⟩; have n0_ := Aside0.mk (Kd.R_elder' (by first | exact Grow.rg HO_5.out | exact HO_5.out) (Kd.R_base ho0) hb); have n1_ := Aside0.mk (Kd.R_lower (Kd.R_new' ho0 (Kd.R_lt (by first | exact Grow.rg HO_5.out | exact HO_5.out))) (below_size (by repeat (first | (with_reducible first | exact HB.out | apply below_alloc | apply pw_below_drewN | apply below_drew1 | refine below_set ?_ GE141.out) | exact HB.out)))); have n2_ := Aside0.mk (blk_below (g := gb141) (o := .cells #[.slice none 0 0] 26 (0, 0)) (by first | exact Grow.bk BK141.out | exact BK141.out) hb); have n3_ := Aside0.mk (below_step (by repeat (first | (with_reducible first | exact HB.out | apply below_alloc | apply pw_below_drewN | apply below_drew1 | refine below_set ?_ GE141.out) | exact HB.out)) hb); clear HO_5; clear BK141; clear HB; have HO_5 := n0_; have HO151 := n1_; have BK141 := n2_; have HB := n3_; clear n0_ n1_ n2_ n3_; (try clear hb); (try clear hb2); (try clear hk); (try clear hi); (try clear ho0)) | ((with_reducible refine gate_dst (N := 27) rfl ?_); refine Kd.R_lit k43 _ 43 ?hg (N := 27) ?hd (xs := ([] : List (S43))) (inner := []) (ok := fun _ => True) (okp := fun _ => True) ?hr ?hp (fun _ hk => hk) trivial (Below.refl _ _) (Nat.le_refl _) (by simp) ?_; (case hd => rfl); (case hg => rfl); (case hr => first | (go_simp; done) | (go_simp; rfl)); (case hp => exact (Reps.none _ _)); intro v153 w13 ho14 hb hg_ hnew_; clear hg_ hnew_; (first | rw [← Ny152.out] at ho14 | (simp only [Int.reduceToNat] at ho14; rw [← Ny152.out] at ho14)); have n0_ := Aside0.mk (Kd.R_elder' (by first | exact Grow.rg HO_5.out | exact HO_5.out) (Kd.R_base ho14) hb); have n1_ := Aside0.mk (Kd.R_elder' (by first | exact Grow.rg HO151.out | exact HO151.out) (Kd.R_base ho14) hb); have n2_ := Aside0.mk (Kd.R_lower (Kd.R_new' (Kd.R_new' ho14 (Kd.R_lt (by first | exact Grow.rg HO_5.out | exact HO_5.out))) (Kd.R_lt (by first | exact Grow.rg HO151.out | exact HO151.out))) (below_size (by repeat (first | (with_reducible first | exact HB.out | apply below_alloc | apply pw_below_drewN | apply below_drew1 | refine below_set ?_ GE141.out) | exact HB.out)))); have n3_ := Aside0.mk (blk_below (g := gb141) (o := .cells #[.slice none 0 0] 26 (0, 0)) (by first | exact Grow.bk BK141.out | exact BK141.out) hb); have n4_ := Aside0.mk (below_step (by repeat (first | (with_reducible first | exact HB.out | apply below_alloc | apply pw_below_drewN | apply below_drew1 | refine below_set ?_ GE141.out) | exact HB.out)) hb); clear HO_5; clear HO151; clear BK141; clear HB; have HO_5 := n0_; have HO151 := n1_; have HO154 := n2_; have BK141 := n3_; have HB := n4_; clear n0_ n1_ n2_ n3_ n4_; clear hb ho14)))
   go_loopg [7, 8] k1 (fun kq v7 v8 w' => ∃ (x7_2 : List (S43)) (x8_2 : Int), v8 = .int .i64 x8_2 ∧ Aside0 (spec_l08Merge.l1 kq a1 t149 x7_2 x8_2 = some r) ∧ Aside0 (kq ≤ k1) ∧ Aside0 (Kd.R k43 43 w' w.heap.size (fun k_ => some k_ ≠ (v7 : Value).ownBlock) v150 t149) ∧ Aside0 (Kd.R k43 43 w' w.heap.size (fun k_ => some k_ ≠ (v150 : Value).ownBlock) v7 x7_2) ∧ Aside0 (w'.heap[gb141]? = some (.cells #[(.slice none 0 0)] 26 (0, 0))) ∧ Aside0 (Below w.heap.size w w'))
   case atStart => exact ⟨(y152), (0), (by first | rfl | (simp; done) | (simp [*]; done)), H', ⟨Nat.le_refl _⟩, ⟨by (with_reducible repeat (first | apply Kd.R_alloc | apply Kd.R_drewN | apply Kd.R_drew)); exact Kd.R_mono HO151.out (fun _ hk => hk.2)⟩, ⟨by (with_reducible repeat (first | apply Kd.R_alloc | apply Kd.R_drewN | apply Kd.R_drew)); exact Kd.R_mono HO154.out (fun _ hk => hk.2)⟩, ⟨by first | exact Grow.bk BK141.out | exact BK141.out⟩, ⟨by repeat (first | (with_reducible first | exact HB.out | apply below_alloc | apply pw_below_drewN | apply below_drew1 | refine below_set ?_ GE141.out) | exact HB.out)⟩⟩
   case round =>
    clear H'
    try clear c1
    try clear p1
    try clear q1
    try clear hx1
    try clear p2
    try clear c6
    try clear c6b0
    try clear p6
    try clear c7
    try clear c7b0
    try clear c8
    try clear c14
    try clear p14
    try clear q14
    try clear hx14
    try clear hx145_0
    try clear p145
    try clear p2
    try clear q145
    obtain ⟨x7_2, x8_2, rfl, HA, HK2, HO_5, HO_7, BK141, HB⟩ := hrel
    cases gk with
    | zero => exact absurd HA.out (by simp [spec_l08Merge.l1])
    | succ k2 =>
     have H := HA.out
     clear HA
     simp only [spec_l08Merge.l1] at H
     by_cases c15 : x8_2 < (t149.length : Int)
     rotate_left
     ·
      rw [if_neg c15] at H
      have c15b0 : decide (x8_2 < (t149.length : Int)) = false := decide_eq_false c15
      clear c15
      obtain rfl := Option.some.inj H
      obtain ⟨Ao47, co47, eo47⟩ := Kd.R_slice HO_5.out
      subst eo47
      obtain ⟨Ao48, co48, eo48⟩ := Kd.R_slice HO_7.out
      subst eo48
      have hcz49_0 : wr.cell? ⟨gb141, 0, none⟩ = some (.slice none 0 0) := (blk_cell BK141.out 0).trans rfl
      have hfz49_0 := blk_frozen BK141.out 0
      go_wp2
      repeat (go_quiet (fail); try go_wp2)
      refine bodyPost_ret (results_cell_row rfl _ _ gb141 26 #[.slice Ao48 x7_2.length co48] (0, 0) _ rfl (by (with_reducible repeat (first | refine blk_drewN ?_ _ | refine blk_drew ?_ | refine blk_alloc ?_ _)); refine blk_put (cs := #[.slice none 0 0]) ?_ 0 _ rfl; (with_reducible repeat (first | refine blk_drewN ?_ _ | refine blk_drew ?_ | refine blk_alloc ?_ _)); exact BK141.out) Try.underlying26 rfl (by kernel_rfl)) rfl ?_
      exact ⟨_, by first | rfl | (simp [errW_none, errW_some] <;> rfl) | (simp [*, errW_none, errW_some] <;> rfl), by (with_reducible repeat (first | apply Kd.R_alloc | apply Kd.R_drewN | apply Kd.R_drew)); exact Kd.R_mono (Kd.R_far (p := ⟨gb141, 0, none⟩) (Kd.R_types HO_7.out BK141.out (by decide)) (fun _ hk => hk.2) (.slice Ao48 x7_2.length co48)) (fun _ hk => trivial), by repeat (first | (with_reducible first | exact HB.out | apply below_alloc | apply pw_below_drewN | apply below_drew1 | refine below_set ?_ GE141.out) | exact HB.out)⟩
     rw [if_pos c15] at H
     have c15b0 : decide (x8_2 < (t149.length : Int)) = true := decide_eq_true c15
     clear c15
     by_cases c16 : 0 ≤ x8_2
     rotate_left
     ·
      rw [if_neg c16] at H
      exact absurd H (by simp)
     rw [if_pos c16] at H
     have c16b0 : decide (0 ≤ x8_2) = true := decide_eq_true c16
     clear c16
     by_cases c17 : ((rd_T43 t149 x8_2).f1) ≤ a1
     rotate_left
     ·
      rw [if_neg c17] at H
      have c17b0 : decide (((rd_T43 t149 x8_2).f1) ≤ a1) = false := decide_eq_false c17
      clear c17
      by_cases c41 : x7_2.length < 2932031007402
      rotate_left
      ·
       rw [if_neg c41] at H
       exact absurd H (by simp)
      rw [if_pos c41] at H
      have LMc41 := Aside0.mk c41
      clear c41
      obtain ⟨y162, hy162⟩ : ∃ y_ : List (S43), y_ = (x7_2 ++ [(⟨(rd_T43 t149 x8_2).f0, (rd_T43 t149 x8_2).f1, (rd_T43 t149 x8_2).f2, (rd_T43 t149 x8_2).f3⟩ : S43)]) := ⟨_, rfl⟩
      replace H : (spec_l08Merge.l1 k2 a1 t149 y162 (wrap64 (x8_2 + 1))) = some r := by first | (rw [hy162]; with_reducible exact H) | (have H2_ := (Option.bind_some _ _).symm.trans H; rw [hy162]; with_reducible exact H2_) | (have H2_ := (Option.bind_some _ _).symm.trans H; with_reducible exact H2_) | with_reducible exact H | (rw [hy162]; exact H) | exact H
      have Ny162 := Aside0.mk hy162
      clear hy162
      have H' := Aside0.mk H
      clear H
      obtain ⟨Ao42, co42, eo42⟩ := Kd.R_slice HO_5.out
      subst eo42
      have p155 : 0 ≤ (x8_2 : Int) := of_decide_eq_true (by first | (with_reducible assumption) | assumption)
      have q155 : x8_2 < (t149.length : Int) := of_decide_eq_true (by first | (with_reducible assumption) | assumption)
      obtain ⟨ad155, e155, hx155_0, hx155_1, hx155_2, hx155_3⟩ := at_T43 (Kd.R_reads' HO_5.out).2.2 x8_2 p155 q155
      cases e155
      replace p155 := eq_true p155
      replace q155 := eq_true q155
      go_wp2_with (first | ((with_reducible refine gate_dst (N := 9) rfl ?_); refine box_event ?hg (N := 9) ?hd (cs := #[.string (⟨#[]⟩ : ByteArray), .int .i64 0, .bool false, .string (⟨#[]⟩ : ByteArray)]) (t := 43) ?hr ?_; (case hd => rfl); (case hg => rfl); (case hr => first | (go_simp; done) | (go_simp; rfl)); intro gb156 hg w43 hbox hb; have n0_ := Aside0.mk (Kd.R_below (Kd.R_elderB (by first | exact Grow.rg HO_5.out | exact HO_5.out) gb156 (Nat.le_of_eq hg.symm)) hb); have n1_ := Aside0.mk (Kd.R_below (Kd.R_elderB (by first | exact Grow.rg HO_7.out | exact HO_7.out) gb156 (Nat.le_of_eq hg.symm)) hb); have n2_ := Aside0.mk (blk_below (g := gb141) (o := .cells #[.slice none 0 0] 26 (0, 0)) (by first | exact Grow.bk BK141.out | exact BK141.out) hb); have n3_ := Aside0.mk (below_step (by repeat (first | (with_reducible first | exact HB.out | apply below_alloc | apply pw_below_drewN | apply below_drew1 | refine below_set ?_ GE141.out) | exact HB.out)) hb); have n4_ := Aside0.mk (hbox); have n5_ := Aside0.mk ((by rw [hg]; exact (below_size (by repeat (first | (with_reducible first | exact HB.out | apply below_alloc | apply pw_below_drewN | apply below_drew1 | refine below_set ?_ GE141.out) | exact HB.out))) : w.heap.size ≤ gb156)); have n6_ := Aside0.mk ((by rw [hg]; exact (below_size (by repeat (first | (with_reducible first | exact HB.out | apply below_alloc | apply pw_below_drewN | apply below_drew1 | refine below_set ?_ GE141.out) | exact HB.out))) : w.heap.size ≤ gb156)); have n7_ := Aside0.mk ((by rw [hg]; exact Nat.ne_of_lt (blk_lt (g := gb141) (o := .cells #[.slice none 0 0] 26 (0, 0)) (by first | exact Grow.bk BK141.out | exact BK141.out)) : gb141 ≠ gb156)); have n8_ := Aside0.mk ((by rw [hg]; exact Nat.ne_of_gt (blk_lt (g := gb141) (o := .cells #[.slice none 0 0] 26 (0, 0)) (by first | exact Grow.bk BK141.out | exact BK141.out)) : gb156 ≠ gb141)); clear HO_5; clear HO_7; clear BK141; clear HB; have HO_5 := n0_; have HO_7 := n1_; have BK141 := n2_; have HB := n3_; have BK156 := n4_; have GW156 := n5_; have GE156 := n6_; have NB141_156 := n7_; have NB156_141 := n8_; clear n0_ n1_ n2_ n3_ n4_ n5_ n6_ n7_ n8_; clear hb hbox hg; have hnb44 := NB156_141.out; have hnc44 := NB141_156.out; have hcz45_0 : w43.cell? ⟨gb156, 0, none⟩ = some (.string (⟨#[]⟩ : ByteArray)) := (blk_cell BK156.out 0).trans rfl; have hcz45_1 : w43.cell? ⟨gb156, 1, none⟩ = some (.int .i64 0) := (blk_cell BK156.out 1).trans rfl; have hcz45_2 : w43.cell? ⟨gb156, 2, none⟩ = some (.bool false) := (blk_cell BK156.out 2).trans rfl; have hcz45_3 : w43.cell? ⟨gb156, 3, none⟩ = some (.string (⟨#[]⟩ : ByteArray)) := (blk_cell BK156.out 3).trans rfl; have hfz45_0 := blk_frozen BK156.out 0; have hfz45_1 := blk_frozen BK156.out 1; have hfz45_2 := blk_frozen BK156.out 2; have hfz45_3 := blk_frozen BK156.out 3) | ((with_reducible refine gate_builtin (b := .append) (xs := #[.tmp 70, .tmp 72]) rfl ?_); at_builtin; refine Kd.R_append k43 (w0 := w) w.heap.size rfl (.tmp 70) (.tmp 72) 24 43 (.agg #[(.string ⟨#[]⟩), (.int .i64 0), (.bool false), (.string ⟨#[]⟩)]) 48 rfl Try.underlying24 info43 rfl (by decide) (by omega) u7 x7_2 (⟨(rd_T43 t149 x8_2).f0, (rd_T43 t149 x8_2).f1, (rd_T43 t149 x8_2).f2, (rd_T43 t149 x8_2).f3⟩ : S43) [.string ((rd_T43 t149 x8_2).f0), .int .i64 ((rd_T43 t149 x8_2).f1), .bool ((rd_T43 t149 x8_2).f2), .string ((rd_T43 t149 x8_2).f3)] (fun k_ => some k_ ≠ (.slice (some ad155) t149.length co42 : Value).ownBlock ∧ k_ ≠ gb156) (fun _ => False) rfl (by first | (go_simp; done) | (go_simp; rfl)) ?aP (fun _ hk => hk.elim) ?aF ?aO ?aB ?aS ?aL ?_; (case aP => exact k43_mkM _ _ _ (⟨(rd_T43 t149 x8_2).f0, (rd_T43 t149 x8_2).f1, (rd_T43 t149 x8_2).f2, (rd_T43 t149 x8_2).f3⟩ : S43)); (case aB => exact (by repeat (first | (with_reducible first | exact HB.out | apply below_alloc | apply pw_below_drewN | apply below_drew1 | refine below_set ?_ GE141.out | refine below_set ?_ GE156.out) | exact HB.out))); (case aF => exact (fun k_ hk => ⟨Kd.fresh' (Kd.R_lt (by (with_reducible repeat (first | apply Kd.R_alloc | apply Kd.R_drewN | apply Kd.R_drew)); exact (Kd.R_mono (Kd.R_far (p := ⟨gb156, 3, none⟩) (Kd.R_far (p := ⟨gb156, 2, none⟩) (Kd.R_far (p := ⟨gb156, 1, none⟩) (Kd.R_far (p := ⟨gb156, 0, none⟩) (Kd.R_mono HO_5.out (fun k_ hk => (⟨hk, hk.2⟩ : _ ∧ k_ ≠ gb156))) (fun _ hk => hk.2) (.string ((rd_T43 t149 x8_2).f0))) (fun _ hk => hk.2) (.int .i64 ((rd_T43 t149 x8_2).f1))) (fun _ hk => hk.2) (.bool ((rd_T43 t149 x8_2).f2))) (fun _ hk => hk.2) (.string ((rd_T43 t149 x8_2).f3))) (fun _ h_ => h_.1)))) k_ hk, Kd.freshB (g := gb156) (o := .cells #[.string ((rd_T43 t149 x8_2).f0), .int .i64 ((rd_T43 t149 x8_2).f1), .bool ((rd_T43 t149 x8_2).f2), .string ((rd_T43 t149 x8_2).f3)] 43 (0, 0)) (by (with_reducible repeat (first | refine blk_drewN ?_ _ | refine blk_drew ?_ | refine blk_alloc ?_ _)); refine blk_put (cs := #[.string ((rd_T43 t149 x8_2).f0), .int .i64 ((rd_T43 t149 x8_2).f1), .bool ((rd_T43 t149 x8_2).f2), .string (⟨#[]⟩ : ByteArray)]) ?_ 3 _ rfl; (with_reducible repeat (first | refine blk_drewN ?_ _ | refine blk_drew ?_ | refine blk_alloc ?_ _)); refine blk_put (cs := #[.string ((rd_T43 t149 x8_2).f0), .int .i64 ((rd_T43 t149 x8_2).f1), .bool false, .string (⟨#[]⟩ : ByteArray)]) ?_ 2 _ rfl; (with_reducible repeat (first | refine blk_drewN ?_ _ | refine blk_drew ?_ | refine blk_alloc ?_ _)); refine blk_put (cs := #[.string ((rd_T43 t149 x8_2).f0), .int .i64 0, .bool false, .string (⟨#[]⟩ : ByteArray)]) ?_ 1 _ rfl; (with_reducible repeat (first | refine blk_drewN ?_ _ | refine blk_drew ?_ | refine blk_alloc ?_ _)); refine blk_put (cs := #[.string (⟨#[]⟩ : ByteArray), .int .i64 0, .bool false, .string (⟨#[]⟩ : ByteArray)]) ?_ 0 _ rfl; (with_reducible repeat (first | refine blk_drewN ?_ _ | refine blk_drew ?_ | refine blk_alloc ?_ _)); exact BK156.out) k_ hk⟩)); (case aO => exact (by (with_reducible repeat (first | apply Kd.R_alloc | apply Kd.R_drewN | apply Kd.R_drew)); exact Kd.R_mono (Kd.R_far (p := ⟨gb156, 3, none⟩) (Kd.R_far (p := ⟨gb156, 2, none⟩) (Kd.R_far (p := ⟨gb156, 1, none⟩) (Kd.R_far (p := ⟨gb156, 0, none⟩) (Kd.R_mono HO_7.out (fun k_ hk => (⟨hk, hk.2⟩ : _ ∧ k_ ≠ gb156))) (fun _ hk => hk.2) (.string ((rd_T43 t149 x8_2).f0))) (fun _ hk => hk.2) (.int .i64 ((rd_T43 t149 x8_2).f1))) (fun _ hk => hk.2) (.bool ((rd_T43 t149 x8_2).f2))) (fun _ hk => hk.2) (.string ((rd_T43 t149 x8_2).f3))) (fun _ hk => ⟨hk.1.1, hk.1.2⟩))); (case aS => exact (below_size (by repeat (first | (with_reducible first | exact HB.out | apply below_alloc | apply pw_below_drewN | apply below_drew1 | refine below_set ?_ GE141.out | refine below_set ?_ GE156.out) | exact HB.out)))); (case aL => have := LMc41.out; omega); intro v163 w46 ho hb hg hat; rw [← Ny162.out] at ho; have n0_ := Aside0.mk (Kd.R_after (ok := (fun k_ => k_ ≠ gb156)) (by (with_reducible repeat (first | apply Kd.R_alloc | apply Kd.R_drewN | apply Kd.R_drew)); exact Kd.R_mono (Kd.R_far (p := ⟨gb156, 3, none⟩) (Kd.R_far (p := ⟨gb156, 2, none⟩) (Kd.R_far (p := ⟨gb156, 1, none⟩) (Kd.R_far (p := ⟨gb156, 0, none⟩) (Kd.R_mono HO_5.out (fun k_ hk => (⟨hk, hk.2⟩ : _ ∧ k_ ≠ gb156))) (fun _ hk => hk.2) (.string ((rd_T43 t149 x8_2).f0))) (fun _ hk => hk.2) (.int .i64 ((rd_T43 t149 x8_2).f1))) (fun _ hk => hk.2) (.bool ((rd_T43 t149 x8_2).f2))) (fun _ hk => hk.2) (.string ((rd_T43 t149 x8_2).f3))) (fun _ hk => ⟨hk.1.2, hk.1.1⟩)) hg hat); have n1_ := Aside0.mk (blk_grown (g := gb141) (o := .cells #[.slice none 0 0] 26 (0, 0)) (by (with_reducible repeat (first | refine blk_drewN ?_ _ | refine blk_drew ?_ | refine blk_alloc ?_ _)); refine blk_far ?_ NB141_156.out _; (with_reducible repeat (first | refine blk_drewN ?_ _ | refine blk_drew ?_ | refine blk_alloc ?_ _)); refine blk_far ?_ NB141_156.out _; (with_reducible repeat (first | refine blk_drewN ?_ _ | refine blk_drew ?_ | refine blk_alloc ?_ _)); refine blk_far ?_ NB141_156.out _; (with_reducible repeat (first | refine blk_drewN ?_ _ | refine blk_drew ?_ | refine blk_alloc ?_ _)); refine blk_far ?_ NB141_156.out _; (with_reducible repeat (first | refine blk_drewN ?_ _ | refine blk_drew ?_ | refine blk_alloc ?_ _)); exact BK141.out) hg (by first | exact Kd.R_ne HO_7.out BK141.out (by decide) | exact fun e_ => (HO_7.out.1 gb141 e_.symm).2 rfl)); have n2_ := Aside0.mk (blk_grown (g := gb156) (o := .cells #[.string ((rd_T43 t149 x8_2).f0), .int .i64 ((rd_T43 t149 x8_2).f1), .bool ((rd_T43 t149 x8_2).f2), .string ((rd_T43 t149 x8_2).f3)] 43 (0, 0)) (by (with_reducible repeat (first | refine blk_drewN ?_ _ | refine blk_drew ?_ | refine blk_alloc ?_ _)); refine blk_put (cs := #[.string ((rd_T43 t149 x8_2).f0), .int .i64 ((rd_T43 t149 x8_2).f1), .bool ((rd_T43 t149 x8_2).f2), .string (⟨#[]⟩ : ByteArray)]) ?_ 3 _ rfl; (with_reducible repeat (first | refine blk_drewN ?_ _ | refine blk_drew ?_ | refine blk_alloc ?_ _)); refine blk_put (cs := #[.string ((rd_T43 t149 x8_2).f0), .int .i64 ((rd_T43 t149 x8_2).f1), .bool false, .string (⟨#[]⟩ : ByteArray)]) ?_ 2 _ rfl; (with_reducible repeat (first | refine blk_drewN ?_ _ | refine blk_drew ?_ | refine blk_alloc ?_ _)); refine blk_put (cs := #[.string ((rd_T43 t149 x8_2).f0), .int .i64 0, .bool false, .string (⟨#[]⟩ : ByteArray)]) ?_ 1 _ rfl; (with_reducible repeat (first | refine blk_drewN ?_ _ | refine blk_drew ?_ | refine blk_alloc ?_ _)); refine blk_put (cs := #[.string (⟨#[]⟩ : ByteArray), .int .i64 0, .bool false, .string (⟨#[]⟩ : ByteArray)]) ?_ 0 _ rfl; (with_reducible repeat (first | refine blk_drewN ?_ _ | refine blk_drew ?_ | refine blk_alloc ?_ _)); exact BK156.out) hg (Kd.R_away HO_7.out (fun _ hk => hk.2))); have n3_ := Aside0.mk (hb); have n4_ := Aside0.mk (ho); clear HO_5; clear BK141; clear BK156; clear HB; clear HO_7; have HO_5 := n0_; have BK141 := n1_; have BK156 := n2_; have HB := n3_; have HO164 := n4_; clear n0_ n1_ n2_ n3_ n4_; clear ho hb hg hat))
      repeat (go_quiet (first | ((with_reducible refine gate_dst (N := 9) rfl ?_); refine box_event ?hg (N := 9) ?hd (cs := #[.string (⟨#[]⟩ : ByteArray), .int .i64 0, .bool false, .string (⟨#[]⟩ : ByteArray)]) (t := 43) ?hr ?_; (case hd => rfl); (case hg => rfl); (case hr => first | (go_simp; done) | (go_simp; rfl)); intro gb156 hg w43 hbox hb; have n0_ := Aside0.mk (Kd.R_below (Kd.R_elderB (by first | exact Grow.rg HO_5.out | exact HO_5.out) gb156 (Nat.le_of_eq hg.symm)) hb); have n1_ := Aside0.mk (Kd.R_below (Kd.R_elderB (by first | exact Grow.rg HO_7.out | exact HO_7.out) gb156 (Nat.le_of_eq hg.symm)) hb); have n2_ := Aside0.mk (blk_below (g := gb141) (o := .cells #[.slice none 0 0] 26 (0, 0)) (by first | exact Grow.bk BK141.out | exact BK141.out) hb); have n3_ := Aside0.mk (below_step (by repeat (first | (with_reducible first | exact HB.out | apply below_alloc | apply pw_below_drewN | apply below_drew1 | refine below_set ?_ GE141.out) | exact HB.out)) hb); have n4_ := Aside0.mk (hbox); have n5_ := Aside0.mk ((by rw [hg]; exact (below_size (by repeat (first | (with_reducible first | exact HB.out | apply below_alloc | apply pw_below_drewN | apply below_drew1 | refine below_set ?_ GE141.out) | exact HB.out))) : w.heap.size ≤ gb156)); have n6_ := Aside0.mk ((by rw [hg]; exact (below_size (by repeat (first | (with_reducible first | exact HB.out | apply below_alloc | apply pw_below_drewN | apply below_drew1 | refine below_set ?_ GE141.out) | exact HB.out))) : w.heap.size ≤ gb156)); have n7_ := Aside0.mk ((by rw [hg]; exact Nat.ne_of_lt (blk_lt (g := gb141) (o := .cells #[.slice none 0 0] 26 (0, 0)) (by first | exact Grow.bk BK141.out | exact BK141.out)) : gb141 ≠ gb156)); have n8_ := Aside0.mk ((by rw [hg]; exact Nat.ne_of_gt (blk_lt (g := gb141) (o := .cells #[.slice none 0 0] 26 (0, 0)) (by first | exact Grow.bk BK141.out | exact BK141.out)) : gb156 ≠ gb141)); clear HO_5; clear HO_7; clear BK141; clear HB; have HO_5 := n0_; have HO_7 := n1_; have BK141 := n2_; have HB := n3_; have BK156 := n4_; have GW156 := n5_; have GE156 := n6_; have NB141_156 := n7_; have NB156_141 := n8_; clear n0_ n1_ n2_ n3_ n4_ n5_ n6_ n7_ n8_; clear hb hbox hg; have hnb44 := NB156_141.out; have hnc44 := NB141_156.out; have hcz45_0 : w43.cell? ⟨gb156, 0, none⟩ = some (.string (⟨#[]⟩ : ByteArray)) := (blk_cell BK156.out 0).trans rfl; have hcz45_1 : w43.cell? ⟨gb156, 1, none⟩ = some (.int .i64 0) := (blk_cell BK156.out 1).trans rfl; have hcz45_2 : w43.cell? ⟨gb156, 2, none⟩ = some (.bool false) := (blk_cell BK156.out 2).trans rfl; have hcz45_3 : w43.cell? ⟨gb156, 3, none⟩ = some (.string (⟨#[]⟩ : ByteArray)) := (blk_cell BK156.out 3).trans rfl; have hfz45_0 := blk_frozen BK156.out 0; have hfz45_1 := blk_frozen BK156.out 1; have hfz45_2 := blk_frozen BK156.out 2; have hfz45_3 := blk_frozen BK156.out 3) | ((with_reducible refine gate_builtin (b := .append) (xs := #[.tmp 70, .tmp 72]) rfl ?_); at_builtin; refine Kd.R_append k43 (w0 := w) w.heap.size rfl (.tmp 70) (.tmp 72) 24 43 (.agg #[(.string ⟨#[]⟩), (.int .i64 0), (.bool false), (.string ⟨#[]⟩)]) 48 rfl Try.underlying24 info43 rfl (by decide) (by omega) u7 x7_2 (⟨(rd_T43 t149 x8_2).f0, (rd_T43 t149 x8_2).f1, (rd_T43 t149 x8_2).f2, (rd_T43 t149 x8_2).f3⟩ : S43) [.string ((rd_T43 t149 x8_2).f0), .int .i64 ((rd_T43 t149 x8_2).f1), .bool ((rd_T43 t149 x8_2).f2), .string ((rd_T43 t149 x8_2).f3)] (fun k_ => some k_ ≠ (.slice (some ad155) t149.length co42 : Value).ownBlock ∧ k_ ≠ gb156) (fun _ => False) rfl (by first | (go_simp; done) | (go_simp; rfl)) ?aP (fun _ hk => hk.elim) ?aF ?aO ?aB ?aS ?aL ?_; (case aP => exact k43_mkM _ _ _ (⟨(rd_T43 t149 x8_2).f0, (rd_T43 t149 x8_2).f1, (rd_T43 t149 x8_2).f2, (rd_T43 t149 x8_2).f3⟩ : S43)); (case aB => exact (by repeat (first | (with_reducible first | exact HB.out | apply below_alloc | apply pw_below_drewN | apply below_drew1 | refine below_set ?_ GE141.out | refine below_set ?_ GE156.out) | exact HB.out))); (case aF => exact (fun k_ hk => ⟨Kd.fresh' (Kd.R_lt (by (with_reducible repeat (first | apply Kd.R_alloc | apply Kd.R_drewN | apply Kd.R_drew)); exact (Kd.R_mono (Kd.R_far (p := ⟨gb156, 3, none⟩) (Kd.R_far (p := ⟨gb156, 2, none⟩) (Kd.R_far (p := ⟨gb156, 1, none⟩) (Kd.R_far (p := ⟨gb156, 0, none⟩) (Kd.R_mono HO_5.out (fun k_ hk => (⟨hk, hk.2⟩ : _ ∧ k_ ≠ gb156))) (fun _ hk => hk.2) (.string ((rd_T43 t149 x8_2).f0))) (fun _ hk => hk.2) (.int .i64 ((rd_T43 t149 x8_2).f1))) (fun _ hk => hk.2) (.bool ((rd_T43 t149 x8_2).f2))) (fun _ hk => hk.2) (.string ((rd_T43 t149 x8_2).f3))) (fun _ h_ => h_.1)))) k_ hk, Kd.freshB (g := gb156) (o := .cells #[.string ((rd_T43 t149 x8_2).f0), .int .i64 ((rd_T43 t149 x8_2).f1), .bool ((rd_T43 t149 x8_2).f2), .string ((rd_T43 t149 x8_2).f3)] 43 (0, 0)) (by (with_reducible repeat (first | refine blk_drewN ?_ _ | refine blk_drew ?_ | refine blk_alloc ?_ _)); refine blk_put (cs := #[.string ((rd_T43 t149 x8_2).f0), .int .i64 ((rd_T43 t149 x8_2).f1), .bool ((rd_T43 t149 x8_2).f2), .string (⟨#[]⟩ : ByteArray)]) ?_ 3 _ rfl; (with_reducible repeat (first | refine blk_drewN ?_ _ | refine blk_drew ?_ | refine blk_alloc ?_ _)); refine blk_put (cs := #[.string ((rd_T43 t149 x8_2).f0), .int .i64 ((rd_T43 t149 x8_2).f1), .bool false, .string (⟨#[]⟩ : ByteArray)]) ?_ 2 _ rfl; (with_reducible repeat (first | refine blk_drewN ?_ _ | refine blk_drew ?_ | refine blk_alloc ?_ _)); refine blk_put (cs := #[.string ((rd_T43 t149 x8_2).f0), .int .i64 0, .bool false, .string (⟨#[]⟩ : ByteArray)]) ?_ 1 _ rfl; (with_reducible repeat (first | refine blk_drewN ?_ _ | refine blk_drew ?_ | refine blk_alloc ?_ _)); refine blk_put (cs := #[.string (⟨#[]⟩ : ByteArray), .int .i64 0, .bool false, .string (⟨#[]⟩ : ByteArray)]) ?_ 0 _ rfl; (with_reducible repeat (first | refine blk_drewN ?_ _ | refine blk_drew ?_ | refine blk_alloc ?_ _)); exact BK156.out) k_ hk⟩)); (case aO => exact (by (with_reducible repeat (first | apply Kd.R_alloc | apply Kd.R_drewN | apply Kd.R_drew)); exact Kd.R_mono (Kd.R_far (p := ⟨gb156, 3, none⟩) (Kd.R_far (p := ⟨gb156, 2, none⟩) (Kd.R_far (p := ⟨gb156, 1, none⟩) (Kd.R_far (p := ⟨gb156, 0, none⟩) (Kd.R_mono HO_7.out (fun k_ hk => (⟨hk, hk.2⟩ : _ ∧ k_ ≠ gb156))) (fun _ hk => hk.2) (.string ((rd_T43 t149 x8_2).f0))) (fun _ hk => hk.2) (.int .i64 ((rd_T43 t149 x8_2).f1))) (fun _ hk => hk.2) (.bool ((rd_T43 t149 x8_2).f2))) (fun _ hk => hk.2) (.string ((rd_T43 t149 x8_2).f3))) (fun _ hk => ⟨hk.1.1, hk.1.2⟩))); (case aS => exact (below_size (by repeat (first | (with_reducible first | exact HB.out | apply below_alloc | apply pw_below_drewN | apply below_drew1 | refine below_set ?_ GE141.out | refine below_set ?_ GE156.out) | exact HB.out)))); (case aL => have := LMc41.out; omega); intro v163 w46 ho hb hg hat; rw [← Ny162.out] at ho; have n0_ := Aside0.mk (Kd.R_after (ok := (fun k_ => k_ ≠ gb156)) (by (with_reducible repeat (first | apply Kd.R_alloc | apply Kd.R_drewN | apply Kd.R_drew)); exact Kd.R_mono (Kd.R_far (p := ⟨gb156, 3, none⟩) (Kd.R_far (p := ⟨gb156, 2, none⟩) (Kd.R_far (p := ⟨gb156, 1, none⟩) (Kd.R_far (p := ⟨gb156, 0, none⟩) (Kd.R_mono HO_5.out (fun k_ hk => (⟨hk, hk.2⟩ : _ ∧ k_ ≠ gb156))) (fun _ hk => hk.2) (.string ((rd_T43 t149 x8_2).f0))) (fun _ hk => hk.2) (.int .i64 ((rd_T43 t149 x8_2).f1))) (fun _ hk => hk.2) (.bool ((rd_T43 t149 x8_2).f2))) (fun _ hk => hk.2) (.string ((rd_T43 t149 x8_2).f3))) (fun _ hk => ⟨hk.1.2, hk.1.1⟩)) hg hat); have n1_ := Aside0.mk (blk_grown (g := gb141) (o := .cells #[.slice none 0 0] 26 (0, 0)) (by (with_reducible repeat (first | refine blk_drewN ?_ _ | refine blk_drew ?_ | refine blk_alloc ?_ _)); refine blk_far ?_ NB141_156.out _; (with_reducible repeat (first | refine blk_drewN ?_ _ | refine blk_drew ?_ | refine blk_alloc ?_ _)); refine blk_far ?_ NB141_156.out _; (with_reducible repeat (first | refine blk_drewN ?_ _ | refine blk_drew ?_ | refine blk_alloc ?_ _)); refine blk_far ?_ NB141_156.out _; (with_reducible repeat (first | refine blk_drewN ?_ _ | refine blk_drew ?_ | refine blk_alloc ?_ _)); refine blk_far ?_ NB141_156.out _; (with_reducible repeat (first | refine blk_drewN ?_ _ | refine blk_drew ?_ | refine blk_alloc ?_ _)); exact BK141.out) hg (by first | exact Kd.R_ne HO_7.out BK141.out (by decide) | exact fun e_ => (HO_7.out.1 gb141 e_.symm).2 rfl)); have n2_ := Aside0.mk (blk_grown (g := gb156) (o := .cells #[.string ((rd_T43 t149 x8_2).f0), .int .i64 ((rd_T43 t149 x8_2).f1), .bool ((rd_T43 t149 x8_2).f2), .string ((rd_T43 t149 x8_2).f3)] 43 (0, 0)) (by (with_reducible repeat (first | refine blk_drewN ?_ _ | refine blk_drew ?_ | refine blk_alloc ?_ _)); refine blk_put (cs := #[.string ((rd_T43 t149 x8_2).f0), .int .i64 ((rd_T43 t149 x8_2).f1), .bool ((rd_T43 t149 x8_2).f2), .string (⟨#[]⟩ : ByteArray)]) ?_ 3 _ rfl; (with_reducible repeat (first | refine blk_drewN ?_ _ | refine blk_drew ?_ | refine blk_alloc ?_ _)); refine blk_put (cs := #[.string ((rd_T43 t149 x8_2).f0), .int .i64 ((rd_T43 t149 x8_2).f1), .bool false, .string (⟨#[]⟩ : ByteArray)]) ?_ 2 _ rfl; (with_reducible repeat (first | refine blk_drewN ?_ _ | refine blk_drew ?_ | refine blk_alloc ?_ _)); refine blk_put (cs := #[.string ((rd_T43 t149 x8_2).f0), .int .i64 0, .bool false, .string (⟨#[]⟩ : ByteArray)]) ?_ 1 _ rfl; (with_reducible repeat (first | refine blk_drewN ?_ _ | refine blk_drew ?_ | refine blk_alloc ?_ _)); refine blk_put (cs := #[.string (⟨#[]⟩ : ByteArray), .int .i64 0, .bool false, .string (⟨#[]⟩ : ByteArray)]) ?_ 0 _ rfl; (with_reducible repeat (first | refine blk_drewN ?_ _ | refine blk_drew ?_ | refine blk_alloc ?_ _)); exact BK156.out) hg (Kd.R_away HO_7.out (fun _ hk => hk.2))); have n3_ := Aside0.mk (hb); have n4_ := Aside0.mk (ho); clear HO_5; clear BK141; clear BK156; clear HB; clear HO_7; have HO_5 := n0_; have BK141 := n1_; have BK156 := n2_; have HB := n3_; have HO164 := n4_; clear n0_ n1_ n2_ n3_ n4_; clear ho hb hg hat)); try go_wp2_with (first | ((with_reducible refine gate_dst (N := 9) rfl ?_); refine box_event ?hg (N := 9) ?hd (cs := #[.string (⟨#[]⟩ : ByteArray), .int .i64 0, .bool false, .string (⟨#[]⟩ : ByteArray)]) (t := 43) ?hr ?_; (case hd => rfl); (case hg => rfl); (case hr => first | (go_simp; done) | (go_simp; rfl)); intro gb156 hg w43 hbox hb; have n0_ := Aside0.mk (Kd.R_below (Kd.R_elderB (by first | exact Grow.rg HO_5.out | exact HO_5.out) gb156 (Nat.le_of_eq hg.symm)) hb); have n1_ := Aside0.mk (Kd.R_below (Kd.R_elderB (by first | exact Grow.rg HO_7.out | exact HO_7.out) gb156 (Nat.le_of_eq hg.symm)) hb); have n2_ := Aside0.mk (blk_below (g := gb141) (o := .cells #[.slice none 0 0] 26 (0, 0)) (by first | exact Grow.bk BK141.out | exact BK141.out) hb); have n3_ := Aside0.mk (below_step (by repeat (first | (with_reducible first | exact HB.out | apply below_alloc | apply pw_below_drewN | apply below_drew1 | refine below_set ?_ GE141.out) | exact HB.out)) hb); have n4_ := Aside0.mk (hbox); have n5_ := Aside0.mk ((by rw [hg]; exact (below_size (by repeat (first | (with_reducible first | exact HB.out | apply below_alloc | apply pw_below_drewN | apply below_drew1 | refine below_set ?_ GE141.out) | exact HB.out))) : w.heap.size ≤ gb156)); have n6_ := Aside0.mk ((by rw [hg]; exact (below_size (by repeat (first | (with_reducible first | exact HB.out | apply below_alloc | apply pw_below_drewN | apply below_drew1 | refine below_set ?_ GE141.out) | exact HB.out))) : w.heap.size ≤ gb156)); have n7_ := Aside0.mk ((by rw [hg]; exact Nat.ne_of_lt (blk_lt (g := gb141) (o := .cells #[.slice none 0 0] 26 (0, 0)) (by first | exact Grow.bk BK141.out | exact BK141.out)) : gb141 ≠ gb156)); have n8_ := Aside0.mk ((by rw [hg]; exact Nat.ne_of_gt (blk_lt (g := gb141) (o := .cells #[.slice none 0 0] 26 (0, 0)) (by first | exact Grow.bk BK141.out | exact BK141.out)) : gb156 ≠ gb141)); clear HO_5; clear HO_7; clear BK141; clear HB; have HO_5 := n0_; have HO_7 := n1_; have BK141 := n2_; have HB := n3_; have BK156 := n4_; have GW156 := n5_; have GE156 := n6_; have NB141_156 := n7_; have NB156_141 := n8_; clear n0_ n1_ n2_ n3_ n4_ n5_ n6_ n7_ n8_; clear hb hbox hg; have hnb44 := NB156_141.out; have hnc44 := NB141_156.out; have hcz45_0 : w43.cell? ⟨gb156, 0, none⟩ = some (.string (⟨#[]⟩ : ByteArray)) := (blk_cell BK156.out 0).trans rfl; have hcz45_1 : w43.cell? ⟨gb156, 1, none⟩ = some (.int .i64 0) := (blk_cell BK156.out 1).trans rfl; have hcz45_2 : w43.cell? ⟨gb156, 2, none⟩ = some (.bool false) := (blk_cell BK156.out 2).trans rfl; have hcz45_3 : w43.cell? ⟨gb156, 3, none⟩ = some (.string (⟨#[]⟩ : ByteArray)) := (blk_cell BK156.out 3).trans rfl; have hfz45_0 := blk_frozen BK156.out 0; have hfz45_1 := blk_frozen BK156.out 1; have hfz45_2 := blk_frozen BK156.out 2; have hfz45_3 := blk_frozen BK156.out 3) | ((with_reducible refine gate_builtin (b := .append) (xs := #[.tmp 70, .tmp 72]) rfl ?_); at_builtin; refine Kd.R_append k43 (w0 := w) w.heap.size rfl (.tmp 70) (.tmp 72) 24 43 (.agg #[(.string ⟨#[]⟩), (.int .i64 0), (.bool false), (.string ⟨#[]⟩)]) 48 rfl Try.underlying24 info43 rfl (by decide) (by omega) u7 x7_2 (⟨(rd_T43 t149 x8_2).f0, (rd_T43 t149 x8_2).f1, (rd_T43 t149 x8_2).f2, (rd_T43 t149 x8_2).f3⟩ : S43) [.string ((rd_T43 t149 x8_2).f0), .int .i64 ((rd_T43 t149 x8_2).f1), .bool ((rd_T43 t149 x8_2).f2), .string ((rd_T43 t149 x8_2).f3)] (fun k_ => some k_ ≠ (.slice (some ad155) t149.length co42 : Value).ownBlock ∧ k_ ≠ gb156) (fun _ => False) rfl (by first | (go_simp; done) | (go_simp; rfl)) ?aP (fun _ hk => hk.elim) ?aF ?aO ?aB ?aS ?aL ?_; (case aP => exact k43_mkM _ _ _ (⟨(rd_T43 t149 x8_2).f0, (rd_T43 t149 x8_2).f1, (rd_T43 t149 x8_2).f2, (rd_T43 t149 x8_2).f3⟩ : S43)); (case aB => exact (by repeat (first | (with_reducible first | exact HB.out | apply below_alloc | apply pw_below_drewN | apply below_drew1 | refine below_set ?_ GE141.out | refine below_set ?_ GE156.out) | exact HB.out))); (case aF => exact (fun k_ hk => ⟨Kd.fresh' (Kd.R_lt (by (with_reducible repeat (first | apply Kd.R_alloc | apply Kd.R_drewN | apply Kd.R_drew)); exact (Kd.R_mono (Kd.R_far (p := ⟨gb156, 3, none⟩) (Kd.R_far (p := ⟨gb156, 2, none⟩) (Kd.R_far (p := ⟨gb156, 1, none⟩) (Kd.R_far (p := ⟨gb156, 0, none⟩) (Kd.R_mono HO_5.out (fun k_ hk => (⟨hk, hk.2⟩ : _ ∧ k_ ≠ gb156))) (fun _ hk => hk.2) (.string ((rd_T43 t149 x8_2).f0))) (fun _ hk => hk.2) (.int .i64 ((rd_T43 t149 x8_2).f1))) (fun _ hk => hk.2) (.bool ((rd_T43 t149 x8_2).f2))) (fun _ hk => hk.2) (.string ((rd_T43 t149 x8_2).f3))) (fun _ h_ => h_.1)))) k_ hk, Kd.freshB (g := gb156) (o := .cells #[.string ((rd_T43 t149 x8_2).f0), .int .i64 ((rd_T43 t149 x8_2).f1), .bool ((rd_T43 t149 x8_2).f2), .string ((rd_T43 t149 x8_2).f3)] 43 (0, 0)) (by (with_reducible repeat (first | refine blk_drewN ?_ _ | refine blk_drew ?_ | refine blk_alloc ?_ _)); refine blk_put (cs := #[.string ((rd_T43 t149 x8_2).f0), .int .i64 ((rd_T43 t149 x8_2).f1), .bool ((rd_T43 t149 x8_2).f2), .string (⟨#[]⟩ : ByteArray)]) ?_ 3 _ rfl; (with_reducible repeat (first | refine blk_drewN ?_ _ | refine blk_drew ?_ | refine blk_alloc ?_ _)); refine blk_put (cs := #[.string ((rd_T43 t149 x8_2).f0), .int .i64 ((rd_T43 t149 x8_2).f1), .bool false, .string (⟨#[]⟩ : ByteArray)]) ?_ 2 _ rfl; (with_reducible repeat (first | refine blk_drewN ?_ _ | refine blk_drew ?_ | refine blk_alloc ?_ _)); refine blk_put (cs := #[.string ((rd_T43 t149 x8_2).f0), .int .i64 0, .bool false, .string (⟨#[]⟩ : ByteArray)]) ?_ 1 _ rfl; (with_reducible repeat (first | refine blk_drewN ?_ _ | refine blk_drew ?_ | refine blk_alloc ?_ _)); refine blk_put (cs := #[.string (⟨#[]⟩ : ByteArray), .int .i64 0, .bool false, .string (⟨#[]⟩ : ByteArray)]) ?_ 0 _ rfl; (with_reducible repeat (first | refine blk_drewN ?_ _ | refine blk_drew ?_ | refine blk_alloc ?_ _)); exact BK156.out) k_ hk⟩)); (case aO => exact (by (with_reducible repeat (first | apply Kd.R_alloc | apply Kd.R_drewN | apply Kd.R_drew)); exact Kd.R_mono (Kd.R_far (p := ⟨gb156, 3, none⟩) (Kd.R_far (p := ⟨gb156, 2, none⟩) (Kd.R_far (p := ⟨gb156, 1, none⟩) (Kd.R_far (p := ⟨gb156, 0, none⟩) (Kd.R_mono HO_7.out (fun k_ hk => (⟨hk, hk.2⟩ : _ ∧ k_ ≠ gb156))) (fun _ hk => hk.2) (.string ((rd_T43 t149 x8_2).f0))) (fun _ hk => hk.2) (.int .i64 ((rd_T43 t149 x8_2).f1))) (fun _ hk => hk.2) (.bool ((rd_T43 t149 x8_2).f2))) (fun _ hk => hk.2) (.string ((rd_T43 t149 x8_2).f3))) (fun _ hk => ⟨hk.1.1, hk.1.2⟩))); (case aS => exact (below_size (by repeat (first | (with_reducible first | exact HB.out | apply below_alloc | apply pw_below_drewN | apply below_drew1 | refine below_set ?_ GE141.out | refine below_set ?_ GE156.out) | exact HB.out)))); (case aL => have := LMc41.out; omega); intro v163 w46 ho hb hg hat; rw [← Ny162.out] at ho; have n0_ := Aside0.mk (Kd.R_after (ok := (fun k_ => k_ ≠ gb156)) (by (with_reducible repeat (first | apply Kd.R_alloc | apply Kd.R_drewN | apply Kd.R_drew)); exact Kd.R_mono (Kd.R_far (p := ⟨gb156, 3, none⟩) (Kd.R_far (p := ⟨gb156, 2, none⟩) (Kd.R_far (p := ⟨gb156, 1, none⟩) (Kd.R_far (p := ⟨gb156, 0, none⟩) (Kd.R_mono HO_5.out (fun k_ hk => (⟨hk, hk.2⟩ : _ ∧ k_ ≠ gb156))) (fun _ hk => hk.2) (.string ((rd_T43 t149 x8_2).f0))) (fun _ hk => hk.2) (.int .i64 ((rd_T43 t149 x8_2).f1))) (fun _ hk => hk.2) (.bool ((rd_T43 t149 x8_2).f2))) (fun _ hk => hk.2) (.string ((rd_T43 t149 x8_2).f3))) (fun _ hk => ⟨hk.1.2, hk.1.1⟩)) hg hat); have n1_ := Aside0.mk (blk_grown (g := gb141) (o := .cells #[.slice none 0 0] 26 (0, 0)) (by (with_reducible repeat (first | refine blk_drewN ?_ _ | refine blk_drew ?_ | refine blk_alloc ?_ _)); refine blk_far ?_ NB141_156.out _; (with_reducible repeat (first | refine blk_drewN ?_ _ | refine blk_drew ?_ | refine blk_alloc ?_ _)); refine blk_far ?_ NB141_156.out _; (with_reducible repeat (first | refine blk_drewN ?_ _ | refine blk_drew ?_ | refine blk_alloc ?_ _)); refine blk_far ?_ NB141_156.out _; (with_reducible repeat (first | refine blk_drewN ?_ _ | refine blk_drew ?_ | refine blk_alloc ?_ _)); refine blk_far ?_ NB141_156.out _; (with_reducible repeat (first | refine blk_drewN ?_ _ | refine blk_drew ?_ | refine blk_alloc ?_ _)); exact BK141.out) hg (by first | exact Kd.R_ne HO_7.out BK141.out (by decide) | exact fun e_ => (HO_7.out.1 gb141 e_.symm).2 rfl)); have n2_ := Aside0.mk (blk_grown (g := gb156) (o := .cells #[.string ((rd_T43 t149 x8_2).f0), .int .i64 ((rd_T43 t149 x8_2).f1), .bool ((rd_T43 t149 x8_2).f2), .string ((rd_T43 t149 x8_2).f3)] 43 (0, 0)) (by (with_reducible repeat (first | refine blk_drewN ?_ _ | refine blk_drew ?_ | refine blk_alloc ?_ _)); refine blk_put (cs := #[.string ((rd_T43 t149 x8_2).f0), .int .i64 ((rd_T43 t149 x8_2).f1), .bool ((rd_T43 t149 x8_2).f2), .string (⟨#[]⟩ : ByteArray)]) ?_ 3 _ rfl; (with_reducible repeat (first | refine blk_drewN ?_ _ | refine blk_drew ?_ | refine blk_alloc ?_ _)); refine blk_put (cs := #[.string ((rd_T43 t149 x8_2).f0), .int .i64 ((rd_T43 t149 x8_2).f1), .bool false, .string (⟨#[]⟩ : ByteArray)]) ?_ 2 _ rfl; (with_reducible repeat (first | refine blk_drewN ?_ _ | refine blk_drew ?_ | refine blk_alloc ?_ _)); refine blk_put (cs := #[.string ((rd_T43 t149 x8_2).f0), .int .i64 0, .bool false, .string (⟨#[]⟩ : ByteArray)]) ?_ 1 _ rfl; (with_reducible repeat (first | refine blk_drewN ?_ _ | refine blk_drew ?_ | refine blk_alloc ?_ _)); refine blk_put (cs := #[.string (⟨#[]⟩ : ByteArray), .int .i64 0, .bool false, .string (⟨#[]⟩ : ByteArray)]) ?_ 0 _ rfl; (with_reducible repeat (first | refine blk_drewN ?_ _ | refine blk_drew ?_ | refine blk_alloc ?_ _)); exact BK156.out) hg (Kd.R_away HO_7.out (fun _ hk => hk.2))); have n3_ := Aside0.mk (hb); have n4_ := Aside0.mk (ho); clear HO_5; clear BK141; clear BK156; clear HB; clear HO_7; have HO_5 := n0_; have BK141 := n1_; have BK156 := n2_; have HB := n3_; have HO164 := n4_; clear n0_ n1_ n2_ n3_ n4_; clear ho hb hg hat)))
      go_roundg k2
      case measure => have := HK1.out; have := HK2.out; omega
      case rel => exact ⟨(y162), (wrap64 (x8_2 + 1)), (by first | rfl | (simp; done) | (simp [*]; done)), H', ⟨by have := HK1.out; have := HK2.out; omega⟩, ⟨by (with_reducible repeat (first | apply Kd.R_alloc | apply Kd.R_drewN | apply Kd.R_drew)); exact Kd.R_mono HO_5.out (fun _ hk => hk.2)⟩, ⟨by (with_reducible repeat (first | apply Kd.R_alloc | apply Kd.R_drewN | apply Kd.R_drew)); exact Kd.R_mono HO164.out (fun _ hk => hk.1)⟩, ⟨by first | exact Grow.bk BK141.out | exact BK141.out⟩, ⟨by repeat (first | (with_reducible first | exact HB.out | apply below_alloc | apply pw_below_drewN | apply below_drew1 | refine below_set ?_ GE141.out | refine below_set ?_ GE156.out) | exact HB.out)⟩⟩
     rw [if_pos c17] at H
     have c17b0 : decide (((rd_T43 t149 x8_2).f1) ≤ a1) = true := decide_eq_true c17
     clear c17
     have HC18 := Aside0.mk H
     clear H
     obtain ⟨Ao19, co19, eo19⟩ := Kd.R_slice HO_5.out
     subst eo19
     have p155 : 0 ≤ (x8_2 : Int) := of_decide_eq_true (by first | (with_reducible assumption) | assumption)
     have q155 : x8_2 < (t149.length : Int) := of_decide_eq_true (by first | (with_reducible assumption) | assumption)
     obtain ⟨ad155, e155, hx155_0, hx155_1, hx155_2, hx155_3⟩ := at_T43 (Kd.R_reads' HO_5.out).2.2 x8_2 p155 q155
     cases e155
     replace p155 := eq_true p155
     replace q155 := eq_true q155
     go_upto_region 13 with (first | ((with_reducible refine gate_dst (N := 9) rfl ?_); refine box_event ?hg (N := 9) ?hd (cs := #[.string (⟨#[]⟩ : ByteArray), .int .i64 0, .bool false, .string (⟨#[]⟩ : ByteArray)]) (t := 43) ?hr ?_; (case hd => rfl); (case hg => rfl); (case hr => first | (go_simp; done) | (go_simp; rfl)); intro gb156 hg w20 hbox hb; have n0_ := Aside0.mk (Kd.R_below (Kd.R_elderB (by first | exact Grow.rg HO_5.out | exact HO_5.out) gb156 (Nat.le_of_eq hg.symm)) hb); have n1_ := Aside0.mk (Kd.R_below (Kd.R_elderB (by first | exact Grow.rg HO_7.out | exact HO_7.out) gb156 (Nat.le_of_eq hg.symm)) hb); have n2_ := Aside0.mk (blk_below (g := gb141) (o := .cells #[.slice none 0 0] 26 (0, 0)) (by first | exact Grow.bk BK141.out | exact BK141.out) hb); have n3_ := Aside0.mk (below_step (by repeat (first | (with_reducible first | exact HB.out | apply below_alloc | apply pw_below_drewN | apply below_drew1 | refine below_set ?_ GE141.out) | exact HB.out)) hb); have n4_ := Aside0.mk (hbox); have n5_ := Aside0.mk ((by rw [hg]; exact (below_size (by repeat (first | (with_reducible first | exact HB.out | apply below_alloc | apply pw_below_drewN | apply below_drew1 | refine below_set ?_ GE141.out) | exact HB.out))) : w.heap.size ≤ gb156)); have n6_ := Aside0.mk ((by rw [hg]; exact (below_size (by repeat (first | (with_reducible first | exact HB.out | apply below_alloc | apply pw_below_drewN | apply below_drew1 | refine below_set ?_ GE141.out) | exact HB.out))) : w.heap.size ≤ gb156)); have n7_ := Aside0.mk ((by rw [hg]; exact Nat.ne_of_lt (blk_lt (g := gb141) (o := .cells #[.slice none 0 0] 26 (0, 0)) (by first | exact Grow.bk BK141.out | exact BK141.out)) : gb141 ≠ gb156)); have n8_ := Aside0.mk ((by rw [hg]; exact Nat.ne_of_gt (blk_lt (g := gb141) (o := .cells #[.slice none 0 0] 26 (0, 0)) (by first | exact Grow.bk BK141.out | exact BK141.out)) : gb156 ≠ gb141)); clear HO_5; clear HO_7; clear BK141; clear HB; have HO_5 := n0_; have HO_7 := n1_; have BK141 := n2_; have HB := n3_; have BK156 := n4_; have GW156 := n5_; have GE156 := n6_; have NB141_156 := n7_; have NB156_141 := n8_; clear n0_ n1_ n2_ n3_ n4_ n5_ n6_ n7_ n8_; clear hb hbox hg; have hnb21 := NB156_141.out; have hnc21 := NB141_156.out; have hcz22_0 : w20.cell? ⟨gb156, 0, none⟩ = some (.string (⟨#[]⟩ : ByteArray)) := (blk_cell BK156.out 0).trans rfl; have hcz22_1 : w20.cell? ⟨gb156, 1, none⟩ = some (.int .i64 0) := (blk_cell BK156.out 1).trans rfl; have hcz22_2 : w20.cell? ⟨gb156, 2, none⟩ = some (.bool false) := (blk_cell BK156.out 2).trans rfl; have hcz22_3 : w20.cell? ⟨gb156, 3, none⟩ = some (.string (⟨#[]⟩ : ByteArray)) := (blk_cell BK156.out 3).trans rfl; have hfz22_0 := blk_frozen BK156.out 0; have hfz22_1 := blk_frozen BK156.out 1; have hfz22_2 := blk_frozen BK156.out 2; have hfz22_3 := blk_frozen BK156.out 3))
     repeat (go_quiet (first | ((with_reducible refine gate_dst (N := 9) rfl ?_); refine box_event ?hg (N := 9) ?hd (cs := #[.string (⟨#[]⟩ : ByteArray), .int .i64 0, .bool false, .string (⟨#[]⟩ : ByteArray)]) (t := 43) ?hr ?_; (case hd => rfl); (case hg => rfl); (case hr => first | (go_simp; done) | (go_simp; rfl)); intro gb156 hg w20 hbox hb; have n0_ := Aside0.mk (Kd.R_below (Kd.R_elderB (by first | exact Grow.rg HO_5.out | exact HO_5.out) gb156 (Nat.le_of_eq hg.symm)) hb); have n1_ := Aside0.mk (Kd.R_below (Kd.R_elderB (by first | exact Grow.rg HO_7.out | exact HO_7.out) gb156 (Nat.le_of_eq hg.symm)) hb); have n2_ := Aside0.mk (blk_below (g := gb141) (o := .cells #[.slice none 0 0] 26 (0, 0)) (by first | exact Grow.bk BK141.out | exact BK141.out) hb); have n3_ := Aside0.mk (below_step (by repeat (first | (with_reducible first | exact HB.out | apply below_alloc | apply pw_below_drewN | apply below_drew1 | refine below_set ?_ GE141.out) | exact HB.out)) hb); have n4_ := Aside0.mk (hbox); have n5_ := Aside0.mk ((by rw [hg]; exact (below_size (by repeat (first | (with_reducible first | exact HB.out | apply below_alloc | apply pw_below_drewN | apply below_drew1 | refine below_set ?_ GE141.out) | exact HB.out))) : w.heap.size ≤ gb156)); have n6_ := Aside0.mk ((by rw [hg]; exact (below_size (by repeat (first | (with_reducible first | exact HB.out | apply below_alloc | apply pw_below_drewN | apply below_drew1 | refine below_set ?_ GE141.out) | exact HB.out))) : w.heap.size ≤ gb156)); have n7_ := Aside0.mk ((by rw [hg]; exact Nat.ne_of_lt (blk_lt (g := gb141) (o := .cells #[.slice none 0 0] 26 (0, 0)) (by first | exact Grow.bk BK141.out | exact BK141.out)) : gb141 ≠ gb156)); have n8_ := Aside0.mk ((by rw [hg]; exact Nat.ne_of_gt (blk_lt (g := gb141) (o := .cells #[.slice none 0 0] 26 (0, 0)) (by first | exact Grow.bk BK141.out | exact BK141.out)) : gb156 ≠ gb141)); clear HO_5; clear HO_7; clear BK141; clear HB; have HO_5 := n0_; have HO_7 := n1_; have BK141 := n2_; have HB := n3_; have BK156 := n4_; have GW156 := n5_; have GE156 := n6_; have NB141_156 := n7_; have NB156_141 := n8_; clear n0_ n1_ n2_ n3_ n4_ n5_ n6_ n7_ n8_; clear hb hbox hg; have hnb21 := NB156_141.out; have hnc21 := NB141_156.out; have hcz22_0 : w20.cell? ⟨gb156, 0, none⟩ = some (.string (⟨#[]⟩ : ByteArray)) := (blk_cell BK156.out 0).trans rfl; have hcz22_1 : w20.cell? ⟨gb156, 1, none⟩ = some (.int .i64 0) := (blk_cell BK156.out 1).trans rfl; have hcz22_2 : w20.cell? ⟨gb156, 2, none⟩ = some (.bool false) := (blk_cell BK156.out 2).trans rfl; have hcz22_3 : w20.cell? ⟨gb156, 3, none⟩ = some (.string (⟨#[]⟩ : ByteArray)) := (blk_cell BK156.out 3).trans rfl; have hfz22_0 := blk_frozen BK156.out 0; have hfz22_1 := blk_frozen BK156.out 1; have hfz22_2 := blk_frozen BK156.out 2; have hfz22_3 := blk_frozen BK156.out 3)); go_upto_region 13 with (first | ((with_reducible refine gate_dst (N := 9) rfl ?_); refine box_event ?hg (N := 9) ?hd (cs := #[.string (⟨#[]⟩ : ByteArray), .int .i64 0, .bool false, .string (⟨#[]⟩ : ByteArray)]) (t := 43) ?hr ?_; (case hd => rfl); (case hg => rfl); (case hr => first | (go_simp; done) | (go_simp; rfl)); intro gb156 hg w20 hbox hb; have n0_ := Aside0.mk (Kd.R_below (Kd.R_elderB (by first | exact Grow.rg HO_5.out | exact HO_5.out) gb156 (Nat.le_of_eq hg.symm)) hb); have n1_ := Aside0.mk (Kd.R_below (Kd.R_elderB (by first | exact Grow.rg HO_7.out | exact HO_7.out) gb156 (Nat.le_of_eq hg.symm)) hb); have n2_ := Aside0.mk (blk_below (g := gb141) (o := .cells #[.slice none 0 0] 26 (0, 0)) (by first | exact Grow.bk BK141.out | exact BK141.out) hb); have n3_ := Aside0.mk (below_step (by repeat (first | (with_reducible first | exact HB.out | apply below_alloc | apply pw_below_drewN | apply below_drew1 | refine below_set ?_ GE141.out) | exact HB.out)) hb); have n4_ := Aside0.mk (hbox); have n5_ := Aside0.mk ((by rw [hg]; exact (below_size (by repeat (first | (with_reducible first | exact HB.out | apply below_alloc | apply pw_below_drewN | apply below_drew1 | refine below_set ?_ GE141.out) | exact HB.out))) : w.heap.size ≤ gb156)); have n6_ := Aside0.mk ((by rw [hg]; exact (below_size (by repeat (first | (with_reducible first | exact HB.out | apply below_alloc | apply pw_below_drewN | apply below_drew1 | refine below_set ?_ GE141.out) | exact HB.out))) : w.heap.size ≤ gb156)); have n7_ := Aside0.mk ((by rw [hg]; exact Nat.ne_of_lt (blk_lt (g := gb141) (o := .cells #[.slice none 0 0] 26 (0, 0)) (by first | exact Grow.bk BK141.out | exact BK141.out)) : gb141 ≠ gb156)); have n8_ := Aside0.mk ((by rw [hg]; exact Nat.ne_of_gt (blk_lt (g := gb141) (o := .cells #[.slice none 0 0] 26 (0, 0)) (by first | exact Grow.bk BK141.out | exact BK141.out)) : gb156 ≠ gb141)); clear HO_5; clear HO_7; clear BK141; clear HB; have HO_5 := n0_; have HO_7 := n1_; have BK141 := n2_; have HB := n3_; have BK156 := n4_; have GW156 := n5_; have GE156 := n6_; have NB141_156 := n7_; have NB156_141 := n8_; clear n0_ n1_ n2_ n3_ n4_ n5_ n6_ n7_ n8_; clear hb hbox hg; have hnb21 := NB156_141.out; have hnc21 := NB141_156.out; have hcz22_0 : w20.cell? ⟨gb156, 0, none⟩ = some (.string (⟨#[]⟩ : ByteArray)) := (blk_cell BK156.out 0).trans rfl; have hcz22_1 : w20.cell? ⟨gb156, 1, none⟩ = some (.int .i64 0) := (blk_cell BK156.out 1).trans rfl; have hcz22_2 : w20.cell? ⟨gb156, 2, none⟩ = some (.bool false) := (blk_cell BK156.out 2).trans rfl; have hcz22_3 : w20.cell? ⟨gb156, 3, none⟩ = some (.string (⟨#[]⟩ : ByteArray)) := (blk_cell BK156.out 3).trans rfl; have hfz22_0 := blk_frozen BK156.out 0; have hfz22_1 := blk_frozen BK156.out 1; have hfz22_2 := blk_frozen BK156.out 2; have hfz22_3 := blk_frozen BK156.out 3)))
     (try simp only [Act.put, List.setIfInBounds_toArray, List.set_cons_zero, List.set_cons_succ])
     go_cut [10] (fun v10 wc => ∃ (kq : Nat) (x10_17 : Bool), v10 = .bool x10_17 ∧ Aside0 (spec_l08Merge.j2 kq a1 t149 x7_2 x8_2 x10_17 ((rd_T43 t149 x8_2).f0) ((rd_T43 t149 x8_2).f1) ((rd_T43 t149 x8_2).f2) ((rd_T43 t149 x8_2).f3) = some r) ∧ Aside0 (kq ≤ k2) ∧ Aside0 (Kd.R k43 43 wc w.heap.size (fun k_ => some k_ ≠ (u7 : Value).ownBlock ∧ k_ ≠ gb156) (.slice (some ad155) t149.length co19) t149) ∧ Aside0 (Kd.R k43 43 wc w.heap.size (fun k_ => some k_ ≠ ((.slice (some ad155) t149.length co19) : Value).ownBlock ∧ k_ ≠ gb156) u7 x7_2) ∧ Aside0 (wc.heap[gb141]? = some (.cells #[(.slice none 0 0)] 26 (0, 0))) ∧ Aside0 (wc.heap[gb156]? = some (.cells #[.string ((rd_T43 t149 x8_2).f0), .int .i64 ((rd_T43 t149 x8_2).f1), .bool ((rd_T43 t149 x8_2).f2), .string ((rd_T43 t149 x8_2).f3)] 43 (0, 0))) ∧ Aside0 (Below w.heap.size w wc))
     case first =>
      have H := HC18.out
      clear HC18
      by_cases c23 : x8_2 > 0
      rotate_left
      ·
       rw [if_neg c23] at H
       have c23b0 : decide (0 < x8_2) = false := decide_eq_false c23
       clear c23
       (first | rw [c23b0] | (simp only [i64_w, i32_w]; rw [c23b0]) | skip)
       have H' := Aside0.mk H
       clear H
       go_wp2
       repeat (go_quiet (fail); try go_wp2)
       go_meet
       case rel => exact ⟨_, (false), (by first | rfl | (simp; done) | (simp [*]; done)), H', ⟨by have := HK1.out; have := HK2.out; first | omega | exact Nat.le_refl _⟩, ⟨by (with_reducible repeat (first | apply Kd.R_alloc | apply Kd.R_drewN | apply Kd.R_drew)); exact Kd.R_mono (Kd.R_far (p := ⟨gb156, 3, none⟩) (Kd.R_far (p := ⟨gb156, 2, none⟩) (Kd.R_far (p := ⟨gb156, 1, none⟩) (Kd.R_far (p := ⟨gb156, 0, none⟩) (Kd.R_mono HO_5.out (fun k_ hk => (⟨hk, hk.2⟩ : _ ∧ k_ ≠ gb156))) (fun _ hk => hk.2) (.string ((rd_T43 t149 x8_2).f0))) (fun _ hk => hk.2) (.int .i64 ((rd_T43 t149 x8_2).f1))) (fun _ hk => hk.2) (.bool ((rd_T43 t149 x8_2).f2))) (fun _ hk => hk.2) (.string ((rd_T43 t149 x8_2).f3))) (fun _ hk => ⟨hk.1.1, hk.1.2⟩)⟩, ⟨by (with_reducible repeat (first | apply Kd.R_alloc | apply Kd.R_drewN | apply Kd.R_drew)); exact Kd.R_mono (Kd.R_far (p := ⟨gb156, 3, none⟩) (Kd.R_far (p := ⟨gb156, 2, none⟩) (Kd.R_far (p := ⟨gb156, 1, none⟩) (Kd.R_far (p := ⟨gb156, 0, none⟩) (Kd.R_mono HO_7.out (fun k_ hk => (⟨hk, hk.2⟩ : _ ∧ k_ ≠ gb156))) (fun _ hk => hk.2) (.string ((rd_T43 t149 x8_2).f0))) (fun _ hk => hk.2) (.int .i64 ((rd_T43 t149 x8_2).f1))) (fun _ hk => hk.2) (.bool ((rd_T43 t149 x8_2).f2))) (fun _ hk => hk.2) (.string ((rd_T43 t149 x8_2).f3))) (fun _ hk => ⟨hk.1.1, hk.1.2⟩)⟩, ⟨by (with_reducible repeat (first | refine blk_drewN ?_ _ | refine blk_drew ?_ | refine blk_alloc ?_ _)); refine blk_far ?_ NB141_156.out _; (with_reducible repeat (first | refine blk_drewN ?_ _ | refine blk_drew ?_ | refine blk_alloc ?_ _)); refine blk_far ?_ NB141_156.out _; (with_reducible repeat (first | refine blk_drewN ?_ _ | refine blk_drew ?_ | refine blk_alloc ?_ _)); refine blk_far ?_ NB141_156.out _; (with_reducible repeat (first | refine blk_drewN ?_ _ | refine blk_drew ?_ | refine blk_alloc ?_ _)); refine blk_far ?_ NB141_156.out _; (with_reducible repeat (first | refine blk_drewN ?_ _ | refine blk_drew ?_ | refine blk_alloc ?_ _)); exact BK141.out⟩, ⟨by (with_reducible repeat (first | refine blk_drewN ?_ _ | refine blk_drew ?_ | refine blk_alloc ?_ _)); refine blk_put (cs := #[.string ((rd_T43 t149 x8_2).f0), .int .i64 ((rd_T43 t149 x8_2).f1), .bool ((rd_T43 t149 x8_2).f2), .string (⟨#[]⟩ : ByteArray)]) ?_ 3 _ rfl; (with_reducible repeat (first | refine blk_drewN ?_ _ | refine blk_drew ?_ | refine blk_alloc ?_ _)); refine blk_put (cs := #[.string ((rd_T43 t149 x8_2).f0), .int .i64 ((rd_T43 t149 x8_2).f1), .bool false, .string (⟨#[]⟩ : ByteArray)]) ?_ 2 _ rfl; (with_reducible repeat (first | refine blk_drewN ?_ _ | refine blk_drew ?_ | refine blk_alloc ?_ _)); refine blk_put (cs := #[.string ((rd_T43 t149 x8_2).f0), .int .i64 0, .bool false, .string (⟨#[]⟩ : ByteArray)]) ?_ 1 _ rfl; (with_reducible repeat (first | refine blk_drewN ?_ _ | refine blk_drew ?_ | refine blk_alloc ?_ _)); refine blk_put (cs := #[.string (⟨#[]⟩ : ByteArray), .int .i64 0, .bool false, .string (⟨#[]⟩ : ByteArray)]) ?_ 0 _ rfl; (with_reducible repeat (first | refine blk_drewN ?_ _ | refine blk_drew ?_ | refine blk_alloc ?_ _)); exact BK156.out⟩, ⟨by repeat (first | (with_reducible first | exact HB.out | apply below_alloc | apply pw_below_drewN | apply below_drew1 | refine below_set ?_ GE141.out | refine below_set ?_ GE156.out) | exact HB.out)⟩⟩
      rw [if_pos c23] at H
      have c23b0 : decide (0 < x8_2) = true := decide_eq_true c23
      clear c23
      (first | rw [c23b0] | (simp only [i64_w, i32_w]; rw [c23b0]) | skip)
      obtain ⟨ji24, hji24⟩ : ∃ j_ : Int, (wrap64 (x8_2 - 1)) = j_ := ⟨_, rfl⟩
      replace H : (if 0 ≤ (ji24) then (if (ji24) < (t149.length : Int) then (if ((rd_T43 t149 (ji24)).f0).toList = ((rd_T43 t149 x8_2).f0).toList then (spec_l08Merge.j2 k2 a1 t149 x7_2 x8_2 (decide (((rd_T43 t149 (ji24)).f1) ≤ a1)) ((rd_T43 t149 x8_2).f0) ((rd_T43 t149 x8_2).f1) ((rd_T43 t149 x8_2).f2) ((rd_T43 t149 x8_2).f3)) else (spec_l08Merge.j2 k2 a1 t149 x7_2 x8_2 false ((rd_T43 t149 x8_2).f0) ((rd_T43 t149 x8_2).f1) ((rd_T43 t149 x8_2).f2) ((rd_T43 t149 x8_2).f3))) else (none)) else (none)) = some r := by first | (rw [hji24] at H; exact H) | (simp only [hji24] at H ⊢; exact H)
      have hji24w : (IntKind.i64.wrap (x8_2 - 1)) = ji24 := (i64_w _).trans hji24
      by_cases c25 : 0 ≤ (ji24)
      rotate_left
      ·
       rw [if_neg c25] at H
       exact absurd H (by simp)
      rw [if_pos c25] at H
      have c25b0 : decide (0 ≤ (ji24)) = true := decide_eq_true c25
      clear c25
      by_cases c26 : (ji24) < (t149.length : Int)
      rotate_left
      ·
       rw [if_neg c26] at H
       exact absurd H (by simp)
      rw [if_pos c26] at H
      have c26b0 : decide ((ji24) < (t149.length : Int)) = true := decide_eq_true c26
      clear c26
      by_cases c27 : ((rd_T43 t149 (ji24)).f0).toList = ((rd_T43 t149 x8_2).f0).toList
      rotate_left
      ·
       rw [if_neg c27] at H
       have c27b0 : (((rd_T43 t149 (ji24)).f0).toList == ((rd_T43 t149 x8_2).f0).toList) = false := beq_eq_false_iff_ne.mpr c27
       have c27b1 : (((rd_T43 t149 (ji24)).f0).toList != ((rd_T43 t149 x8_2).f0).toList) = true := bne_iff_ne.mpr c27
       have H' := Aside0.mk H
       clear H
       have p157 : 0 ≤ ((ji24) : Int) := of_decide_eq_true (by first | (with_reducible assumption) | assumption)
       have q157 : (ji24) < (t149.length : Int) := of_decide_eq_true (by first | (with_reducible assumption) | assumption)
       obtain ⟨ad157, e157, hx157_0, hx157_1, hx157_2, hx157_3⟩ := at_T43 (Kd.R_reads' HO_5.out).2.2 (ji24) p157 q157
       obtain rfl : ad155 = ad157 := (by injection e157)
       have hn157_0 : ad155.block ≠ gb156 := Kd.own_blk (by first | exact Kd.R_ne HO_5.out BK156.out (by decide) | exact fun e_ => (HO_5.out.1 gb156 e_.symm).2 rfl)
       have hn157_1 : ad155.block ≠ gb156 := Kd.own_blk (by first | exact Kd.R_ne HO_5.out BK156.out (by decide) | exact fun e_ => (HO_5.out.1 gb156 e_.symm).2 rfl)
       have hn157_2 : ad155.block ≠ gb156 := Kd.own_blk (by first | exact Kd.R_ne HO_5.out BK156.out (by decide) | exact fun e_ => (HO_5.out.1 gb156 e_.symm).2 rfl)
       have hn157_3 : ad155.block ≠ gb156 := Kd.own_blk (by first | exact Kd.R_ne HO_5.out BK156.out (by decide) | exact fun e_ => (HO_5.out.1 gb156 e_.symm).2 rfl)
       replace hx157_0 := (cell_far (p := ⟨gb156, 0, none⟩) (by first | (rw [add_block]; exact hn157_0) | (show (Addr.add _ _).block ≠ _; rw [add_block]; exact hn157_0) | exact hn157_0) (.string ((rd_T43 t149 x8_2).f0))).trans hx157_0
       replace hx157_1 := (cell_far (p := ⟨gb156, 0, none⟩) (by first | (rw [add_block]; exact hn157_0) | (show (Addr.add _ _).block ≠ _; rw [add_block]; exact hn157_0) | exact hn157_0) (.string ((rd_T43 t149 x8_2).f0))).trans hx157_1
       replace hx157_2 := (cell_far (p := ⟨gb156, 0, none⟩) (by first | (rw [add_block]; exact hn157_0) | (show (Addr.add _ _).block ≠ _; rw [add_block]; exact hn157_0) | exact hn157_0) (.string ((rd_T43 t149 x8_2).f0))).trans hx157_2
       replace hx157_3 := (cell_far (p := ⟨gb156, 0, none⟩) (by first | (rw [add_block]; exact hn157_0) | (show (Addr.add _ _).block ≠ _; rw [add_block]; exact hn157_0) | exact hn157_0) (.string ((rd_T43 t149 x8_2).f0))).trans hx157_3
       replace hx157_0 := (cell_far (p := ⟨gb156, 1, none⟩) (by first | (rw [add_block]; exact hn157_1) | (show (Addr.add _ _).block ≠ _; rw [add_block]; exact hn157_1) | exact hn157_1) (.int .i64 ((rd_T43 t149 x8_2).f1))).trans hx157_0
       replace hx157_1 := (cell_far (p := ⟨gb156, 1, none⟩) (by first | (rw [add_block]; exact hn157_1) | (show (Addr.add _ _).block ≠ _; rw [add_block]; exact hn157_1) | exact hn157_1) (.int .i64 ((rd_T43 t149 x8_2).f1))).trans hx157_1
       replace hx157_2 := (cell_far (p := ⟨gb156, 1, none⟩) (by first | (rw [add_block]; exact hn157_1) | (show (Addr.add _ _).block ≠ _; rw [add_block]; exact hn157_1) | exact hn157_1) (.int .i64 ((rd_T43 t149 x8_2).f1))).trans hx157_2
       replace hx157_3 := (cell_far (p := ⟨gb156, 1, none⟩) (by first | (rw [add_block]; exact hn157_1) | (show (Addr.add _ _).block ≠ _; rw [add_block]; exact hn157_1) | exact hn157_1) (.int .i64 ((rd_T43 t149 x8_2).f1))).trans hx157_3
       replace hx157_0 := (cell_far (p := ⟨gb156, 2, none⟩) (by first | (rw [add_block]; exact hn157_2) | (show (Addr.add _ _).block ≠ _; rw [add_block]; exact hn157_2) | exact hn157_2) (.bool ((rd_T43 t149 x8_2).f2))).trans hx157_0
       replace hx157_1 := (cell_far (p := ⟨gb156, 2, none⟩) (by first | (rw [add_block]; exact hn157_2) | (show (Addr.add _ _).block ≠ _; rw [add_block]; exact hn157_2) | exact hn157_2) (.bool ((rd_T43 t149 x8_2).f2))).trans hx157_1
       replace hx157_2 := (cell_far (p := ⟨gb156, 2, none⟩) (by first | (rw [add_block]; exact hn157_2) | (show (Addr.add _ _).block ≠ _; rw [add_block]; exact hn157_2) | exact hn157_2) (.bool ((rd_T43 t149 x8_2).f2))).trans hx157_2
       replace hx157_3 := (cell_far (p := ⟨gb156, 2, none⟩) (by first | (rw [add_block]; exact hn157_2) | (show (Addr.add _ _).block ≠ _; rw [add_block]; exact hn157_2) | exact hn157_2) (.bool ((rd_T43 t149 x8_2).f2))).trans hx157_3
       replace hx157_0 := (cell_far (p := ⟨gb156, 3, none⟩) (by first | (rw [add_block]; exact hn157_3) | (show (Addr.add _ _).block ≠ _; rw [add_block]; exact hn157_3) | exact hn157_3) (.string ((rd_T43 t149 x8_2).f3))).trans hx157_0
       replace hx157_1 := (cell_far (p := ⟨gb156, 3, none⟩) (by first | (rw [add_block]; exact hn157_3) | (show (Addr.add _ _).block ≠ _; rw [add_block]; exact hn157_3) | exact hn157_3) (.string ((rd_T43 t149 x8_2).f3))).trans hx157_1
       replace hx157_2 := (cell_far (p := ⟨gb156, 3, none⟩) (by first | (rw [add_block]; exact hn157_3) | (show (Addr.add _ _).block ≠ _; rw [add_block]; exact hn157_3) | exact hn157_3) (.string ((rd_T43 t149 x8_2).f3))).trans hx157_2
       replace hx157_3 := (cell_far (p := ⟨gb156, 3, none⟩) (by first | (rw [add_block]; exact hn157_3) | (show (Addr.add _ _).block ≠ _; rw [add_block]; exact hn157_3) | exact hn157_3) (.string ((rd_T43 t149 x8_2).f3))).trans hx157_3
       (try have hy157_0 := fun (n_ : Nat) => (show ((((((w20.drewN n_).setCell ⟨gb156, 0, none⟩ (.string ((rd_T43 t149 x8_2).f0))).setCell ⟨gb156, 1, none⟩ (.int .i64 ((rd_T43 t149 x8_2).f1))).setCell ⟨gb156, 2, none⟩ (.bool ((rd_T43 t149 x8_2).f2))).setCell ⟨gb156, 3, none⟩ (.string ((rd_T43 t149 x8_2).f3)))).cell? _ = some _ from hx157_0))
       (try have hy157_1 := fun (n_ : Nat) => (show ((((((w20.drewN n_).setCell ⟨gb156, 0, none⟩ (.string ((rd_T43 t149 x8_2).f0))).setCell ⟨gb156, 1, none⟩ (.int .i64 ((rd_T43 t149 x8_2).f1))).setCell ⟨gb156, 2, none⟩ (.bool ((rd_T43 t149 x8_2).f2))).setCell ⟨gb156, 3, none⟩ (.string ((rd_T43 t149 x8_2).f3)))).cell? _ = some _ from hx157_1))
       (try have hy157_2 := fun (n_ : Nat) => (show ((((((w20.drewN n_).setCell ⟨gb156, 0, none⟩ (.string ((rd_T43 t149 x8_2).f0))).setCell ⟨gb156, 1, none⟩ (.int .i64 ((rd_T43 t149 x8_2).f1))).setCell ⟨gb156, 2, none⟩ (.bool ((rd_T43 t149 x8_2).f2))).setCell ⟨gb156, 3, none⟩ (.string ((rd_T43 t149 x8_2).f3)))).cell? _ = some _ from hx157_2))
       (try have hy157_3 := fun (n_ : Nat) => (show ((((((w20.drewN n_).setCell ⟨gb156, 0, none⟩ (.string ((rd_T43 t149 x8_2).f0))).setCell ⟨gb156, 1, none⟩ (.int .i64 ((rd_T43 t149 x8_2).f1))).setCell ⟨gb156, 2, none⟩ (.bool ((rd_T43 t149 x8_2).f2))).setCell ⟨gb156, 3, none⟩ (.string ((rd_T43 t149 x8_2).f3)))).cell? _ = some _ from hx157_3))
       clear hn157_0
       clear hn157_1
       clear hn157_2
       clear hn157_3
       replace p157 := eq_true p157
       replace q157 := eq_true q157
       have hnb30 := NB156_141.out
       have hnc30 := NB141_156.out
       have hcz31_0 : w20.cell? ⟨gb156, 0, none⟩ = some (.string (⟨#[]⟩ : ByteArray)) := (blk_cell BK156.out 0).trans rfl
       have hcz31_1 : w20.cell? ⟨gb156, 1, none⟩ = some (.int .i64 0) := (blk_cell BK156.out 1).trans rfl
       have hcz31_2 : w20.cell? ⟨gb156, 2, none⟩ = some (.bool false) := (blk_cell BK156.out 2).trans rfl
       have hcz31_3 : w20.cell? ⟨gb156, 3, none⟩ = some (.string (⟨#[]⟩ : ByteArray)) := (blk_cell BK156.out 3).trans rfl
       have hfz31_0 := blk_frozen BK156.out 0
       have hfz31_1 := blk_frozen BK156.out 1
       have hfz31_2 := blk_frozen BK156.out 2
       have hfz31_3 := blk_frozen BK156.out 3
       go_wp2
       repeat (go_quiet (fail); try go_wp2)
       go_meet
       case rel => exact ⟨_, (false), (by first | rfl | (simp; done) | (simp [*]; done)), H', ⟨by have := HK1.out; have := HK2.out; first | omega | exact Nat.le_refl _⟩, ⟨by (with_reducible repeat (first | apply Kd.R_alloc | apply Kd.R_drewN | apply Kd.R_drew)); exact Kd.R_mono (Kd.R_far (p := ⟨gb156, 3, none⟩) (Kd.R_far (p := ⟨gb156, 2, none⟩) (Kd.R_far (p := ⟨gb156, 1, none⟩) (Kd.R_far (p := ⟨gb156, 0, none⟩) (Kd.R_mono HO_5.out (fun k_ hk => (⟨hk, hk.2⟩ : _ ∧ k_ ≠ gb156))) (fun _ hk => hk.2) (.string ((rd_T43 t149 x8_2).f0))) (fun _ hk => hk.2) (.int .i64 ((rd_T43 t149 x8_2).f1))) (fun _ hk => hk.2) (.bool ((rd_T43 t149 x8_2).f2))) (fun _ hk => hk.2) (.string ((rd_T43 t149 x8_2).f3))) (fun _ hk => ⟨hk.1.1, hk.1.2⟩)⟩, ⟨by (with_reducible repeat (first | apply Kd.R_alloc | apply Kd.R_drewN | apply Kd.R_drew)); exact Kd.R_mono (Kd.R_far (p := ⟨gb156, 3, none⟩) (Kd.R_far (p := ⟨gb156, 2, none⟩) (Kd.R_far (p := ⟨gb156, 1, none⟩) (Kd.R_far (p := ⟨gb156, 0, none⟩) (Kd.R_mono HO_7.out (fun k_ hk => (⟨hk, hk.2⟩ : _ ∧ k_ ≠ gb156))) (fun _ hk => hk.2) (.string ((rd_T43 t149 x8_2).f0))) (fun _ hk => hk.2) (.int .i64 ((rd_T43 t149 x8_2).f1))) (fun _ hk => hk.2) (.bool ((rd_T43 t149 x8_2).f2))) (fun _ hk => hk.2) (.string ((rd_T43 t149 x8_2).f3))) (fun _ hk => ⟨hk.1.1, hk.1.2⟩)⟩, ⟨by (with_reducible repeat (first | refine blk_drewN ?_ _ | refine blk_drew ?_ | refine blk_alloc ?_ _)); refine blk_far ?_ NB141_156.out _; (with_reducible repeat (first | refine blk_drewN ?_ _ | refine blk_drew ?_ | refine blk_alloc ?_ _)); refine blk_far ?_ NB141_156.out _; (with_reducible repeat (first | refine blk_drewN ?_ _ | refine blk_drew ?_ | refine blk_alloc ?_ _)); refine blk_far ?_ NB141_156.out _; (with_reducible repeat (first | refine blk_drewN ?_ _ | refine blk_drew ?_ | refine blk_alloc ?_ _)); refine blk_far ?_ NB141_156.out _; (with_reducible repeat (first | refine blk_drewN ?_ _ | refine blk_drew ?_ | refine blk_alloc ?_ _)); exact BK141.out⟩, ⟨by (with_reducible repeat (first | refine blk_drewN ?_ _ | refine blk_drew ?_ | refine blk_alloc ?_ _)); refine blk_put (cs := #[.string ((rd_T43 t149 x8_2).f0), .int .i64 ((rd_T43 t149 x8_2).f1), .bool ((rd_T43 t149 x8_2).f2), .string (⟨#[]⟩ : ByteArray)]) ?_ 3 _ rfl; (with_reducible repeat (first | refine blk_drewN ?_ _ | refine blk_drew ?_ | refine blk_alloc ?_ _)); refine blk_put (cs := #[.string ((rd_T43 t149 x8_2).f0), .int .i64 ((rd_T43 t149 x8_2).f1), .bool false, .string (⟨#[]⟩ : ByteArray)]) ?_ 2 _ rfl; (with_reducible repeat (first | refine blk_drewN ?_ _ | refine blk_drew ?_ | refine blk_alloc ?_ _)); refine blk_put (cs := #[.string ((rd_T43 t149 x8_2).f0), .int .i64 0, .bool false, .string (⟨#[]⟩ : ByteArray)]) ?_ 1 _ rfl; (with_reducible repeat (first | refine blk_drewN ?_ _ | refine blk_drew ?_ | refine blk_alloc ?_ _)); refine blk_put (cs := #[.string (⟨#[]⟩ : ByteArray), .int .i64 0, .bool false, .string (⟨#[]⟩ : ByteArray)]) ?_ 0 _ rfl; (with_reducible repeat (first | refine blk_drewN ?_ _ | refine blk_drew ?_ | refine blk_alloc ?_ _)); exact BK156.out⟩, ⟨by repeat (first | (with_reducible first | exact HB.out | apply below_alloc | apply pw_below_drewN | apply below_drew1 | refine below_set ?_ GE141.out | refine below_set ?_ GE156.out) | exact HB.out)⟩⟩
      rw [if_pos c27] at H
      have c27b0 : (((rd_T43 t149 (ji24)).f0).toList == ((rd_T43 t149 x8_2).f0).toList) = true := beq_iff_eq.mpr c27
      have c27b1 : (((rd_T43 t149 (ji24)).f0).toList != ((rd_T43 t149 x8_2).f0).toList) = false := bne_eq_false_iff_eq.mpr c27
      clear c27
      have H' := Aside0.mk H
      clear H
      have p157 : 0 ≤ ((ji24) : Int) := of_decide_eq_true (by first | (with_reducible assumption) | assumption)
      have q157 : (ji24) < (t149.length : Int) := of_decide_eq_true (by first | (with_reducible assumption) | assumption)
      obtain ⟨ad157, e157, hx157_0, hx157_1, hx157_2, hx157_3⟩ := at_T43 (Kd.R_reads' HO_5.out).2.2 (ji24) p157 q157
      obtain rfl : ad155 = ad157 := (by injection e157)
      have hn157_0 : ad155.block ≠ gb156 := Kd.own_blk (by first | exact Kd.R_ne HO_5.out BK156.out (by decide) | exact fun e_ => (HO_5.out.1 gb156 e_.symm).2 rfl)
      have hn157_1 : ad155.block ≠ gb156 := Kd.own_blk (by first | exact Kd.R_ne HO_5.out BK156.out (by decide) | exact fun e_ => (HO_5.out.1 gb156 e_.symm).2 rfl)
      have hn157_2 : ad155.block ≠ gb156 := Kd.own_blk (by first | exact Kd.R_ne HO_5.out BK156.out (by decide) | exact fun e_ => (HO_5.out.1 gb156 e_.symm).2 rfl)
      have hn157_3 : ad155.block ≠ gb156 := Kd.own_blk (by first | exact Kd.R_ne HO_5.out BK156.out (by decide) | exact fun e_ => (HO_5.out.1 gb156 e_.symm).2 rfl)
      replace hx157_0 := (cell_far (p := ⟨gb156, 0, none⟩) (by first | (rw [add_block]; exact hn157_0) | (show (Addr.add _ _).block ≠ _; rw [add_block]; exact hn157_0) | exact hn157_0) (.string ((rd_T43 t149 x8_2).f0))).trans hx157_0
      replace hx157_1 := (cell_far (p := ⟨gb156, 0, none⟩) (by first | (rw [add_block]; exact hn157_0) | (show (Addr.add _ _).block ≠ _; rw [add_block]; exact hn157_0) | exact hn157_0) (.string ((rd_T43 t149 x8_2).f0))).trans hx157_1
      replace hx157_2 := (cell_far (p := ⟨gb156, 0, none⟩) (by first | (rw [add_block]; exact hn157_0) | (show (Addr.add _ _).block ≠ _; rw [add_block]; exact hn157_0) | exact hn157_0) (.string ((rd_T43 t149 x8_2).f0))).trans hx157_2
      replace hx157_3 := (cell_far (p := ⟨gb156, 0, none⟩) (by first | (rw [add_block]; exact hn157_0) | (show (Addr.add _ _).block ≠ _; rw [add_block]; exact hn157_0) | exact hn157_0) (.string ((rd_T43 t149 x8_2).f0))).trans hx157_3
      replace hx157_0 := (cell_far (p := ⟨gb156, 1, none⟩) (by first | (rw [add_block]; exact hn157_1) | (show (Addr.add _ _).block ≠ _; rw [add_block]; exact hn157_1) | exact hn157_1) (.int .i64 ((rd_T43 t149 x8_2).f1))).trans hx157_0
      replace hx157_1 := (cell_far (p := ⟨gb156, 1, none⟩) (by first | (rw [add_block]; exact hn157_1) | (show (Addr.add _ _).block ≠ _; rw [add_block]; exact hn157_1) | exact hn157_1) (.int .i64 ((rd_T43 t149 x8_2).f1))).trans hx157_1
      replace hx157_2 := (cell_far (p := ⟨gb156, 1, none⟩) (by first | (rw [add_block]; exact hn157_1) | (show (Addr.add _ _).block ≠ _; rw [add_block]; exact hn157_1) | exact hn157_1) (.int .i64 ((rd_T43 t149 x8_2).f1))).trans hx157_2
      replace hx157_3 := (cell_far (p := ⟨gb156, 1, none⟩) (by first | (rw [add_block]; exact hn157_1) | (show (Addr.add _ _).block ≠ _; rw [add_block]; exact hn157_1) | exact hn157_1) (.int .i64 ((rd_T43 t149 x8_2).f1))).trans hx157_3
      replace hx157_0 := (cell_far (p := ⟨gb156, 2, none⟩) (by first | (rw [add_block]; exact hn157_2) | (show (Addr.add _ _).block ≠ _; rw [add_block]; exact hn157_2) | exact hn157_2) (.bool ((rd_T43 t149 x8_2).f2))).trans hx157_0
      replace hx157_1 := (cell_far (p := ⟨gb156, 2, none⟩) (by first | (rw [add_block]; exact hn157_2) | (show (Addr.add _ _).block ≠ _; rw [add_block]; exact hn157_2) | exact hn157_2) (.bool ((rd_T43 t149 x8_2).f2))).trans hx157_1
      replace hx157_2 := (cell_far (p := ⟨gb156, 2, none⟩) (by first | (rw [add_block]; exact hn157_2) | (show (Addr.add _ _).block ≠ _; rw [add_block]; exact hn157_2) | exact hn157_2) (.bool ((rd_T43 t149 x8_2).f2))).trans hx157_2
      replace hx157_3 := (cell_far (p := ⟨gb156, 2, none⟩) (by first | (rw [add_block]; exact hn157_2) | (show (Addr.add _ _).block ≠ _; rw [add_block]; exact hn157_2) | exact hn157_2) (.bool ((rd_T43 t149 x8_2).f2))).trans hx157_3
      replace hx157_0 := (cell_far (p := ⟨gb156, 3, none⟩) (by first | (rw [add_block]; exact hn157_3) | (show (Addr.add _ _).block ≠ _; rw [add_block]; exact hn157_3) | exact hn157_3) (.string ((rd_T43 t149 x8_2).f3))).trans hx157_0
      replace hx157_1 := (cell_far (p := ⟨gb156, 3, none⟩) (by first | (rw [add_block]; exact hn157_3) | (show (Addr.add _ _).block ≠ _; rw [add_block]; exact hn157_3) | exact hn157_3) (.string ((rd_T43 t149 x8_2).f3))).trans hx157_1
      replace hx157_2 := (cell_far (p := ⟨gb156, 3, none⟩) (by first | (rw [add_block]; exact hn157_3) | (show (Addr.add _ _).block ≠ _; rw [add_block]; exact hn157_3) | exact hn157_3) (.string ((rd_T43 t149 x8_2).f3))).trans hx157_2
      replace hx157_3 := (cell_far (p := ⟨gb156, 3, none⟩) (by first | (rw [add_block]; exact hn157_3) | (show (Addr.add _ _).block ≠ _; rw [add_block]; exact hn157_3) | exact hn157_3) (.string ((rd_T43 t149 x8_2).f3))).trans hx157_3
      (try have hy157_0 := fun (n_ : Nat) => (show ((((((w20.drewN n_).setCell ⟨gb156, 0, none⟩ (.string ((rd_T43 t149 x8_2).f0))).setCell ⟨gb156, 1, none⟩ (.int .i64 ((rd_T43 t149 x8_2).f1))).setCell ⟨gb156, 2, none⟩ (.bool ((rd_T43 t149 x8_2).f2))).setCell ⟨gb156, 3, none⟩ (.string ((rd_T43 t149 x8_2).f3)))).cell? _ = some _ from hx157_0))
      (try have hy157_1 := fun (n_ : Nat) => (show ((((((w20.drewN n_).setCell ⟨gb156, 0, none⟩ (.string ((rd_T43 t149 x8_2).f0))).setCell ⟨gb156, 1, none⟩ (.int .i64 ((rd_T43 t149 x8_2).f1))).setCell ⟨gb156, 2, none⟩ (.bool ((rd_T43 t149 x8_2).f2))).setCell ⟨gb156, 3, none⟩ (.string ((rd_T43 t149 x8_2).f3)))).cell? _ = some _ from hx157_1))
      (try have hy157_2 := fun (n_ : Nat) => (show ((((((w20.drewN n_).setCell ⟨gb156, 0, none⟩ (.string ((rd_T43 t149 x8_2).f0))).setCell ⟨gb156, 1, none⟩ (.int .i64 ((rd_T43 t149 x8_2).f1))).setCell ⟨gb156, 2, none⟩ (.bool ((rd_T43 t149 x8_2).f2))).setCell ⟨gb156, 3, none⟩ (.string ((rd_T43 t149 x8_2).f3)))).cell? _ = some _ from hx157_2))
      (try have hy157_3 := fun (n_ : Nat) => (show ((((((w20.drewN n_).setCell ⟨gb156, 0, none⟩ (.string ((rd_T43 t149 x8_2).f0))).setCell ⟨gb156, 1, none⟩ (.int .i64 ((rd_T43 t149 x8_2).f1))).setCell ⟨gb156, 2, none⟩ (.bool ((rd_T43 t149 x8_2).f2))).setCell ⟨gb156, 3, none⟩ (.string ((rd_T43 t149 x8_2).f3)))).cell? _ = some _ from hx157_3))
      clear hn157_0
      clear hn157_1
      clear hn157_2
      clear hn157_3
      replace p157 := eq_true p157
      replace q157 := eq_true q157
      have hnb28 := NB156_141.out
      have hnc28 := NB141_156.out
      have hcz29_0 : w20.cell? ⟨gb156, 0, none⟩ = some (.string (⟨#[]⟩ : ByteArray)) := (blk_cell BK156.out 0).trans rfl
      have hcz29_1 : w20.cell? ⟨gb156, 1, none⟩ = some (.int .i64 0) := (blk_cell BK156.out 1).trans rfl
      have hcz29_2 : w20.cell? ⟨gb156, 2, none⟩ = some (.bool false) := (blk_cell BK156.out 2).trans rfl
      have hcz29_3 : w20.cell? ⟨gb156, 3, none⟩ = some (.string (⟨#[]⟩ : ByteArray)) := (blk_cell BK156.out 3).trans rfl
      have hfz29_0 := blk_frozen BK156.out 0
      have hfz29_1 := blk_frozen BK156.out 1
      have hfz29_2 := blk_frozen BK156.out 2
      have hfz29_3 := blk_frozen BK156.out 3
      have p158 : 0 ≤ ((ji24) : Int) := of_decide_eq_true (by first | (with_reducible assumption) | assumption)
      have q158 : (ji24) < (t149.length : Int) := of_decide_eq_true (by first | (with_reducible assumption) | assumption)
      obtain ⟨ad158, e158, hx158_0, hx158_1, hx158_2, hx158_3⟩ := at_T43 (Kd.R_reads' HO_5.out).2.2 (ji24) p158 q158
      obtain rfl : ad155 = ad158 := (by injection e158)
      have hn158_0 : ad155.block ≠ gb156 := Kd.own_blk (by first | exact Kd.R_ne HO_5.out BK156.out (by decide) | exact fun e_ => (HO_5.out.1 gb156 e_.symm).2 rfl)
      have hn158_1 : ad155.block ≠ gb156 := Kd.own_blk (by first | exact Kd.R_ne HO_5.out BK156.out (by decide) | exact fun e_ => (HO_5.out.1 gb156 e_.symm).2 rfl)
      have hn158_2 : ad155.block ≠ gb156 := Kd.own_blk (by first | exact Kd.R_ne HO_5.out BK156.out (by decide) | exact fun e_ => (HO_5.out.1 gb156 e_.symm).2 rfl)
      have hn158_3 : ad155.block ≠ gb156 := Kd.own_blk (by first | exact Kd.R_ne HO_5.out BK156.out (by decide) | exact fun e_ => (HO_5.out.1 gb156 e_.symm).2 rfl)
      replace hx158_0 := (cell_far (p := ⟨gb156, 0, none⟩) (by first | (rw [add_block]; exact hn158_0) | (show (Addr.add _ _).block ≠ _; rw [add_block]; exact hn158_0) | exact hn158_0) (.string ((rd_T43 t149 x8_2).f0))).trans hx158_0
      replace hx158_1 := (cell_far (p := ⟨gb156, 0, none⟩) (by first | (rw [add_block]; exact hn158_0) | (show (Addr.add _ _).block ≠ _; rw [add_block]; exact hn158_0) | exact hn158_0) (.string ((rd_T43 t149 x8_2).f0))).trans hx158_1
      replace hx158_2 := (cell_far (p := ⟨gb156, 0, none⟩) (by first | (rw [add_block]; exact hn158_0) | (show (Addr.add _ _).block ≠ _; rw [add_block]; exact hn158_0) | exact hn158_0) (.string ((rd_T43 t149 x8_2).f0))).trans hx158_2
      replace hx158_3 := (cell_far (p := ⟨gb156, 0, none⟩) (by first | (rw [add_block]; exact hn158_0) | (show (Addr.add _ _).block ≠ _; rw [add_block]; exact hn158_0) | exact hn158_0) (.string ((rd_T43 t149 x8_2).f0))).trans hx158_3
      replace hx158_0 := (cell_far (p := ⟨gb156, 1, none⟩) (by first | (rw [add_block]; exact hn158_1) | (show (Addr.add _ _).block ≠ _; rw [add_block]; exact hn158_1) | exact hn158_1) (.int .i64 ((rd_T43 t149 x8_2).f1))).trans hx158_0
      replace hx158_1 := (cell_far (p := ⟨gb156, 1, none⟩) (by first | (rw [add_block]; exact hn158_1) | (show (Addr.add _ _).block ≠ _; rw [add_block]; exact hn158_1) | exact hn158_1) (.int .i64 ((rd_T43 t149 x8_2).f1))).trans hx158_1
      replace hx158_2 := (cell_far (p := ⟨gb156, 1, none⟩) (by first | (rw [add_block]; exact hn158_1) | (show (Addr.add _ _).block ≠ _; rw [add_block]; exact hn158_1) | exact hn158_1) (.int .i64 ((rd_T43 t149 x8_2).f1))).trans hx158_2
      replace hx158_3 := (cell_far (p := ⟨gb156, 1, none⟩) (by first | (rw [add_block]; exact hn158_1) | (show (Addr.add _ _).block ≠ _; rw [add_block]; exact hn158_1) | exact hn158_1) (.int .i64 ((rd_T43 t149 x8_2).f1))).trans hx158_3
      replace hx158_0 := (cell_far (p := ⟨gb156, 2, none⟩) (by first | (rw [add_block]; exact hn158_2) | (show (Addr.add _ _).block ≠ _; rw [add_block]; exact hn158_2) | exact hn158_2) (.bool ((rd_T43 t149 x8_2).f2))).trans hx158_0
      replace hx158_1 := (cell_far (p := ⟨gb156, 2, none⟩) (by first | (rw [add_block]; exact hn158_2) | (show (Addr.add _ _).block ≠ _; rw [add_block]; exact hn158_2) | exact hn158_2) (.bool ((rd_T43 t149 x8_2).f2))).trans hx158_1
      replace hx158_2 := (cell_far (p := ⟨gb156, 2, none⟩) (by first | (rw [add_block]; exact hn158_2) | (show (Addr.add _ _).block ≠ _; rw [add_block]; exact hn158_2) | exact hn158_2) (.bool ((rd_T43 t149 x8_2).f2))).trans hx158_2
      replace hx158_3 := (cell_far (p := ⟨gb156, 2, none⟩) (by first | (rw [add_block]; exact hn158_2) | (show (Addr.add _ _).block ≠ _; rw [add_block]; exact hn158_2) | exact hn158_2) (.bool ((rd_T43 t149 x8_2).f2))).trans hx158_3
      replace hx158_0 := (cell_far (p := ⟨gb156, 3, none⟩) (by first | (rw [add_block]; exact hn158_3) | (show (Addr.add _ _).block ≠ _; rw [add_block]; exact hn158_3) | exact hn158_3) (.string ((rd_T43 t149 x8_2).f3))).trans hx158_0
      replace hx158_1 := (cell_far (p := ⟨gb156, 3, none⟩) (by first | (rw [add_block]; exact hn158_3) | (show (Addr.add _ _).block ≠ _; rw [add_block]; exact hn158_3) | exact hn158_3) (.string ((rd_T43 t149 x8_2).f3))).trans hx158_1
      replace hx158_2 := (cell_far (p := ⟨gb156, 3, none⟩) (by first | (rw [add_block]; exact hn158_3) | (show (Addr.add _ _).block ≠ _; rw [add_block]; exact hn158_3) | exact hn158_3) (.string ((rd_T43 t149 x8_2).f3))).trans hx158_2
      replace hx158_3 := (cell_far (p := ⟨gb156, 3, none⟩) (by first | (rw [add_block]; exact hn158_3) | (show (Addr.add _ _).block ≠ _; rw [add_block]; exact hn158_3) | exact hn158_3) (.string ((rd_T43 t149 x8_2).f3))).trans hx158_3
      (try have hy158_0 := fun (n_ : Nat) => (show ((((((w20.drewN n_).setCell ⟨gb156, 0, none⟩ (.string ((rd_T43 t149 x8_2).f0))).setCell ⟨gb156, 1, none⟩ (.int .i64 ((rd_T43 t149 x8_2).f1))).setCell ⟨gb156, 2, none⟩ (.bool ((rd_T43 t149 x8_2).f2))).setCell ⟨gb156, 3, none⟩ (.string ((rd_T43 t149 x8_2).f3)))).cell? _ = some _ from hx158_0))
      (try have hy158_1 := fun (n_ : Nat) => (show ((((((w20.drewN n_).setCell ⟨gb156, 0, none⟩ (.string ((rd_T43 t149 x8_2).f0))).setCell ⟨gb156, 1, none⟩ (.int .i64 ((rd_T43 t149 x8_2).f1))).setCell ⟨gb156, 2, none⟩ (.bool ((rd_T43 t149 x8_2).f2))).setCell ⟨gb156, 3, none⟩ (.string ((rd_T43 t149 x8_2).f3)))).cell? _ = some _ from hx158_1))
      (try have hy158_2 := fun (n_ : Nat) => (show ((((((w20.drewN n_).setCell ⟨gb156, 0, none⟩ (.string ((rd_T43 t149 x8_2).f0))).setCell ⟨gb156, 1, none⟩ (.int .i64 ((rd_T43 t149 x8_2).f1))).setCell ⟨gb156, 2, none⟩ (.bool ((rd_T43 t149 x8_2).f2))).setCell ⟨gb156, 3, none⟩ (.string ((rd_T43 t149 x8_2).f3)))).cell? _ = some _ from hx158_2))
      (try have hy158_3 := fun (n_ : Nat) => (show ((((((w20.drewN n_).setCell ⟨gb156, 0, none⟩ (.string ((rd_T43 t149 x8_2).f0))).setCell ⟨gb156, 1, none⟩ (.int .i64 ((rd_T43 t149 x8_2).f1))).setCell ⟨gb156, 2, none⟩ (.bool ((rd_T43 t149 x8_2).f2))).setCell ⟨gb156, 3, none⟩ (.string ((rd_T43 t149 x8_2).f3)))).cell? _ = some _ from hx158_3))
      clear hn158_0
      clear hn158_1
      clear hn158_2
      clear hn158_3
      replace p158 := eq_true p158
      replace q158 := eq_true q158
      go_wp2
      repeat (go_quiet (fail); try go_wp2)
      go_meet
      case rel => exact ⟨_, (decide (((rd_T43 t149 (ji24)).f1) ≤ a1)), (by first | rfl | (simp; done) | (simp only [← hji24] <;> (first | rfl | simp)) | (simp [*]; done)), H', ⟨by have := HK1.out; have := HK2.out; first | omega | exact Nat.le_refl _⟩, ⟨by (with_reducible repeat (first | apply Kd.R_alloc | apply Kd.R_drewN | apply Kd.R_drew)); exact Kd.R_mono (Kd.R_far (p := ⟨gb156, 3, none⟩) (Kd.R_far (p := ⟨gb156, 2, none⟩) (Kd.R_far (p := ⟨gb156, 1, none⟩) (Kd.R_far (p := ⟨gb156, 0, none⟩) (Kd.R_mono HO_5.out (fun k_ hk => (⟨hk, hk.2⟩ : _ ∧ k_ ≠ gb156))) (fun _ hk => hk.2) (.string ((rd_T43 t149 x8_2).f0))) (fun _ hk => hk.2) (.int .i64 ((rd_T43 t149 x8_2).f1))) (fun _ hk => hk.2) (.bool ((rd_T43 t149 x8_2).f2))) (fun _ hk => hk.2) (.string ((rd_T43 t149 x8_2).f3))) (fun _ hk => ⟨hk.1.1, hk.1.2⟩)⟩, ⟨by (with_reducible repeat (first | apply Kd.R_alloc | apply Kd.R_drewN | apply Kd.R_drew)); exact Kd.R_mono (Kd.R_far (p := ⟨gb156, 3, none⟩) (Kd.R_far (p := ⟨gb156, 2, none⟩) (Kd.R_far (p := ⟨gb156, 1, none⟩) (Kd.R_far (p := ⟨gb156, 0, none⟩) (Kd.R_mono HO_7.out (fun k_ hk => (⟨hk, hk.2⟩ : _ ∧ k_ ≠ gb156))) (fun _ hk => hk.2) (.string ((rd_T43 t149 x8_2).f0))) (fun _ hk => hk.2) (.int .i64 ((rd_T43 t149 x8_2).f1))) (fun _ hk => hk.2) (.bool ((rd_T43 t149 x8_2).f2))) (fun _ hk => hk.2) (.string ((rd_T43 t149 x8_2).f3))) (fun _ hk => ⟨hk.1.1, hk.1.2⟩)⟩, ⟨by (with_reducible repeat (first | refine blk_drewN ?_ _ | refine blk_drew ?_ | refine blk_alloc ?_ _)); refine blk_far ?_ NB141_156.out _; (with_reducible repeat (first | refine blk_drewN ?_ _ | refine blk_drew ?_ | refine blk_alloc ?_ _)); refine blk_far ?_ NB141_156.out _; (with_reducible repeat (first | refine blk_drewN ?_ _ | refine blk_drew ?_ | refine blk_alloc ?_ _)); refine blk_far ?_ NB141_156.out _; (with_reducible repeat (first | refine blk_drewN ?_ _ | refine blk_drew ?_ | refine blk_alloc ?_ _)); refine blk_far ?_ NB141_156.out _; (with_reducible repeat (first | refine blk_drewN ?_ _ | refine blk_drew ?_ | refine blk_alloc ?_ _)); exact BK141.out⟩, ⟨by (with_reducible repeat (first | refine blk_drewN ?_ _ | refine blk_drew ?_ | refine blk_alloc ?_ _)); refine blk_put (cs := #[.string ((rd_T43 t149 x8_2).f0), .int .i64 ((rd_T43 t149 x8_2).f1), .bool ((rd_T43 t149 x8_2).f2), .string (⟨#[]⟩ : ByteArray)]) ?_ 3 _ rfl; (with_reducible repeat (first | refine blk_drewN ?_ _ | refine blk_drew ?_ | refine blk_alloc ?_ _)); refine blk_put (cs := #[.string ((rd_T43 t149 x8_2).f0), .int .i64 ((rd_T43 t149 x8_2).f1), .bool false, .string (⟨#[]⟩ : ByteArray)]) ?_ 2 _ rfl; (with_reducible repeat (first | refine blk_drewN ?_ _ | refine blk_drew ?_ | refine blk_alloc ?_ _)); refine blk_put (cs := #[.string ((rd_T43 t149 x8_2).f0), .int .i64 0, .bool false, .string (⟨#[]⟩ : ByteArray)]) ?_ 1 _ rfl; (with_reducible repeat (first | refine blk_drewN ?_ _ | refine blk_drew ?_ | refine blk_alloc ?_ _)); refine blk_put (cs := #[.string (⟨#[]⟩ : ByteArray), .int .i64 0, .bool false, .string (⟨#[]⟩ : ByteArray)]) ?_ 0 _ rfl; (with_reducible repeat (first | refine blk_drewN ?_ _ | refine blk_drew ?_ | refine blk_alloc ?_ _)); exact BK156.out⟩, ⟨by repeat (first | (with_reducible first | exact HB.out | apply below_alloc | apply pw_below_drewN | apply below_drew1 | refine below_set ?_ GE141.out | refine below_set ?_ GE156.out) | exact HB.out)⟩⟩
     case rest =>
      clear HC18
      try clear c1
      try clear p1
      try clear q1
      try clear hx1
      try clear c2
      try clear p2
      try clear c3
      try clear c6
      try clear c6b0
      try clear p6
      try clear c7
      try clear c7b0
      try clear c8
      try clear c14
      try clear p14
      try clear q14
      try clear hx14
      try clear c15
      try clear c15b0
      try clear p15
      try clear q15
      try clear hx15
      try clear c16
      try clear c16b0
      try clear c17
      try clear c17b0
      try clear c21
      try clear c23
      try clear c23b0
      try clear c25
      try clear c25b0
      try clear c26
      try clear c26b0
      try clear c27
      try clear c27b0
      try clear c27b1
      try clear c28
      try clear c30
      try clear hcz22_0
      try clear hcz22_1
      try clear hcz22_2
      try clear hcz22_3
      try clear hcz29_0
      try clear hcz29_1
      try clear hcz29_2
      try clear hcz29_3
      try clear hcz31_0
      try clear hcz31_1
      try clear hcz31_2
      try clear hcz31_3
      try clear hfz22_0
      try clear hfz22_1
      try clear hfz22_2
      try clear hfz22_3
      try clear hfz29_0
      try clear hfz29_1
      try clear hfz29_2
      try clear hfz29_3
      try clear hfz31_0
      try clear hfz31_1
      try clear hfz31_2
      try clear hfz31_3
      try clear hx145_0
      try clear hx155_0
      try clear hx155_1
      try clear hx155_2
      try clear hx155_3
      try clear hx157_0
      try clear hx157_1
      try clear hx157_2
      try clear hx157_3
      try clear hx158_0
      try clear hx158_1
      try clear hx158_2
      try clear hx158_3
      try clear p1
      try clear p14
      try clear p145
      try clear p155
      try clear p157
      try clear p158
      try clear p2
      try clear p6
      try clear q1
      try clear q14
      try clear q145
      try clear q155
      try clear q157
      try clear q158
      obtain ⟨kq, x10_17, rfl, HA, HJ17, HO_5, HO_7, BK141, BK156, HB⟩ := hcut
      cases kq with
      | zero => exact absurd HA.out (by simp [spec_l08Merge.j2])
      | succ kj17 =>
       have H := HA.out
       clear HA
       simp only [spec_l08Merge.j2] at H
       have HC32 := Aside0.mk H
       clear H
       go_upto_region 14 with (fail)
       repeat (go_quiet (fail); go_upto_region 14 with (fail))
       go_cut [69] (fun v69 wc => ∃ (kq : Nat) (x69_31 : Bool), v69 = .bool x69_31 ∧ Aside0 (spec_l08Merge.j3 kq a1 t149 x7_2 x8_2 x69_31 ((rd_T43 t149 x8_2).f0) ((rd_T43 t149 x8_2).f1) ((rd_T43 t149 x8_2).f2) ((rd_T43 t149 x8_2).f3) = some r) ∧ Aside0 (kq ≤ kj17) ∧ Aside0 (Kd.R k43 43 wc w.heap.size (fun k_ => some k_ ≠ (u7 : Value).ownBlock ∧ k_ ≠ gb156) (.slice (some ad155) t149.length co19) t149) ∧ Aside0 (Kd.R k43 43 wc w.heap.size (fun k_ => some k_ ≠ ((.slice (some ad155) t149.length co19) : Value).ownBlock ∧ k_ ≠ gb156) u7 x7_2) ∧ Aside0 (wc.heap[gb141]? = some (.cells #[(.slice none 0 0)] 26 (0, 0))) ∧ Aside0 (wc.heap[gb156]? = some (.cells #[.string ((rd_T43 t149 x8_2).f0), .int .i64 ((rd_T43 t149 x8_2).f1), .bool ((rd_T43 t149 x8_2).f2), .string ((rd_T43 t149 x8_2).f3)] 43 (0, 0))) ∧ Aside0 (Below w.heap.size w wc))
       case first =>
        have H := HC32.out
        clear HC32
        by_cases c33 : x10_17 = true
        ·
         subst c33
         have H1 : (spec_l08Merge.j3 kj17 a1 t149 x7_2 x8_2 true ((rd_T43 t149 x8_2).f0) ((rd_T43 t149 x8_2).f1) ((rd_T43 t149 x8_2).f2) ((rd_T43 t149 x8_2).f3)) = some r := by rw [if_pos rfl] at H; exact H
         clear H
         have H := H1
         clear H1
         have H' := Aside0.mk H
         clear H
         go_wp2
         repeat (go_quiet (fail); try go_wp2)
         go_meet
         case rel => exact ⟨_, (true), (by first | rfl | (simp; done) | (simp [*]; done)), H', ⟨by have := HK1.out; have := HK2.out; have := HJ17.out; first | omega | exact Nat.le_refl _⟩, ⟨by first | exact Grow.rg HO_5.out | exact HO_5.out⟩, ⟨by first | exact Grow.rg HO_7.out | exact HO_7.out⟩, ⟨by first | exact Grow.bk BK141.out | exact BK141.out⟩, ⟨by first | exact Grow.bk BK156.out | exact BK156.out⟩, ⟨by repeat (first | (with_reducible first | exact HB.out | apply below_alloc | apply pw_below_drewN | apply below_drew1 | refine below_set ?_ GE141.out | refine below_set ?_ GE156.out) | exact HB.out)⟩⟩
        replace c33 := Bool.eq_false_iff.mpr c33
        subst c33
        have H1 : (spec_l08Merge.j3 kj17 a1 t149 x7_2 x8_2 ((rd_T43 t149 x8_2).f2) ((rd_T43 t149 x8_2).f0) ((rd_T43 t149 x8_2).f1) ((rd_T43 t149 x8_2).f2) ((rd_T43 t149 x8_2).f3)) = some r := by rw [if_neg (show ¬ (false = true) by decide)] at H; exact H
        clear H
        have H := H1
        clear H1
        have H' := Aside0.mk H
        clear H
        have hnb34 := NB156_141.out
        have hnc34 := NB141_156.out
        have hcz35_0 : wc.cell? ⟨gb156, 0, none⟩ = some (.string ((rd_T43 t149 x8_2).f0)) := (blk_cell BK156.out 0).trans rfl
        have hcz35_1 : wc.cell? ⟨gb156, 1, none⟩ = some (.int .i64 ((rd_T43 t149 x8_2).f1)) := (blk_cell BK156.out 1).trans rfl
        have hcz35_2 : wc.cell? ⟨gb156, 2, none⟩ = some (.bool ((rd_T43 t149 x8_2).f2)) := (blk_cell BK156.out 2).trans rfl
        have hcz35_3 : wc.cell? ⟨gb156, 3, none⟩ = some (.string ((rd_T43 t149 x8_2).f3)) := (blk_cell BK156.out 3).trans rfl
        have hfz35_0 := blk_frozen BK156.out 0
        have hfz35_1 := blk_frozen BK156.out 1
        have hfz35_2 := blk_frozen BK156.out 2
        have hfz35_3 := blk_frozen BK156.out 3
        go_wp2
        repeat (go_quiet (fail); try go_wp2)
        go_meet
        case rel => exact ⟨_, (((rd_T43 t149 x8_2).f2)), (by first | rfl | (simp; done) | (simp [*]; done)), H', ⟨by have := HK1.out; have := HK2.out; have := HJ17.out; first | omega | exact Nat.le_refl _⟩, ⟨by first | exact Grow.rg HO_5.out | exact HO_5.out⟩, ⟨by first | exact Grow.rg HO_7.out | exact HO_7.out⟩, ⟨by first | exact Grow.bk BK141.out | exact BK141.out⟩, ⟨by first | exact Grow.bk BK156.out | exact BK156.out⟩, ⟨by repeat (first | (with_reducible first | exact HB.out | apply below_alloc | apply pw_below_drewN | apply below_drew1 | refine below_set ?_ GE141.out | refine below_set ?_ GE156.out) | exact HB.out)⟩⟩
       case rest =>
        clear HC32
        try clear c1
        try clear p1
        try clear q1
        try clear hx1
        try clear c2
        try clear p2
        try clear c3
        try clear c6
        try clear c6b0
        try clear p6
        try clear c7
        try clear c7b0
        try clear c8
        try clear c14
        try clear p14
        try clear q14
        try clear hx14
        try clear c15
        try clear c15b0
        try clear p15
        try clear q15
        try clear hx15
        try clear c16
        try clear c16b0
        try clear c17
        try clear c17b0
        try clear c21
        try clear c23
        try clear c23b0
        try clear c25
        try clear c25b0
        try clear c26
        try clear c26b0
        try clear c27
        try clear c27b0
        try clear c27b1
        try clear c28
        try clear c30
        try clear c33
        try clear c34
        try clear hcz22_0
        try clear hcz22_1
        try clear hcz22_2
        try clear hcz22_3
        try clear hcz29_0
        try clear hcz29_1
        try clear hcz29_2
        try clear hcz29_3
        try clear hcz31_0
        try clear hcz31_1
        try clear hcz31_2
        try clear hcz31_3
        try clear hcz35_0
        try clear hcz35_1
        try clear hcz35_2
        try clear hcz35_3
        try clear hfz22_0
        try clear hfz22_1
        try clear hfz22_2
        try clear hfz22_3
        try clear hfz29_0
        try clear hfz29_1
        try clear hfz29_2
        try clear hfz29_3
        try clear hfz31_0
        try clear hfz31_1
        try clear hfz31_2
        try clear hfz31_3
        try clear hfz35_0
        try clear hfz35_1
        try clear hfz35_2
        try clear hfz35_3
        try clear hx145_0
        try clear hx155_0
        try clear hx155_1
        try clear hx155_2
        try clear hx155_3
        try clear hx157_0
        try clear hx157_1
        try clear hx157_2
        try clear hx157_3
        try clear hx158_0
        try clear hx158_1
        try clear hx158_2
        try clear hx158_3
        try clear p1
        try clear p14
        try clear p145
        try clear p15
        try clear p155
        try clear p157
        try clear p158
        try clear p2
        try clear p6
        try clear q1
        try clear q14
        try clear q145
        try clear q15
        try clear q155
        try clear q157
        try clear q158
        obtain ⟨kq, x69_31, rfl, HA, HJ31, HO_5, HO_7, BK141, BK156, HB⟩ := hcut
        cases kq with
        | zero => exact absurd HA.out (by simp [spec_l08Merge.j3])
        | succ kj31 =>
         have H := HA.out
         clear HA
         simp only [spec_l08Merge.j3] at H
         by_cases c36 : x69_31 = true
         ·
          subst c36
          have H1 : (spec_l08Merge.l1 kj31 a1 t149 x7_2 (wrap64 (x8_2 + 1))) = some r := by rw [if_pos rfl] at H; exact H
          clear H
          have H := H1
          clear H1
          have H' := Aside0.mk H
          clear H
          go_wp2
          repeat (go_quiet (fail); try go_wp2)
          go_roundg kj31
          case measure => have := HK1.out; have := HK2.out; have := HJ17.out; have := HJ31.out; omega
          case rel => exact ⟨(x7_2), (wrap64 (x8_2 + 1)), (by first | rfl | (simp; done) | (simp [*]; done)), H', ⟨by have := HK1.out; have := HK2.out; have := HJ17.out; have := HJ31.out; omega⟩, ⟨by (with_reducible repeat (first | apply Kd.R_alloc | apply Kd.R_drewN | apply Kd.R_drew)); exact Kd.R_mono HO_5.out (fun _ hk => hk.1)⟩, ⟨by (with_reducible repeat (first | apply Kd.R_alloc | apply Kd.R_drewN | apply Kd.R_drew)); exact Kd.R_mono HO_7.out (fun _ hk => hk.1)⟩, ⟨by first | exact Grow.bk BK141.out | exact BK141.out⟩, ⟨by repeat (first | (with_reducible first | exact HB.out | apply below_alloc | apply pw_below_drewN | apply below_drew1 | refine below_set ?_ GE141.out | refine below_set ?_ GE156.out) | exact HB.out)⟩⟩
         replace c36 := Bool.eq_false_iff.mpr c36
         subst c36
         have H1 : (if x7_2.length < 2932031007402 then (spec_l08Merge.l1 kj31 a1 t149 (x7_2 ++ [(⟨((rd_T43 t149 x8_2).f0), ((rd_T43 t149 x8_2).f1), ((rd_T43 t149 x8_2).f2), ((rd_T43 t149 x8_2).f3)⟩ : S43)]) (wrap64 (x8_2 + 1))) else (none)) = some r := by rw [if_neg (show ¬ (false = true) by decide)] at H; exact H
         clear H
         have H := H1
         clear H1
         by_cases c37 : x7_2.length < 2932031007402
         rotate_left
         ·
          rw [if_neg c37] at H
          exact absurd H (by simp)
         rw [if_pos c37] at H
         have LMc37 := Aside0.mk c37
         clear c37
         obtain ⟨y159, hy159⟩ : ∃ y_ : List (S43), y_ = (x7_2 ++ [(⟨((rd_T43 t149 x8_2).f0), ((rd_T43 t149 x8_2).f1), ((rd_T43 t149 x8_2).f2), ((rd_T43 t149 x8_2).f3)⟩ : S43)]) := ⟨_, rfl⟩
         replace H : (spec_l08Merge.l1 kj31 a1 t149 y159 (wrap64 (x8_2 + 1))) = some r := by first | (rw [hy159]; with_reducible exact H) | (have H2_ := (Option.bind_some _ _).symm.trans H; rw [hy159]; with_reducible exact H2_) | (have H2_ := (Option.bind_some _ _).symm.trans H; with_reducible exact H2_) | with_reducible exact H | (rw [hy159]; exact H) | exact H
         have Ny159 := Aside0.mk hy159
         clear hy159
         have H' := Aside0.mk H
         clear H
         have hnb38 := NB156_141.out
         have hnc38 := NB141_156.out
         have hcz39_0 : wc.cell? ⟨gb156, 0, none⟩ = some (.string ((rd_T43 t149 x8_2).f0)) := (blk_cell BK156.out 0).trans rfl
         have hcz39_1 : wc.cell? ⟨gb156, 1, none⟩ = some (.int .i64 ((rd_T43 t149 x8_2).f1)) := (blk_cell BK156.out 1).trans rfl
         have hcz39_2 : wc.cell? ⟨gb156, 2, none⟩ = some (.bool ((rd_T43 t149 x8_2).f2)) := (blk_cell BK156.out 2).trans rfl
         have hcz39_3 : wc.cell? ⟨gb156, 3, none⟩ = some (.string ((rd_T43 t149 x8_2).f3)) := (blk_cell BK156.out 3).trans rfl
         have hfz39_0 := blk_frozen BK156.out 0
         have hfz39_1 := blk_frozen BK156.out 1
         have hfz39_2 := blk_frozen BK156.out 2
         have hfz39_3 := blk_frozen BK156.out 3
         go_wp2_with (first | ((with_reducible refine gate_builtin (b := .append) (xs := #[.tmp 70, .tmp 72]) rfl ?_); at_builtin; refine Kd.R_append k43 (w0 := w) w.heap.size rfl (.tmp 70) (.tmp 72) 24 43 (.agg #[(.string ⟨#[]⟩), (.int .i64 0), (.bool false), (.string ⟨#[]⟩)]) 48 rfl Try.underlying24 info43 rfl (by decide) (by omega) u7 x7_2 (⟨((rd_T43 t149 x8_2).f0), ((rd_T43 t149 x8_2).f1), ((rd_T43 t149 x8_2).f2), ((rd_T43 t149 x8_2).f3)⟩ : S43) [.string ((rd_T43 t149 x8_2).f0), .int .i64 ((rd_T43 t149 x8_2).f1), .bool ((rd_T43 t149 x8_2).f2), .string ((rd_T43 t149 x8_2).f3)] (fun k_ => some k_ ≠ (.slice (some ad155) t149.length co19 : Value).ownBlock ∧ k_ ≠ gb156) (fun _ => False) rfl rfl ?aP (fun _ hk => hk.elim) ?aF ?aO ?aB ?aS ?aL ?_; (case aP => exact k43_mkM _ _ _ (⟨((rd_T43 t149 x8_2).f0), ((rd_T43 t149 x8_2).f1), ((rd_T43 t149 x8_2).f2), ((rd_T43 t149 x8_2).f3)⟩ : S43)); (case aB => exact (by repeat (first | (with_reducible first | exact HB.out | apply below_alloc | apply pw_below_drewN | apply below_drew1 | refine below_set ?_ GE141.out | refine below_set ?_ GE156.out) | exact HB.out))); (case aF => exact (fun k_ hk => ⟨Kd.fresh' (Kd.R_lt (by first | exact Grow.rg HO_5.out | exact HO_5.out)) k_ hk, Kd.freshB (g := gb156) (o := .cells #[.string ((rd_T43 t149 x8_2).f0), .int .i64 ((rd_T43 t149 x8_2).f1), .bool ((rd_T43 t149 x8_2).f2), .string ((rd_T43 t149 x8_2).f3)] 43 (0, 0)) (by first | exact Grow.bk BK156.out | exact BK156.out) k_ hk⟩)); (case aO => exact (by first | exact Grow.rg HO_7.out | exact HO_7.out)); (case aS => exact (below_size (by repeat (first | (with_reducible first | exact HB.out | apply below_alloc | apply pw_below_drewN | apply below_drew1 | refine below_set ?_ GE141.out | refine below_set ?_ GE156.out) | exact HB.out)))); (case aL => have := LMc37.out; omega); intro v160 w40 ho hb hg hat; rw [← Ny159.out] at ho; have n0_ := Aside0.mk (Kd.R_after (ok := (fun k_ => k_ ≠ gb156)) (by (with_reducible repeat (first | apply Kd.R_alloc | apply Kd.R_drewN | apply Kd.R_drew)); exact Kd.R_mono HO_5.out (fun _ hk => ⟨hk.2, hk.1⟩)) hg hat); have n1_ := Aside0.mk (blk_grown (g := gb141) (o := .cells #[.slice none 0 0] 26 (0, 0)) (by first | exact Grow.bk BK141.out | exact BK141.out) hg (by first | exact Kd.R_ne HO_7.out BK141.out (by decide) | exact fun e_ => (HO_7.out.1 gb141 e_.symm).2 rfl)); have n2_ := Aside0.mk (blk_grown (g := gb156) (o := .cells #[.string ((rd_T43 t149 x8_2).f0), .int .i64 ((rd_T43 t149 x8_2).f1), .bool ((rd_T43 t149 x8_2).f2), .string ((rd_T43 t149 x8_2).f3)] 43 (0, 0)) (by first | exact Grow.bk BK156.out | exact BK156.out) hg (Kd.R_away HO_7.out (fun _ hk => hk.2))); have n3_ := Aside0.mk (hb); have n4_ := Aside0.mk (ho); clear HO_5; clear BK141; clear BK156; clear HB; clear HO_7; have HO_5 := n0_; have BK141 := n1_; have BK156 := n2_; have HB := n3_; have HO161 := n4_; clear n0_ n1_ n2_ n3_ n4_; clear ho hb hg hat))
         repeat (go_quiet (first | ((with_reducible refine gate_builtin (b := .append) (xs := #[.tmp 70, .tmp 72]) rfl ?_); at_builtin; refine Kd.R_append k43 (w0 := w) w.heap.size rfl (.tmp 70) (.tmp 72) 24 43 (.agg #[(.string ⟨#[]⟩), (.int .i64 0), (.bool false), (.string ⟨#[]⟩)]) 48 rfl Try.underlying24 info43 rfl (by decide) (by omega) u7 x7_2 (⟨((rd_T43 t149 x8_2).f0), ((rd_T43 t149 x8_2).f1), ((rd_T43 t149 x8_2).f2), ((rd_T43 t149 x8_2).f3)⟩ : S43) [.string ((rd_T43 t149 x8_2).f0), .int .i64 ((rd_T43 t149 x8_2).f1), .bool ((rd_T43 t149 x8_2).f2), .string ((rd_T43 t149 x8_2).f3)] (fun k_ => some k_ ≠ (.slice (some ad155) t149.length co19 : Value).ownBlock ∧ k_ ≠ gb156) (fun _ => False) rfl rfl ?aP (fun _ hk => hk.elim) ?aF ?aO ?aB ?aS ?aL ?_; (case aP => exact k43_mkM _ _ _ (⟨((rd_T43 t149 x8_2).f0), ((rd_T43 t149 x8_2).f1), ((rd_T43 t149 x8_2).f2), ((rd_T43 t149 x8_2).f3)⟩ : S43)); (case aB => exact (by repeat (first | (with_reducible first | exact HB.out | apply below_alloc | apply pw_below_drewN | apply below_drew1 | refine below_set ?_ GE141.out | refine below_set ?_ GE156.out) | exact HB.out))); (case aF => exact (fun k_ hk => ⟨Kd.fresh' (Kd.R_lt (by first | exact Grow.rg HO_5.out | exact HO_5.out)) k_ hk, Kd.freshB (g := gb156) (o := .cells #[.string ((rd_T43 t149 x8_2).f0), .int .i64 ((rd_T43 t149 x8_2).f1), .bool ((rd_T43 t149 x8_2).f2), .string ((rd_T43 t149 x8_2).f3)] 43 (0, 0)) (by first | exact Grow.bk BK156.out | exact BK156.out) k_ hk⟩)); (case aO => exact (by first | exact Grow.rg HO_7.out | exact HO_7.out)); (case aS => exact (below_size (by repeat (first | (with_reducible first | exact HB.out | apply below_alloc | apply pw_below_drewN | apply below_drew1 | refine below_set ?_ GE141.out | refine below_set ?_ GE156.out) | exact HB.out)))); (case aL => have := LMc37.out; omega); intro v160 w40 ho hb hg hat; rw [← Ny159.out] at ho; have n0_ := Aside0.mk (Kd.R_after (ok := (fun k_ => k_ ≠ gb156)) (by (with_reducible repeat (first | apply Kd.R_alloc | apply Kd.R_drewN | apply Kd.R_drew)); exact Kd.R_mono HO_5.out (fun _ hk => ⟨hk.2, hk.1⟩)) hg hat); have n1_ := Aside0.mk (blk_grown (g := gb141) (o := .cells #[.slice none 0 0] 26 (0, 0)) (by first | exact Grow.bk BK141.out | exact BK141.out) hg (by first | exact Kd.R_ne HO_7.out BK141.out (by decide) | exact fun e_ => (HO_7.out.1 gb141 e_.symm).2 rfl)); have n2_ := Aside0.mk (blk_grown (g := gb156) (o := .cells #[.string ((rd_T43 t149 x8_2).f0), .int .i64 ((rd_T43 t149 x8_2).f1), .bool ((rd_T43 t149 x8_2).f2), .string ((rd_T43 t149 x8_2).f3)] 43 (0, 0)) (by first | exact Grow.bk BK156.out | exact BK156.out) hg (Kd.R_away HO_7.out (fun _ hk => hk.2))); have n3_ := Aside0.mk (hb); have n4_ := Aside0.mk (ho); clear HO_5; clear BK141; clear BK156; clear HB; clear HO_7; have HO_5 := n0_; have BK141 := n1_; have BK156 := n2_; have HB := n3_; have HO161 := n4_; clear n0_ n1_ n2_ n3_ n4_; clear ho hb hg hat)); try go_wp2_with (first | ((with_reducible refine gate_builtin (b := .append) (xs := #[.tmp 70, .tmp 72]) rfl ?_); at_builtin; refine Kd.R_append k43 (w0 := w) w.heap.size rfl (.tmp 70) (.tmp 72) 24 43 (.agg #[(.string ⟨#[]⟩), (.int .i64 0), (.bool false), (.string ⟨#[]⟩)]) 48 rfl Try.underlying24 info43 rfl (by decide) (by omega) u7 x7_2 (⟨((rd_T43 t149 x8_2).f0), ((rd_T43 t149 x8_2).f1), ((rd_T43 t149 x8_2).f2), ((rd_T43 t149 x8_2).f3)⟩ : S43) [.string ((rd_T43 t149 x8_2).f0), .int .i64 ((rd_T43 t149 x8_2).f1), .bool ((rd_T43 t149 x8_2).f2), .string ((rd_T43 t149 x8_2).f3)] (fun k_ => some k_ ≠ (.slice (some ad155) t149.length co19 : Value).ownBlock ∧ k_ ≠ gb156) (fun _ => False) rfl rfl ?aP (fun _ hk => hk.elim) ?aF ?aO ?aB ?aS ?aL ?_; (case aP => exact k43_mkM _ _ _ (⟨((rd_T43 t149 x8_2).f0), ((rd_T43 t149 x8_2).f1), ((rd_T43 t149 x8_2).f2), ((rd_T43 t149 x8_2).f3)⟩ : S43)); (case aB => exact (by repeat (first | (with_reducible first | exact HB.out | apply below_alloc | apply pw_below_drewN | apply below_drew1 | refine below_set ?_ GE141.out | refine below_set ?_ GE156.out) | exact HB.out))); (case aF => exact (fun k_ hk => ⟨Kd.fresh' (Kd.R_lt (by first | exact Grow.rg HO_5.out | exact HO_5.out)) k_ hk, Kd.freshB (g := gb156) (o := .cells #[.string ((rd_T43 t149 x8_2).f0), .int .i64 ((rd_T43 t149 x8_2).f1), .bool ((rd_T43 t149 x8_2).f2), .string ((rd_T43 t149 x8_2).f3)] 43 (0, 0)) (by first | exact Grow.bk BK156.out | exact BK156.out) k_ hk⟩)); (case aO => exact (by first | exact Grow.rg HO_7.out | exact HO_7.out)); (case aS => exact (below_size (by repeat (first | (with_reducible first | exact HB.out | apply below_alloc | apply pw_below_drewN | apply below_drew1 | refine below_set ?_ GE141.out | refine below_set ?_ GE156.out) | exact HB.out)))); (case aL => have := LMc37.out; omega); intro v160 w40 ho hb hg hat; rw [← Ny159.out] at ho; have n0_ := Aside0.mk (Kd.R_after (ok := (fun k_ => k_ ≠ gb156)) (by (with_reducible repeat (first | apply Kd.R_alloc | apply Kd.R_drewN | apply Kd.R_drew)); exact Kd.R_mono HO_5.out (fun _ hk => ⟨hk.2, hk.1⟩)) hg hat); have n1_ := Aside0.mk (blk_grown (g := gb141) (o := .cells #[.slice none 0 0] 26 (0, 0)) (by first | exact Grow.bk BK141.out | exact BK141.out) hg (by first | exact Kd.R_ne HO_7.out BK141.out (by decide) | exact fun e_ => (HO_7.out.1 gb141 e_.symm).2 rfl)); have n2_ := Aside0.mk (blk_grown (g := gb156) (o := .cells #[.string ((rd_T43 t149 x8_2).f0), .int .i64 ((rd_T43 t149 x8_2).f1), .bool ((rd_T43 t149 x8_2).f2), .string ((rd_T43 t149 x8_2).f3)] 43 (0, 0)) (by first | exact Grow.bk BK156.out | exact BK156.out) hg (Kd.R_away HO_7.out (fun _ hk => hk.2))); have n3_ := Aside0.mk (hb); have n4_ := Aside0.mk (ho); clear HO_5; clear BK141; clear BK156; clear HB; clear HO_7; have HO_5 := n0_; have BK141 := n1_; have BK156 := n2_; have HB := n3_; have HO161 := n4_; clear n0_ n1_ n2_ n3_ n4_; clear ho hb hg hat)))
         go_roundg kj31
         case measure => have := HK1.out; have := HK2.out; have := HJ17.out; have := HJ31.out; omega
         case rel => exact ⟨(y159), (wrap64 (x8_2 + 1)), (by first | rfl | (simp; done) | (simp [*]; done)), H', ⟨by have := HK1.out; have := HK2.out; have := HJ17.out; have := HJ31.out; omega⟩, ⟨by (with_reducible repeat (first | apply Kd.R_alloc | apply Kd.R_drewN | apply Kd.R_drew)); exact Kd.R_mono HO_5.out (fun _ hk => hk.2)⟩, ⟨by (with_reducible repeat (first | apply Kd.R_alloc | apply Kd.R_drewN | apply Kd.R_drew)); exact Kd.R_mono HO161.out (fun _ hk => hk.1)⟩, ⟨by first | exact Grow.bk BK141.out | exact BK141.out⟩, ⟨by repeat (first | (with_reducible first | exact HB.out | apply below_alloc | apply pw_below_drewN | apply below_drew1 | refine below_set ?_ GE141.out | refine below_set ?_ GE156.out) | exact HB.out)⟩⟩
end Go.Proofs.Ytjjccaepbfijeaa.QFnExactMergeRuns
