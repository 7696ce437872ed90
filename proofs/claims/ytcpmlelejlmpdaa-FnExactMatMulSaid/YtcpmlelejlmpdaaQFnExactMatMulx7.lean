-- A text of this session, printed by a program of its own (wip/tools: xpatch.py, xprint.sh, mkq.py). No condition.
import Derived.Test.YtcpmlelejlmpdaaQFnExactMatMulx0
import Derived.Test.YtcpmlelejlmpdaaQFnExactMatMulx1
import Derived.Test.YtcpmlelejlmpdaaQFnExactMatMulx2
import Derived.Test.YtcpmlelejlmpdaaQFnExactMatMulx3
import Derived.Test.YtcpmlelejlmpdaaQFnExactMatMulx5
import Derived.Test.YtcpmlelejlmpdaaQFnExactMatMulx6
namespace Go.Proofs.Ytcpmlelejlmpdaa.QFnExactMatMul
open Go.RowKit Go.Proofs.YtcpmlelejlmpdaaW.PrintWords Go.Proofs.YtcpmlelejlmpdaaW.PrintLast Go.Proofs.YtcpmlelejlmpdaaW.PrintMore
attribute [local go_sem] max2_int min2_int max_two min_two max_three min_three max_four min_four   -- for this text's walks alone
set_option linter.unusedVariables false
set_option linter.unusedSimpArgs false

/-! ### laws_FnExactMatMul: function 4 -/
def laws_FnExactMatMul.j0 : Nat → Bool → Int → Int → List Int → Int → Int → List Int → Int → Int → Int → List Int → Int → Int → Int → List Int → Option (Bool)
  | 0, _, _, _, _, _, _, _, _, _, _, _, _, _, _, _ => none
  | k + 1, x63, x167000, x167001, x167002, x168000, x168001, x168002, x187000, x187001, x187002, x187003, x206000, x206001, x206002, x206003 => if x63 = true then (some false) else ((laws_markMatrixResult.f k x206000 x206001 x206002 x206003 1).bind fun bt224 => ((laws_heldMatrixResult.f k x206000 x206001 x206002 bt224.2 1).bind fun t226 => (if t226 < 0 then (some false) else (if t226 = bt224.1 then ((laws_toMatrix.f k x167000 x167001 x167002).bind fun bt227 => ((laws_toMatrix.f k x168000 x168001 x168002).bind fun bt232 => ((impl_MatMul.f k bt227.1 bt227.2.1 bt227.2.2 bt232.1 bt232.2.1 bt232.2.2).bind fun bt237 => ((laws_eqMatrixResult.f k bt237.1 bt237.2.1 bt237.2.2.1 bt237.2.2.2 x187000 x187001 x187002 x187003).bind fun t244 => (if t244 = true then ((laws_heldMatrixResult.f k x206000 x206001 x206002 bt224.2 1).bind fun t245 => (if t245 < 0 then (some false) else (if t245 = bt224.1 then (some true) else (some false)))) else (some false)))))) else (some false)))))
def laws_FnExactMatMul.f (k : Nat) (a0_0 : Int) (a0_1 : Int) (l0_2 : List Int) (a1_0 : Int) (a1_1 : Int) (l1_2 : List Int) : Option (Bool) := (laws_szMatrix.f a0_0 a0_1 l0_2 1048576).bind fun t168 => (if t168 < 0 then (some true) else ((laws_szMatrix.f a1_0 a1_1 l1_2 t168).bind fun t169 => (if t169 < 0 then (some true) else ((laws_toMatrix.f k a0_0 a0_1 l0_2).bind fun bt170 => ((laws_toMatrix.f k a1_0 a1_1 l1_2).bind fun bt175 => ((spec_MatMul.f k bt170.1 bt170.2.1 bt170.2.2 bt175.1 bt175.2.1 bt175.2.2).bind fun bt180 => ((laws_toMatrix.f k a0_0 a0_1 l0_2).bind fun bt187 => ((laws_toMatrix.f k a1_0 a1_1 l1_2).bind fun bt193 => ((impl_MatMul.f k bt187.1 bt187.2.1 bt187.2.2 bt193.1 bt193.2.1 bt193.2.2).bind fun bt199 => ((laws_eqMatrixResult.f k bt199.1 bt199.2.1 bt199.2.2.1 bt199.2.2.2 bt180.1 bt180.2.1 bt180.2.2.1 bt180.2.2.2).bind fun t206 => (if t206 = true then ((laws_toMatrix.f k a0_0 a0_1 l0_2).bind fun bt207 => ((laws_eqMatrix.f k bt187.1 bt187.2.1 bt187.2.2 bt207.1 bt207.2.1 bt207.2.2).bind fun t212 => (if t212 = true then ((laws_toMatrix.f k a1_0 a1_1 l1_2).bind fun bt213 => ((laws_eqMatrix.f k bt193.1 bt193.2.1 bt193.2.2 bt213.1 bt213.2.1 bt213.2.2).bind fun t218 => (if t218 = true then ((laws_markMatrix.f k bt187.1 bt187.2.1 bt187.2.2 1).bind fun bt219 => ((laws_markMatrix.f k bt193.1 bt193.2.1 bt193.2.2 bt219.1).bind fun bt221 => (if bt221.1 < 0 then (laws_FnExactMatMul.j0 k true a0_0 a0_1 l0_2 a1_0 a1_1 l1_2 bt180.1 bt180.2.1 bt180.2.2.1 bt180.2.2.2 bt199.1 bt199.2.1 bt199.2.2.1 bt199.2.2.2) else ((laws_eqMatrixResult.f k bt199.1 bt199.2.1 bt199.2.2.1 bt199.2.2.2 bt180.1 bt180.2.1 bt180.2.2.1 bt180.2.2.2).bind fun t223 => (laws_FnExactMatMul.j0 k (!t223) a0_0 a0_1 l0_2 a1_0 a1_1 l1_2 bt180.1 bt180.2.1 bt180.2.2.1 bt180.2.2.2 bt199.1 bt199.2.1 bt199.2.2.1 bt199.2.2.2))))) else (some false)))) else (some false)))) else (some false))))))))))))
theorem laws_FnExactMatMul.mono_l : ∀ k, (∀ y0 y1 y2 y3 y4 y5 y6 y7 y8 y9 y10 y11 y12 y13 y14, LeO (laws_FnExactMatMul.j0 k y0 y1 y2 y3 y4 y5 y6 y7 y8 y9 y10 y11 y12 y13 y14) (laws_FnExactMatMul.j0 (k + 1) y0 y1 y2 y3 y4 y5 y6 y7 y8 y9 y10 y11 y12 y13 y14))
  | 0 => fun _ _ _ _ _ _ _ _ _ _ _ _ _ _ _ r h => by simp [laws_FnExactMatMul.j0] at h
  | k + 1 => by
    have ih0 := laws_FnExactMatMul.mono_l k
    · intro y0 y1 y2 y3 y4 y5 y6 y7 y8 y9 y10 y11 y12 y13 y14
      unfold laws_FnExactMatMul.j0
      repeat' first
      | (with_reducible exact ih0 _ _ _ _ _ _ _ _ _ _ _ _ _ _ _)
      | (with_reducible exact impl_MatMul.mono _ _ _ _ _ _ _)
      | (with_reducible exact laws_eqMatrix.mono _ _ _ _ _ _ _)
      | (with_reducible exact laws_eqMatrixResult.mono _ _ _ _ _ _ _ _ _)
      | (with_reducible exact laws_heldMatrixResult.mono _ _ _ _ _ _)
      | (with_reducible exact laws_markMatrix.mono _ _ _ _ _)
      | (with_reducible exact laws_markMatrixResult.mono _ _ _ _ _ _)
      | (with_reducible exact laws_toMatrix.mono _ _ _ _)
      | (with_reducible exact spec_MatMul.mono _ _ _ _ _ _ _)
      | (with_reducible exact LeO.refl _)
      | (with_reducible exact LeO.none _)
      | (with_reducible refine LeO.ite ?_ ?_)
      | (with_reducible refine LeO.bind ?_ (fun _ => ?_))
      | exact ih0 _ _ _ _ _ _ _ _ _ _ _ _ _ _ _
      | exact impl_MatMul.mono _ _ _ _ _ _ _
      | exact laws_eqMatrix.mono _ _ _ _ _ _ _
      | exact laws_eqMatrixResult.mono _ _ _ _ _ _ _ _ _
      | exact laws_heldMatrixResult.mono _ _ _ _ _ _
      | exact laws_markMatrix.mono _ _ _ _ _
      | exact laws_markMatrixResult.mono _ _ _ _ _ _
      | exact laws_toMatrix.mono _ _ _ _
      | exact spec_MatMul.mono _ _ _ _ _ _ _
      | exact LeO.none _
      | refine LeO.ite ?_ ?_
      | refine LeO.bind ?_ (fun _ => ?_)
theorem laws_FnExactMatMul.mono : ∀ a0 a1 a2 a3 a4 a5 k, LeO (laws_FnExactMatMul.f k a0 a1 a2 a3 a4 a5) (laws_FnExactMatMul.f (k + 1) a0 a1 a2 a3 a4 a5) := by
  intro a0 a1 a2 a3 a4 a5 k
  have ih0 := laws_FnExactMatMul.mono_l k
  unfold laws_FnExactMatMul.f
  repeat' first
      | (with_reducible exact ih0 _ _ _ _ _ _ _ _ _ _ _ _ _ _ _)
      | (with_reducible exact impl_MatMul.mono _ _ _ _ _ _ _)
      | (with_reducible exact laws_eqMatrix.mono _ _ _ _ _ _ _)
      | (with_reducible exact laws_eqMatrixResult.mono _ _ _ _ _ _ _ _ _)
      | (with_reducible exact laws_heldMatrixResult.mono _ _ _ _ _ _)
      | (with_reducible exact laws_markMatrix.mono _ _ _ _ _)
      | (with_reducible exact laws_markMatrixResult.mono _ _ _ _ _ _)
      | (with_reducible exact laws_toMatrix.mono _ _ _ _)
      | (with_reducible exact spec_MatMul.mono _ _ _ _ _ _ _)
      | (with_reducible exact LeO.refl _)
      | (with_reducible exact LeO.none _)
      | (with_reducible refine LeO.ite ?_ ?_)
      | (with_reducible refine LeO.bind ?_ (fun _ => ?_))
      | exact ih0 _ _ _ _ _ _ _ _ _ _ _ _ _ _ _
      | exact impl_MatMul.mono _ _ _ _ _ _ _
      | exact laws_eqMatrix.mono _ _ _ _ _ _ _
      | exact laws_eqMatrixResult.mono _ _ _ _ _ _ _ _ _
      | exact laws_heldMatrixResult.mono _ _ _ _ _ _
      | exact laws_markMatrix.mono _ _ _ _ _
      | exact laws_markMatrixResult.mono _ _ _ _ _ _
      | exact laws_toMatrix.mono _ _ _ _
      | exact spec_MatMul.mono _ _ _ _ _ _ _
      | exact LeO.none _
      | refine LeO.ite ?_ ?_
      | refine LeO.bind ?_ (fun _ => ?_)
set_option maxHeartbeats 8000000 in
set_option maxRecDepth 100000 in
theorem laws_FnExactMatMul.calls (k : Nat) (a0_0 : Int) (a0_1 : Int) (A0_2 : Option Addr) (c0_2 : Nat) (l0_2 : List Int) (a1_0 : Int) (a1_1 : Int) (A1_2 : Option Addr) (c1_2 : Nat) (l1_2 : List Int) (w : World) (hr0_2 : Kd.C (Kd.int .i64) w A0_2 l0_2.length l0_2) (hc0_2 : l0_2.length ≤ c0_2) (hr1_2 : Kd.C (Kd.int .i64) w A1_2 l1_2.length l1_2) (hc1_2 : l1_2.length ≤ c1_2) (h : laws_FnExactMatMul.f k a0_0 a0_1 l0_2 a1_0 a1_1 l1_2 = some true) :
  Calls Try.prog 4 #[.agg #[.int .i64 a0_0, .int .i64 a0_1, .slice A0_2 l0_2.length c0_2], .agg #[.int .i64 a1_0, .int .i64 a1_1, .slice A1_2 l1_2.length c1_2]] w fun e w' => e = .returned (.bool true) ∧ Below w.heap.size w w' := by
 have hu32 := Try.underlying32
 have hu36 := Try.underlying36
 have hu34 := Try.underlying34
 have HR0_2 := Aside0.mk hr0_2
 have HC0_2 := Aside0.mk hc0_2
 clear hr0_2 hc0_2
 have HR1_2 := Aside0.mk hr1_2
 have HC1_2 := Aside0.mk hc1_2
 clear hr1_2 hc1_2
 have HB := Aside0.mk (Below.refl w.heap.size w)
 have H : ((laws_szMatrix.f a0_0 a0_1 l0_2 1048576).bind fun t168 => (if t168 < 0 then (some true) else ((laws_szMatrix.f a1_0 a1_1 l1_2 t168).bind fun t169 => (if t169 < 0 then (some true) else ((laws_toMatrix.f k a0_0 a0_1 l0_2).bind fun bt170 => ((laws_toMatrix.f k a1_0 a1_1 l1_2).bind fun bt175 => ((spec_MatMul.f k bt170.1 bt170.2.1 bt170.2.2 bt175.1 bt175.2.1 bt175.2.2).bind fun bt180 => ((laws_toMatrix.f k a0_0 a0_1 l0_2).bind fun bt187 => ((laws_toMatrix.f k a1_0 a1_1 l1_2).bind fun bt193 => ((impl_MatMul.f k bt187.1 bt187.2.1 bt187.2.2 bt193.1 bt193.2.1 bt193.2.2).bind fun bt199 => ((laws_eqMatrixResult.f k bt199.1 bt199.2.1 bt199.2.2.1 bt199.2.2.2 bt180.1 bt180.2.1 bt180.2.2.1 bt180.2.2.2).bind fun t206 => (if t206 = true then ((laws_toMatrix.f k a0_0 a0_1 l0_2).bind fun bt207 => ((laws_eqMatrix.f k bt187.1 bt187.2.1 bt187.2.2 bt207.1 bt207.2.1 bt207.2.2).bind fun t212 => (if t212 = true then ((laws_toMatrix.f k a1_0 a1_1 l1_2).bind fun bt213 => ((laws_eqMatrix.f k bt193.1 bt193.2.1 bt193.2.2 bt213.1 bt213.2.1 bt213.2.2).bind fun t218 => (if t218 = true then ((laws_markMatrix.f k bt187.1 bt187.2.1 bt187.2.2 1).bind fun bt219 => ((laws_markMatrix.f k bt193.1 bt193.2.1 bt193.2.2 bt219.1).bind fun bt221 => (if bt221.1 < 0 then (laws_FnExactMatMul.j0 k true a0_0 a0_1 l0_2 a1_0 a1_1 l1_2 bt180.1 bt180.2.1 bt180.2.2.1 bt180.2.2.2 bt199.1 bt199.2.1 bt199.2.2.1 bt199.2.2.2) else ((laws_eqMatrixResult.f k bt199.1 bt199.2.1 bt199.2.2.1 bt199.2.2.2 bt180.1 bt180.2.1 bt180.2.2.1 bt180.2.2.2).bind fun t223 => (laws_FnExactMatMul.j0 k (!t223) a0_0 a0_1 l0_2 a1_0 a1_1 l1_2 bt180.1 bt180.2.1 bt180.2.2.1 bt180.2.2.2 bt199.1 bt199.2.1 bt199.2.2.1 bt199.2.2.2))))) else (some false)))) else (some false)))) else (some false))))))))))))) = some true := h
 clear h
 replace H := Option.bind_eq_some_iff.mp H
 obtain ⟨t168, A30, H⟩ := H
 (try dsimp only at H)
 have A3 := Aside0.mk A30
 clear A30
 by_cases c4 : t168 < 0
 ·rw [if_pos c4] at H
  have c4b0 : decide (t168 < 0) = true := decide_eq_true c4
  clear c4
  clear H
  go_enter Try.func4, Try.ntmps4
  go_wp2_with (first | ((with_reducible refine gate_dst (N := 2) rfl ?_); refine box_event ?hg (N := 2) ?hd (cs := #[.int .i64 a0_0, .int .i64 a0_1, .slice A0_2 l0_2.length c0_2]) (t := 32) ?hr ?_; (case hd => rfl); (case hg => rfl); (case hr => first | (go_simp; done) | (go_simp; rfl)); intro gb166 hg w5 hbox hb; have n0_ := Aside0.mk (below_step HB.out hb); have n1_ := Aside0.mk (hbox); have n2_ := Aside0.mk ((by rw [hg]; exact (below_size HB.out) : w.heap.size ≤ gb166)); have n3_ := Aside0.mk ((by rw [hg]; exact (below_size HB.out) : w.heap.size ≤ gb166)); clear HB; have HB := n0_; have BK166 := n1_; have GW166 := n2_; have GE166 := n3_; clear n0_ n1_ n2_ n3_; clear hb hbox hg) | ((with_reducible refine gate_dst (N := 3) rfl ?_); refine box_event ?hg (N := 3) ?hd (cs := #[.int .i64 a1_0, .int .i64 a1_1, .slice A1_2 l1_2.length c1_2]) (t := 32) ?hr ?_; (case hd => rfl); (case hg => rfl); (case hr => first | (go_simp; done) | (go_simp; rfl)); intro gb167 hg w6 hbox hb; have n0_ := Aside0.mk (blk_below BK166.out hb); have n1_ := Aside0.mk (below_step HB.out hb); have n2_ := Aside0.mk (hbox); have n3_ := Aside0.mk ((by rw [hg]; exact (below_size HB.out) : w.heap.size ≤ gb167)); have n4_ := Aside0.mk ((by rw [hg]; exact (below_size HB.out) : w.heap.size ≤ gb167)); have n5_ := Aside0.mk ((by rw [hg]; exact Nat.ne_of_lt (blk_lt BK166.out) : gb166 ≠ gb167)); have n6_ := Aside0.mk ((by rw [hg]; exact Nat.ne_of_gt (blk_lt BK166.out) : gb167 ≠ gb166)); clear BK166; clear HB; have BK166 := n0_; have HB := n1_; have BK167 := n2_; have GW167 := n3_; have GE167 := n4_; have NB166_167 := n5_; have NB167_166 := n6_; clear n0_ n1_ n2_ n3_ n4_ n5_ n6_; clear hb hbox hg; have hnb7 := NB166_167.out; have hnc7 := NB167_166.out; have hcz8_0 : w6.cell? ⟨gb166, 0, none⟩ = some (.int .i64 a0_0) := (blk_cell BK166.out 0).trans rfl; have hcz8_1 : w6.cell? ⟨gb166, 1, none⟩ = some (.int .i64 a0_1) := (blk_cell BK166.out 1).trans rfl; have hcz8_2 : w6.cell? ⟨gb166, 2, none⟩ = some (.slice A0_2 l0_2.length c0_2) := (blk_cell BK166.out 2).trans rfl; have hfz8_0 := blk_frozen BK166.out 0; have hfz8_1 := blk_frozen BK166.out 1; have hfz8_2 := blk_frozen BK166.out 2) | ((with_reducible refine gate_callee (f := 17) rfl ?_); refine goesL_ (some 16) rfl rfl Try.func17 (by kernel_rfl) rfl #[.agg #[.int .i64 a0_0, .int .i64 a0_1, .slice A0_2 l0_2.length c0_2], .int .i64 1048576] rfl (by (try simp only [List.map_toArray, List.map_cons, List.map_nil]); first | done | rfl) ?_; (with_reducible refine (laws_szMatrix.calls a0_0 a0_1 _ _ l0_2 1048576 t168 _ ?side1 ?side2 A3.out).mono ?_); (case side1 => repeat (first | exact (Kd.C_below HR0_2.out HB.out) | (with_reducible refine Kd.C_alloc ?_ _) | (with_reducible refine Kd.C_drewN ?_ _) | (with_reducible refine Kd.C_drew ?_))); (case side2 => exact HC0_2.out); rintro e w9 ⟨rfl, hb⟩; refine ⟨_, rfl, ?_⟩; have n0_ := Aside0.mk (blk_below BK166.out hb); have n1_ := Aside0.mk (blk_below BK167.out hb); have n2_ := Aside0.mk (below_step HB.out hb); clear BK166; clear BK167; clear HB; have BK166 := n0_; have BK167 := n1_; have HB := n2_; clear n0_ n1_ n2_; (try clear hb); (try clear hb2); (try clear hk); (try clear hi)))
  go_ret
  exact ⟨by first | rfl | (simp [errW_none, errW_some] <;> rfl) | (simp [*, errW_none, errW_some] <;> rfl), by repeat (first | (with_reducible first | exact HB.out | apply below_alloc | apply pw_below_drewN | apply below_drew1 | refine below_set ?_ GE166.out | refine below_set ?_ GE167.out) | exact HB.out)⟩
 ·rw [if_neg c4] at H
  have c4b0 : decide (t168 < 0) = false := decide_eq_false c4
  clear c4
  replace H := Option.bind_eq_some_iff.mp H
  obtain ⟨t169, A100, H⟩ := H
  (try dsimp only at H)
  have A10 := Aside0.mk A100
  clear A100
  by_cases c11 : t169 < 0
  ·rw [if_pos c11] at H
   have c11b0 : decide (t169 < 0) = true := decide_eq_true c11
   clear c11
   clear H
   go_enter Try.func4, Try.ntmps4
   go_wp2_with (first | ((with_reducible refine gate_dst (N := 2) rfl ?_); refine box_event ?hg (N := 2) ?hd (cs := #[.int .i64 a0_0, .int .i64 a0_1, .slice A0_2 l0_2.length c0_2]) (t := 32) ?hr ?_; (case hd => rfl); (case hg => rfl); (case hr => first | (go_simp; done) | (go_simp; rfl)); intro gb166 hg w12 hbox hb; have n0_ := Aside0.mk (below_step HB.out hb); have n1_ := Aside0.mk (hbox); have n2_ := Aside0.mk ((by rw [hg]; exact (below_size HB.out) : w.heap.size ≤ gb166)); have n3_ := Aside0.mk ((by rw [hg]; exact (below_size HB.out) : w.heap.size ≤ gb166)); clear HB; have HB := n0_; have BK166 := n1_; have GW166 := n2_; have GE166 := n3_; clear n0_ n1_ n2_ n3_; clear hb hbox hg) | ((with_reducible refine gate_dst (N := 3) rfl ?_); refine box_event ?hg (N := 3) ?hd (cs := #[.int .i64 a1_0, .int .i64 a1_1, .slice A1_2 l1_2.length c1_2]) (t := 32) ?hr ?_; (case hd => rfl); (case hg => rfl); (case hr => first | (go_simp; done) | (go_simp; rfl)); intro gb167 hg w13 hbox hb; have n0_ := Aside0.mk (blk_below BK166.out hb); have n1_ := Aside0.mk (below_step HB.out hb); have n2_ := Aside0.mk (hbox); have n3_ := Aside0.mk ((by rw [hg]; exact (below_size HB.out) : w.heap.size ≤ gb167)); have n4_ := Aside0.mk ((by rw [hg]; exact (below_size HB.out) : w.heap.size ≤ gb167)); have n5_ := Aside0.mk ((by rw [hg]; exact Nat.ne_of_lt (blk_lt BK166.out) : gb166 ≠ gb167)); have n6_ := Aside0.mk ((by rw [hg]; exact Nat.ne_of_gt (blk_lt BK166.out) : gb167 ≠ gb166)); clear BK166; clear HB; have BK166 := n0_; have HB := n1_; have BK167 := n2_; have GW167 := n3_; have GE167 := n4_; have NB166_167 := n5_; have NB167_166 := n6_; clear n0_ n1_ n2_ n3_ n4_ n5_ n6_; clear hb hbox hg; have hnb14 := NB166_167.out; have hnc14 := NB167_166.out; have hcz15_0 : w13.cell? ⟨gb166, 0, none⟩ = some (.int .i64 a0_0) := (blk_cell BK166.out 0).trans rfl; have hcz15_1 : w13.cell? ⟨gb166, 1, none⟩ = some (.int .i64 a0_1) := (blk_cell BK166.out 1).trans rfl; have hcz15_2 : w13.cell? ⟨gb166, 2, none⟩ = some (.slice A0_2 l0_2.length c0_2) := (blk_cell BK166.out 2).trans rfl; have hfz15_0 := blk_frozen BK166.out 0; have hfz15_1 := blk_frozen BK166.out 1; have hfz15_2 := blk_frozen BK166.out 2) | ((with_reducible refine gate_callee (f := 17) rfl ?_); refine goesL_ (some 16) rfl rfl Try.func17 (by kernel_rfl) rfl #[.agg #[.int .i64 a0_0, .int .i64 a0_1, .slice A0_2 l0_2.length c0_2], .int .i64 1048576] rfl (by (try simp only [List.map_toArray, List.map_cons, List.map_nil]); first | done | rfl) ?_; (with_reducible refine (laws_szMatrix.calls a0_0 a0_1 _ _ l0_2 1048576 t168 _ ?side1 ?side2 A3.out).mono ?_); (case side1 => repeat (first | exact (Kd.C_below HR0_2.out HB.out) | (with_reducible refine Kd.C_alloc ?_ _) | (with_reducible refine Kd.C_drewN ?_ _) | (with_reducible refine Kd.C_drew ?_))); (case side2 => exact HC0_2.out); rintro e w16 ⟨rfl, hb⟩; refine ⟨_, rfl, ?_⟩; have n0_ := Aside0.mk (blk_below BK166.out hb); have n1_ := Aside0.mk (blk_below BK167.out hb); have n2_ := Aside0.mk (below_step HB.out hb); clear BK166; clear BK167; clear HB; have BK166 := n0_; have BK167 := n1_; have HB := n2_; clear n0_ n1_ n2_; (try clear hb); (try clear hb2); (try clear hk); (try clear hi); have hcz17_0 : w16.cell? ⟨gb167, 0, none⟩ = some (.int .i64 a1_0) := (blk_cell BK167.out 0).trans rfl; have hcz17_1 : w16.cell? ⟨gb167, 1, none⟩ = some (.int .i64 a1_1) := (blk_cell BK167.out 1).trans rfl; have hcz17_2 : w16.cell? ⟨gb167, 2, none⟩ = some (.slice A1_2 l1_2.length c1_2) := (blk_cell BK167.out 2).trans rfl; have hfz17_0 := blk_frozen BK167.out 0; have hfz17_1 := blk_frozen BK167.out 1; have hfz17_2 := blk_frozen BK167.out 2) | ((with_reducible refine gate_callee (f := 17) rfl ?_); refine goesL_ (some 21) rfl rfl Try.func17 (by kernel_rfl) rfl #[.agg #[.int .i64 a1_0, .int .i64 a1_1, .slice A1_2 l1_2.length c1_2], .int .i64 t168] rfl (by (try simp only [List.map_toArray, List.map_cons, List.map_nil]); first | done | rfl) ?_; (with_reducible refine (laws_szMatrix.calls a1_0 a1_1 _ _ l1_2 t168 t169 _ ?side1 ?side2 A10.out).mono ?_); (case side1 => repeat (first | exact (Kd.C_below HR1_2.out HB.out) | (with_reducible refine Kd.C_alloc ?_ _) | (with_reducible refine Kd.C_drewN ?_ _) | (with_reducible refine Kd.C_drew ?_))); (case side2 => exact HC1_2.out); rintro e w18 ⟨rfl, hb⟩; refine ⟨_, rfl, ?_⟩; have n0_ := Aside0.mk (blk_below BK166.out hb); have n1_ := Aside0.mk (blk_below BK167.out hb); have n2_ := Aside0.mk (below_step HB.out hb); clear BK166; clear BK167; clear HB; have BK166 := n0_; have BK167 := n1_; have HB := n2_; clear n0_ n1_ n2_; (try clear hb); (try clear hb2); (try clear hk); (try clear hi)))
   go_ret
   exact ⟨by first | rfl | (simp [errW_none, errW_some] <;> rfl) | (simp [*, errW_none, errW_some] <;> rfl), by repeat (first | (with_reducible first | exact HB.out | apply below_alloc | apply pw_below_drewN | apply below_drew1 | refine below_set ?_ GE166.out | refine below_set ?_ GE167.out) | exact HB.out)⟩
  ·rw [if_neg c11] at H
   have c11b0 : decide (t169 < 0) = false := decide_eq_false c11
   clear c11
   replace H := Option.bind_eq_some_iff.mp H
   obtain ⟨⟨t170, t171, t172⟩, A190, H⟩ := H
   (try dsimp only at H)
   have A19 := Aside0.mk A190
   clear A190
   replace H := Option.bind_eq_some_iff.mp H
   obtain ⟨⟨t175, t176, t177⟩, A200, H⟩ := H
   (try dsimp only at H)
   have A20 := Aside0.mk A200
   clear A200
   replace H := Option.bind_eq_some_iff.mp H
   obtain ⟨⟨t180, t181, t182, t183⟩, A210, H⟩ := H
   (try dsimp only at H)
   have A21 := Aside0.mk A210
   clear A210
   replace H := Option.bind_eq_some_iff.mp H
   obtain ⟨⟨t187, t188, t189⟩, A220, H⟩ := H
   (try dsimp only at H)
   have A22 := Aside0.mk A220
   clear A220
   replace H := Option.bind_eq_some_iff.mp H
   obtain ⟨⟨t193, t194, t195⟩, A230, H⟩ := H
   (try dsimp only at H)
   have A23 := Aside0.mk A230
   clear A230
   replace H := Option.bind_eq_some_iff.mp H
   obtain ⟨⟨t199, t200, t201, t202⟩, A240, H⟩ := H
   (try dsimp only at H)
   have A24 := Aside0.mk A240
   clear A240
   replace H := Option.bind_eq_some_iff.mp H
   obtain ⟨t206, A250, H⟩ := H
   (try dsimp only at H)
   have A25 := Aside0.mk A250
   clear A250
   by_cases c26 : t206 = true
   ·subst c26
    have H1 : ((laws_toMatrix.f k a0_0 a0_1 l0_2).bind fun bt207 => ((laws_eqMatrix.f k t187 t188 t189 bt207.1 bt207.2.1 bt207.2.2).bind fun t212 => (if t212 = true then ((laws_toMatrix.f k a1_0 a1_1 l1_2).bind fun bt213 => ((laws_eqMatrix.f k t193 t194 t195 bt213.1 bt213.2.1 bt213.2.2).bind fun t218 => (if t218 = true then ((laws_markMatrix.f k t187 t188 t189 1).bind fun bt219 => ((laws_markMatrix.f k t193 t194 t195 bt219.1).bind fun bt221 => (if bt221.1 < 0 then (laws_FnExactMatMul.j0 k true a0_0 a0_1 l0_2 a1_0 a1_1 l1_2 t180 t181 t182 t183 t199 t200 t201 t202) else ((laws_eqMatrixResult.f k t199 t200 t201 t202 t180 t181 t182 t183).bind fun t223 => (laws_FnExactMatMul.j0 k (!t223) a0_0 a0_1 l0_2 a1_0 a1_1 l1_2 t180 t181 t182 t183 t199 t200 t201 t202))))) else (some false)))) else (some false)))) = some true := by rw [if_pos rfl] at H; exact H
    clear H
    have H := H1
    clear H1
    replace H := Option.bind_eq_some_iff.mp H
    obtain ⟨⟨t207, t208, t209⟩, A270, H⟩ := H
    (try dsimp only at H)
    have A27 := Aside0.mk A270
    clear A270
    replace H := Option.bind_eq_some_iff.mp H
    obtain ⟨t212, A280, H⟩ := H
    (try dsimp only at H)
    have A28 := Aside0.mk A280
    clear A280
    by_cases c29 : t212 = true
    ·subst c29
     have H1 : ((laws_toMatrix.f k a1_0 a1_1 l1_2).bind fun bt213 => ((laws_eqMatrix.f k t193 t194 t195 bt213.1 bt213.2.1 bt213.2.2).bind fun t218 => (if t218 = true then ((laws_markMatrix.f k t187 t188 t189 1).bind fun bt219 => ((laws_markMatrix.f k t193 t194 t195 bt219.1).bind fun bt221 => (if bt221.1 < 0 then (laws_FnExactMatMul.j0 k true a0_0 a0_1 l0_2 a1_0 a1_1 l1_2 t180 t181 t182 t183 t199 t200 t201 t202) else ((laws_eqMatrixResult.f k t199 t200 t201 t202 t180 t181 t182 t183).bind fun t223 => (laws_FnExactMatMul.j0 k (!t223) a0_0 a0_1 l0_2 a1_0 a1_1 l1_2 t180 t181 t182 t183 t199 t200 t201 t202))))) else (some false)))) = some true := by rw [if_pos rfl] at H; exact H
     clear H
     have H := H1
     clear H1
     replace H := Option.bind_eq_some_iff.mp H
     obtain ⟨⟨t213, t214, t215⟩, A300, H⟩ := H
     (try dsimp only at H)
     have A30 := Aside0.mk A300
     clear A300
     replace H := Option.bind_eq_some_iff.mp H
     obtain ⟨t218, A310, H⟩ := H
     (try dsimp only at H)
     have A31 := Aside0.mk A310
     clear A310
     by_cases c32 : t218 = true
     ·subst c32
      have H1 : ((laws_markMatrix.f k t187 t188 t189 1).bind fun bt219 => ((laws_markMatrix.f k t193 t194 t195 bt219.1).bind fun bt221 => (if bt221.1 < 0 then (laws_FnExactMatMul.j0 k true a0_0 a0_1 l0_2 a1_0 a1_1 l1_2 t180 t181 t182 t183 t199 t200 t201 t202) else ((laws_eqMatrixResult.f k t199 t200 t201 t202 t180 t181 t182 t183).bind fun t223 => (laws_FnExactMatMul.j0 k (!t223) a0_0 a0_1 l0_2 a1_0 a1_1 l1_2 t180 t181 t182 t183 t199 t200 t201 t202))))) = some true := by rw [if_pos rfl] at H; exact H
      clear H
      have H := H1
      clear H1
      replace H := Option.bind_eq_some_iff.mp H
      obtain ⟨⟨t219, t220⟩, A330, H⟩ := H
      (try dsimp only at H)
      have A33 := Aside0.mk A330
      clear A330
      replace H := Option.bind_eq_some_iff.mp H
      obtain ⟨⟨t221, t222⟩, A340, H⟩ := H
      (try dsimp only at H)
      have A34 := Aside0.mk A340
      clear A340
      have HC35 := Aside0.mk H
      clear H
      go_enter Try.func4, Try.ntmps4
      try go_wp2_with (first | ((with_reducible refine gate_dst (N := 2) rfl ?_); refine box_event ?hg (N := 2) ?hd (cs := #[.int .i64 a0_0, .int .i64 a0_1, .slice A0_2 l0_2.length c0_2]) (t := 32) ?hr ?_; (case hd => rfl); (case hg => rfl); (case hr => first | (go_simp; done) | (go_simp; rfl)); intro gb166 hg w36 hbox hb; have n0_ := Aside0.mk (below_step HB.out hb); have n1_ := Aside0.mk (hbox); have n2_ := Aside0.mk ((by rw [hg]; exact (below_size HB.out) : w.heap.size ≤ gb166)); have n3_ := Aside0.mk ((by rw [hg]; exact (below_size HB.out) : w.heap.size ≤ gb166)); clear HB; have HB := n0_; have BK166 := n1_; have GW166 := n2_; have GE166 := n3_; clear n0_ n1_ n2_ n3_; clear hb hbox hg) | ((with_reducible refine gate_dst (N := 3) rfl ?_); refine box_event ?hg (N := 3) ?hd (cs := #[.int .i64 a1_0, .int .i64 a1_1, .slice A1_2 l1_2.length c1_2]) (t := 32) ?hr ?_; (case hd => rfl); (case hg => rfl); (case hr => first | (go_simp; done) | (go_simp; rfl)); intro gb167 hg w37 hbox hb; have n0_ := Aside0.mk (blk_below BK166.out hb); have n1_ := Aside0.mk (below_step HB.out hb); have n2_ := Aside0.mk (hbox); have n3_ := Aside0.mk ((by rw [hg]; exact (below_size HB.out) : w.heap.size ≤ gb167)); have n4_ := Aside0.mk ((by rw [hg]; exact (below_size HB.out) : w.heap.size ≤ gb167)); have n5_ := Aside0.mk ((by rw [hg]; exact Nat.ne_of_lt (blk_lt BK166.out) : gb166 ≠ gb167)); have n6_ := Aside0.mk ((by rw [hg]; exact Nat.ne_of_gt (blk_lt BK166.out) : gb167 ≠ gb166)); clear BK166; clear HB; have BK166 := n0_; have HB := n1_; have BK167 := n2_; have GW167 := n3_; have GE167 := n4_; have NB166_167 := n5_; have NB167_166 := n6_; clear n0_ n1_ n2_ n3_ n4_ n5_ n6_; clear hb hbox hg; have hnb38 := NB166_167.out; have hnc38 := NB167_166.out; have hcz39_0 : w37.cell? ⟨gb166, 0, none⟩ = some (.int .i64 a0_0) := (blk_cell BK166.out 0).trans rfl; have hcz39_1 : w37.cell? ⟨gb166, 1, none⟩ = some (.int .i64 a0_1) := (blk_cell BK166.out 1).trans rfl; have hcz39_2 : w37.cell? ⟨gb166, 2, none⟩ = some (.slice A0_2 l0_2.length c0_2) := (blk_cell BK166.out 2).trans rfl; have hfz39_0 := blk_frozen BK166.out 0; have hfz39_1 := blk_frozen BK166.out 1; have hfz39_2 := blk_frozen BK166.out 2) | ((with_reducible refine gate_callee (f := 17) rfl ?_); refine goesL_ (some 16) rfl rfl Try.func17 (by kernel_rfl) rfl #[.agg #[.int .i64 a0_0, .int .i64 a0_1, .slice A0_2 l0_2.length c0_2], .int .i64 1048576] rfl (by (try simp only [List.map_toArray, List.map_cons, List.map_nil]); first | done | rfl) ?_; (with_reducible refine (laws_szMatrix.calls a0_0 a0_1 _ _ l0_2 1048576 t168 _ ?side1 ?side2 A3.out).mono ?_); (case side1 => repeat (first | exact (Kd.C_below HR0_2.out HB.out) | (with_reducible refine Kd.C_alloc ?_ _) | (with_reducible refine Kd.C_drewN ?_ _) | (with_reducible refine Kd.C_drew ?_))); (case side2 => exact HC0_2.out); rintro e w40 ⟨rfl, hb⟩; refine ⟨_, rfl, ?_⟩; have n0_ := Aside0.mk (blk_below BK166.out hb); have n1_ := Aside0.mk (blk_below BK167.out hb); have n2_ := Aside0.mk (below_step HB.out hb); clear BK166; clear BK167; clear HB; have BK166 := n0_; have BK167 := n1_; have HB := n2_; clear n0_ n1_ n2_; (try clear hb); (try clear hb2); (try clear hk); (try clear hi); have hcz41_0 : w40.cell? ⟨gb167, 0, none⟩ = some (.int .i64 a1_0) := (blk_cell BK167.out 0).trans rfl; have hcz41_1 : w40.cell? ⟨gb167, 1, none⟩ = some (.int .i64 a1_1) := (blk_cell BK167.out 1).trans rfl; have hcz41_2 : w40.cell? ⟨gb167, 2, none⟩ = some (.slice A1_2 l1_2.length c1_2) := (blk_cell BK167.out 2).trans rfl; have hfz41_0 := blk_frozen BK167.out 0; have hfz41_1 := blk_frozen BK167.out 1; have hfz41_2 := blk_frozen BK167.out 2) | ((with_reducible refine gate_callee (f := 17) rfl ?_); refine goesL_ (some 21) rfl rfl Try.func17 (by kernel_rfl) rfl #[.agg #[.int .i64 a1_0, .int .i64 a1_1, .slice A1_2 l1_2.length c1_2], .int .i64 t168] rfl (by (try simp only [List.map_toArray, List.map_cons, List.map_nil]); first | done | rfl) ?_; (with_reducible refine (laws_szMatrix.calls a1_0 a1_1 _ _ l1_2 t168 t169 _ ?side1 ?side2 A10.out).mono ?_); (case side1 => repeat (first | exact (Kd.C_below HR1_2.out HB.out) | (with_reducible refine Kd.C_alloc ?_ _) | (with_reducible refine Kd.C_drewN ?_ _) | (with_reducible refine Kd.C_drew ?_))); (case side2 => exact HC1_2.out); rintro e w42 ⟨rfl, hb⟩; refine ⟨_, rfl, ?_⟩; have n0_ := Aside0.mk (blk_below BK166.out hb); have n1_ := Aside0.mk (blk_below BK167.out hb); have n2_ := Aside0.mk (below_step HB.out hb); clear BK166; clear BK167; clear HB; have BK166 := n0_; have BK167 := n1_; have HB := n2_; clear n0_ n1_ n2_; (try clear hb); (try clear hb2); (try clear hk); (try clear hi)))
      have n0_ := Aside0.mk (blk_drew BK166.out)
      have n1_ := Aside0.mk (blk_drew BK167.out)
      have n2_ := Aside0.mk (below_drew1 HB.out)
      clear BK166
      clear BK167
      clear HB
      have BK166 := n0_
      have BK167 := n1_
      have HB := n2_
      clear n0_ n1_ n2_
      refine start_ (n := 7) (S := fun w' => w'.cell? ⟨gb166, 0, none⟩ = some (.int .i64 a0_0) ∧ w'.cell? ⟨gb166, 1, none⟩ = some (.int .i64 a0_1) ∧ w'.cell? ⟨gb166, 2, none⟩ = some (.slice A0_2 l0_2.length c0_2) ∧ w'.cell? ⟨gb167, 0, none⟩ = some (.int .i64 a1_0) ∧ w'.cell? ⟨gb167, 1, none⟩ = some (.int .i64 a1_1) ∧ w'.cell? ⟨gb167, 2, none⟩ = some (.slice A1_2 l1_2.length c1_2)) (ds := []) #[false, false, false, false, false, false, false] (by kernel_rfl) rfl rfl ⟨(blk_cell BK166.out 0).trans rfl, (blk_cell BK166.out 1).trans rfl, (blk_cell BK166.out 2).trans rfl, (blk_cell BK167.out 0).trans rfl, (blk_cell BK167.out 1).trans rfl, (blk_cell BK167.out 2).trans rfl⟩ (fun hHeld => ?_)
      generalize w42.drew = w43 at BK166 BK167 HB hHeld ⊢
      refine take_ (i := 0) (N := some 24) (v := ?_) (a' := ?_) #[true, false, false, false, false, false, false] rfl rfl (by kernel_rfl) (fun _ _ _ h => h) (Or.inl ⟨by rfl, ?_⟩) hHeld ?_ ?_
      rotate_left
      ·rintro w' ⟨s0, s1, s2, s3, s4, s5⟩
       go_simp
       with_reducible rfl
      rotate_left
      ·simp only [Act.put, List.setIfInBounds_toArray, List.set_cons_zero, List.set_cons_succ, i64_w, i32_w]
       rfl
      refine take_ (i := 2) (N := some 26) (v := ?_) (a' := ?_) #[true, false, true, false, false, false, false] rfl rfl (by kernel_rfl) (fun _ _ _ h => h) (Or.inl ⟨by rfl, ?_⟩) hHeld ?_ ?_
      rotate_left
      ·rintro w' ⟨s0, s1, s2, s3, s4, s5⟩
       go_simp
       with_reducible rfl
      rotate_left
      ·simp only [Act.put, List.setIfInBounds_toArray, List.set_cons_zero, List.set_cons_succ, i64_w, i32_w]
       rfl
      refine join_ (σ := Value × Value × Value × Nat) 1 #[true, true, true, true, true, true, false] (fun s_ => [(25, .agg #[.int .i64 t170, .int .i64 t171, s_.1]), (27, .agg #[.int .i64 t175, .int .i64 t176, s_.2.1]), (28, .agg #[.int .i64 t180, .int .i64 t181, .int .i64 t182, s_.2.2.1]), (6, .pointer (some ⟨s_.2.2.2, 0, none⟩))]) (fun s_ w' => (w'.cell? ⟨gb166, 0, none⟩ = some (.int .i64 a0_0) ∧ w'.cell? ⟨gb166, 1, none⟩ = some (.int .i64 a0_1) ∧ w'.cell? ⟨gb166, 2, none⟩ = some (.slice A0_2 l0_2.length c0_2) ∧ w'.cell? ⟨gb167, 0, none⟩ = some (.int .i64 a1_0) ∧ w'.cell? ⟨gb167, 1, none⟩ = some (.int .i64 a1_1) ∧ w'.cell? ⟨gb167, 2, none⟩ = some (.slice A1_2 l1_2.length c1_2)) ∧ (Kd.R (Kd.int .i64) 2 w' w.heap.size (fun k_ => some k_ ≠ (s_.2.1 : Value).ownBlock ∧ some k_ ≠ (s_.2.2.1 : Value).ownBlock) s_.1 t172) ∧ (Kd.R (Kd.int .i64) 2 w' w.heap.size (fun k_ => some k_ ≠ (s_.1 : Value).ownBlock ∧ some k_ ≠ (s_.2.2.1 : Value).ownBlock) s_.2.1 t177) ∧ (Kd.R (Kd.int .i64) 2 w' w.heap.size (fun k_ => some k_ ≠ (s_.1 : Value).ownBlock ∧ some k_ ≠ (s_.2.1 : Value).ownBlock) s_.2.2.1 t183) ∧ (w'.heap[gb166]? = some (.cells #[.int .i64 a0_0, .int .i64 a0_1, .slice A0_2 l0_2.length c0_2] 32 (0, 0))) ∧ (w'.heap[gb167]? = some (.cells #[.int .i64 a1_0, .int .i64 a1_1, .slice A1_2 l1_2.length c1_2] 32 (0, 0))) ∧ (w'.heap[s_.2.2.2]? = some (.cells #[.int .i64 0, .int .i64 0, .int .i64 0, .slice none 0 0] 36 (0, 0))) ∧ (w.heap.size ≤ s_.2.2.2) ∧ (w.heap.size ≤ s_.2.2.2) ∧ (gb166 ≠ s_.2.2.2) ∧ (s_.2.2.2 ≠ gb166) ∧ (gb167 ≠ s_.2.2.2) ∧ (s_.2.2.2 ≠ gb167) ∧ (Below w.heap.size w w')) ?_ ?_
      rotate_left
      ·intro hCont
       refine two_ (i := 1) (j := 5) (Ni := some 25) (Nj := some 6) #[true, true, true, false, false, false, false] #[true, false, true, false, false, true, false] rfl rfl rfl rfl (by kernel_rfl) (by decide) (by decide) (fun K hK => ?_) (fun K hK => ?_)
       ·skip
        refine goes_ Try.func19 (by kernel_rfl) rfl #[.agg #[.int .i64 a0_0, .int .i64 a0_1, .slice A0_2 l0_2.length c0_2]] (by rfl) rfl rfl (by (try simp only [List.map_toArray, List.map_cons, List.map_nil]); first | done | rfl) ?_
        with_reducible refine (laws_toMatrix.calls k a0_0 a0_1 _ _ l0_2 t170 t171 t172 _ ?side1 ?side2 A19.out).mono ?_
        (case side1 => repeat (first | exact (Kd.C_below HR0_2.out HB.out) | (with_reducible refine Kd.C_alloc ?_ _) | (with_reducible refine Kd.C_drewN ?_ _) | (with_reducible refine Kd.C_drew ?_)))
        (case side2 => exact HC0_2.out)
        rintro e w44 ⟨v173, rfl, ho0, hb⟩
        refine ⟨_, rfl, ?_⟩
        have n0_ := Aside0.mk (Kd.R_lower ho0 (below_size HB.out))
        have n1_ := Aside0.mk (blk_below BK166.out hb)
        have n2_ := Aside0.mk (blk_below BK167.out hb)
        have n3_ := Aside0.mk (below_step HB.out hb)
        clear BK166
        clear BK167
        clear HB
        have HO174 := n0_
        have BK166 := n1_
        have BK167 := n2_
        have HB := n3_
        clear n0_ n1_ n2_ n3_
        (try clear hb)
        (try clear hb2)
        (try clear hk)
        (try clear hi)
        (try clear ho0)
        refine hK.out _ _ ⟨(blk_cell BK166.out 0).trans rfl, (blk_cell BK166.out 1).trans rfl, (blk_cell BK166.out 2).trans rfl, (blk_cell BK167.out 0).trans rfl, (blk_cell BK167.out 1).trans rfl, (blk_cell BK167.out 2).trans rfl⟩ (fun hHeld => ?_)
        clear hK K
        refine norm_ (a' := ?_) ?_ ?_
        rotate_left
        ·show Act.put _ (some 25) _ = _
         simp only [Act.put, List.setIfInBounds_toArray, List.set_cons_zero, List.set_cons_succ, i64_w, i32_w]
         rfl
        refine two_ (i := 3) (j := 5) (Ni := some 27) (Nj := some 6) #[true, true, true, true, false, false, false] #[true, true, true, false, false, true, false] rfl rfl rfl rfl (by kernel_rfl) (by decide) (by decide) (fun K hK => ?_) (fun K hK => ?_)
        ·skip
         refine goes_ Try.func19 (by kernel_rfl) rfl #[.agg #[.int .i64 a1_0, .int .i64 a1_1, .slice A1_2 l1_2.length c1_2]] (by rfl) rfl rfl (by (try simp only [List.map_toArray, List.map_cons, List.map_nil]); first | done | rfl) ?_
         with_reducible refine (laws_toMatrix.calls k a1_0 a1_1 _ _ l1_2 t175 t176 t177 _ ?side1 ?side2 A20.out).mono ?_
         (case side1 => repeat (first | exact (Kd.C_below HR1_2.out HB.out) | (with_reducible refine Kd.C_alloc ?_ _) | (with_reducible refine Kd.C_drewN ?_ _) | (with_reducible refine Kd.C_drew ?_)))
         (case side2 => exact HC1_2.out)
         rintro e w45 ⟨v178, rfl, ho0, hb⟩
         refine ⟨_, rfl, ?_⟩
         have n0_ := Aside0.mk (Kd.R_elder' HO174.out (Kd.R_base ho0) hb)
         have n1_ := Aside0.mk (Kd.R_lower (Kd.R_new' ho0 (Kd.R_lt HO174.out)) (below_size HB.out))
         have n2_ := Aside0.mk (blk_below BK166.out hb)
         have n3_ := Aside0.mk (blk_below BK167.out hb)
         have n4_ := Aside0.mk (below_step HB.out hb)
         clear HO174
         clear BK166
         clear BK167
         clear HB
         have HO174 := n0_
         have HO179 := n1_
         have BK166 := n2_
         have BK167 := n3_
         have HB := n4_
         clear n0_ n1_ n2_ n3_ n4_
         (try clear hb)
         (try clear hb2)
         (try clear hk)
         (try clear hi)
         (try clear ho0)
         obtain ⟨Ao46, co46, eo46⟩ := Kd.R_slice HO174.out
         (first | subst eo46 | (injection eo46 with f1_ f2_ f3_; have f4_ := f1_.symm; have f5_ := f3_.symm; clear f1_ f2_ f3_; subst f4_; subst f5_))
         obtain ⟨Ao47, co47, eo47⟩ := Kd.R_slice HO179.out
         (first | subst eo47 | (injection eo47 with f1_ f2_ f3_; have f4_ := f1_.symm; have f5_ := f3_.symm; clear f1_ f2_ f3_; subst f4_; subst f5_))
         refine hK.out _ _ ⟨(blk_cell BK166.out 0).trans rfl, (blk_cell BK166.out 1).trans rfl, (blk_cell BK166.out 2).trans rfl, (blk_cell BK167.out 0).trans rfl, (blk_cell BK167.out 1).trans rfl, (blk_cell BK167.out 2).trans rfl⟩ (fun hHeld => ?_)
         clear hK K
         refine norm_ (a' := ?_) ?_ ?_
         rotate_left
         ·show Act.put _ (some 27) _ = _
          simp only [Act.put, List.setIfInBounds_toArray, List.set_cons_zero, List.set_cons_succ, i64_w, i32_w]
          rfl
         refine two_ (i := 4) (j := 5) (Ni := some 28) (Nj := some 6) #[true, true, true, true, true, false, false] #[true, true, true, true, false, true, false] rfl rfl rfl rfl (by kernel_rfl) (by decide) (by decide) (fun K hK => ?_) (fun K hK => ?_)
         ·skip
          refine goes_ Try.func18 (by kernel_rfl) rfl #[.agg #[.int .i64 t170, .int .i64 t171, .slice Ao46 t172.length co46], .agg #[.int .i64 t175, .int .i64 t176, .slice Ao47 t177.length co47]] (by rfl) rfl rfl (by (try simp only [List.map_toArray, List.map_cons, List.map_nil]); first | done | rfl) ?_
          with_reducible refine (spec_MatMul.calls k t170 t171 _ _ t172 t175 t176 _ _ t177 t180 t181 t182 t183 _ ?side1 ?side2 ?side3 ?side4 A21.out).mono ?_
          (case side1 => repeat (first | exact (Kd.R_reads' HO174.out).2.2 | (with_reducible refine Kd.C_alloc ?_ _) | (with_reducible refine Kd.C_drewN ?_ _) | (with_reducible refine Kd.C_drew ?_)))
          (case side2 => exact (Kd.R_reads' HO174.out).2.1)
          (case side3 => repeat (first | exact (Kd.R_reads' HO179.out).2.2 | (with_reducible refine Kd.C_alloc ?_ _) | (with_reducible refine Kd.C_drewN ?_ _) | (with_reducible refine Kd.C_drew ?_)))
          (case side4 => exact (Kd.R_reads' HO179.out).2.1)
          rintro e w48 ⟨v184, rfl, ho0, hb⟩
          refine ⟨_, rfl, ?_⟩
          have n0_ := Aside0.mk (Kd.R_elder' HO174.out (Kd.R_base ho0) hb)
          have n1_ := Aside0.mk (Kd.R_elder' HO179.out (Kd.R_base ho0) hb)
          have n2_ := Aside0.mk (Kd.R_lower (Kd.R_new' (Kd.R_new' ho0 (Kd.R_lt HO174.out)) (Kd.R_lt HO179.out)) (below_size HB.out))
          have n3_ := Aside0.mk (blk_below BK166.out hb)
          have n4_ := Aside0.mk (blk_below BK167.out hb)
          have n5_ := Aside0.mk (below_step HB.out hb)
          clear HO174
          clear HO179
          clear BK166
          clear BK167
          clear HB
          have HO174 := n0_
          have HO179 := n1_
          have HO185 := n2_
          have BK166 := n3_
          have BK167 := n4_
          have HB := n5_
          clear n0_ n1_ n2_ n3_ n4_ n5_
          (try clear hb)
          (try clear hb2)
          (try clear hk)
          (try clear hi)
          (try clear ho0)
          refine hK.out _ _ ⟨(blk_cell BK166.out 0).trans rfl, (blk_cell BK166.out 1).trans rfl, (blk_cell BK166.out 2).trans rfl, (blk_cell BK167.out 0).trans rfl, (blk_cell BK167.out 1).trans rfl, (blk_cell BK167.out 2).trans rfl⟩ (fun hHeld => ?_)
          clear hK K
          refine norm_ (a' := ?_) ?_ ?_
          rotate_left
          ·show Act.put _ (some 28) _ = _
           simp only [Act.put, List.setIfInBounds_toArray, List.set_cons_zero, List.set_cons_succ, i64_w, i32_w]
           rfl
          refine one_ (i := 5) (N := some 6) #[true, true, true, true, true, true, false] rfl rfl (by kernel_rfl) (by decide) (fun K hK => ?_)
          refine box_step ?hg (N := 6) ?hd (cs := #[.int .i64 0, .int .i64 0, .int .i64 0, .slice none 0 0]) (t := 36) ?hr ?_; (case hd => rfl); (case hg => rfl); (case hr => first | (go_simp; done) | (go_simp; rfl))
          intro gb186 hg w49 hbox hb
          have n0_ := Aside0.mk (Kd.R_below HO174.out hb)
          have n1_ := Aside0.mk (Kd.R_below HO179.out hb)
          have n2_ := Aside0.mk (Kd.R_below HO185.out hb)
          have n3_ := Aside0.mk (blk_below BK166.out hb)
          have n4_ := Aside0.mk (blk_below BK167.out hb)
          have n5_ := Aside0.mk (below_step HB.out hb)
          have n6_ := Aside0.mk (hbox)
          have n7_ := Aside0.mk ((by rw [hg]; exact (below_size HB.out) : w.heap.size ≤ gb186))
          have n8_ := Aside0.mk ((by rw [hg]; exact (below_size HB.out) : w.heap.size ≤ gb186))
          have n9_ := Aside0.mk ((by rw [hg]; exact Nat.ne_of_lt (blk_lt BK166.out) : gb166 ≠ gb186))
          have n10_ := Aside0.mk ((by rw [hg]; exact Nat.ne_of_gt (blk_lt BK166.out) : gb186 ≠ gb166))
          have n11_ := Aside0.mk ((by rw [hg]; exact Nat.ne_of_lt (blk_lt BK167.out) : gb167 ≠ gb186))
          have n12_ := Aside0.mk ((by rw [hg]; exact Nat.ne_of_gt (blk_lt BK167.out) : gb186 ≠ gb167))
          clear HO174
          clear HO179
          clear HO185
          clear BK166
          clear BK167
          clear HB
          have HO174 := n0_
          have HO179 := n1_
          have HO185 := n2_
          have BK166 := n3_
          have BK167 := n4_
          have HB := n5_
          have BK186 := n6_
          have GW186 := n7_
          have GE186 := n8_
          have NB166_186 := n9_
          have NB186_166 := n10_
          have NB167_186 := n11_
          have NB186_167 := n12_
          clear n0_ n1_ n2_ n3_ n4_ n5_ n6_ n7_ n8_ n9_ n10_ n11_ n12_
          clear hb hbox hg
          refine hK.out _ _ ⟨(blk_cell BK166.out 0).trans rfl, (blk_cell BK166.out 1).trans rfl, (blk_cell BK166.out 2).trans rfl, (blk_cell BK167.out 0).trans rfl, (blk_cell BK167.out 1).trans rfl, (blk_cell BK167.out 2).trans rfl⟩ (fun hHeld => ?_)
          clear hK K
          refine norm_ (a' := ?_) ?_ ?_
          rotate_left
          ·show Act.put _ (some 6) _ = _
           simp only [Act.put, List.setIfInBounds_toArray, List.set_cons_zero, List.set_cons_succ, i64_w, i32_w]
           rfl
          exact norm_ (by simp only [putAll, Act.put, List.setIfInBounds_toArray, List.set_cons_zero, List.set_cons_succ]) (hCont (.slice Ao46 t172.length co46, .slice Ao47 t177.length co47, v184, gb186) _ ⟨hHeld, (by (with_reducible repeat (first | apply Kd.R_alloc | apply Kd.R_drewN | apply Kd.R_drew)); exact Kd.R_mono HO174.out (fun _ hk => ⟨hk.1.2, hk.2⟩)), (by (with_reducible repeat (first | apply Kd.R_alloc | apply Kd.R_drewN | apply Kd.R_drew)); exact Kd.R_mono HO179.out (fun _ hk => ⟨hk.1.2, hk.2⟩)), (by (with_reducible repeat (first | apply Kd.R_alloc | apply Kd.R_drewN | apply Kd.R_drew)); exact Kd.R_mono HO185.out (fun _ hk => ⟨hk.1.2, hk.2⟩)), BK166.out, BK167.out, BK186.out, GW186.out, GE186.out, NB166_186.out, NB186_166.out, NB167_186.out, NB186_167.out, HB.out⟩)
         ·skip
          refine box_step ?hg (N := 6) ?hd (cs := #[.int .i64 0, .int .i64 0, .int .i64 0, .slice none 0 0]) (t := 36) ?hr ?_; (case hd => rfl); (case hg => rfl); (case hr => first | (go_simp; done) | (go_simp; rfl))
          intro gb186 hg w46 hbox hb
          have n0_ := Aside0.mk (Kd.R_below HO174.out hb)
          have n1_ := Aside0.mk (Kd.R_below HO179.out hb)
          have n2_ := Aside0.mk (blk_below BK166.out hb)
          have n3_ := Aside0.mk (blk_below BK167.out hb)
          have n4_ := Aside0.mk (below_step HB.out hb)
          have n5_ := Aside0.mk (hbox)
          have n6_ := Aside0.mk ((by rw [hg]; exact (below_size HB.out) : w.heap.size ≤ gb186))
          have n7_ := Aside0.mk ((by rw [hg]; exact (below_size HB.out) : w.heap.size ≤ gb186))
          have n8_ := Aside0.mk ((by rw [hg]; exact Nat.ne_of_lt (blk_lt BK166.out) : gb166 ≠ gb186))
          have n9_ := Aside0.mk ((by rw [hg]; exact Nat.ne_of_gt (blk_lt BK166.out) : gb186 ≠ gb166))
          have n10_ := Aside0.mk ((by rw [hg]; exact Nat.ne_of_lt (blk_lt BK167.out) : gb167 ≠ gb186))
          have n11_ := Aside0.mk ((by rw [hg]; exact Nat.ne_of_gt (blk_lt BK167.out) : gb186 ≠ gb167))
          clear HO174
          clear HO179
          clear BK166
          clear BK167
          clear HB
          have HO174 := n0_
          have HO179 := n1_
          have BK166 := n2_
          have BK167 := n3_
          have HB := n4_
          have BK186 := n5_
          have GW186 := n6_
          have GE186 := n7_
          have NB166_186 := n8_
          have NB186_166 := n9_
          have NB167_186 := n10_
          have NB186_167 := n11_
          clear n0_ n1_ n2_ n3_ n4_ n5_ n6_ n7_ n8_ n9_ n10_ n11_
          clear hb hbox hg
          obtain ⟨Ao47, co47, eo47⟩ := Kd.R_slice HO174.out
          (first | subst eo47 | (injection eo47 with f1_ f2_ f3_; have f4_ := f1_.symm; have f5_ := f3_.symm; clear f1_ f2_ f3_; subst f4_; subst f5_))
          obtain ⟨Ao48, co48, eo48⟩ := Kd.R_slice HO179.out
          (first | subst eo48 | (injection eo48 with f1_ f2_ f3_; have f4_ := f1_.symm; have f5_ := f3_.symm; clear f1_ f2_ f3_; subst f4_; subst f5_))
          refine hK.out _ _ ⟨(blk_cell BK166.out 0).trans rfl, (blk_cell BK166.out 1).trans rfl, (blk_cell BK166.out 2).trans rfl, (blk_cell BK167.out 0).trans rfl, (blk_cell BK167.out 1).trans rfl, (blk_cell BK167.out 2).trans rfl⟩ (fun hHeld => ?_)
          clear hK K
          refine norm_ (a' := ?_) ?_ ?_
          rotate_left
          ·show Act.put _ (some 6) _ = _
           simp only [Act.put, List.setIfInBounds_toArray, List.set_cons_zero, List.set_cons_succ, i64_w, i32_w]
           rfl
          refine one_ (i := 4) (N := some 28) #[true, true, true, true, true, true, false] rfl rfl (by kernel_rfl) (by decide) (fun K hK => ?_)
          refine goes_ Try.func18 (by kernel_rfl) rfl #[.agg #[.int .i64 t170, .int .i64 t171, .slice Ao47 t172.length co47], .agg #[.int .i64 t175, .int .i64 t176, .slice Ao48 t177.length co48]] (by rfl) rfl rfl (by (try simp only [List.map_toArray, List.map_cons, List.map_nil]); first | done | rfl) ?_
          with_reducible refine (spec_MatMul.calls k t170 t171 _ _ t172 t175 t176 _ _ t177 t180 t181 t182 t183 _ ?side1 ?side2 ?side3 ?side4 A21.out).mono ?_
          (case side1 => repeat (first | exact (Kd.R_reads' HO174.out).2.2 | (with_reducible refine Kd.C_alloc ?_ _) | (with_reducible refine Kd.C_drewN ?_ _) | (with_reducible refine Kd.C_drew ?_)))
          (case side2 => exact (Kd.R_reads' HO174.out).2.1)
          (case side3 => repeat (first | exact (Kd.R_reads' HO179.out).2.2 | (with_reducible refine Kd.C_alloc ?_ _) | (with_reducible refine Kd.C_drewN ?_ _) | (with_reducible refine Kd.C_drew ?_)))
          (case side4 => exact (Kd.R_reads' HO179.out).2.1)
          rintro e w49 ⟨v184, rfl, ho0, hb⟩
          refine ⟨_, rfl, ?_⟩
          have n0_ := Aside0.mk (Kd.R_elder' HO174.out (Kd.R_base ho0) hb)
          have n1_ := Aside0.mk (Kd.R_elder' HO179.out (Kd.R_base ho0) hb)
          have n2_ := Aside0.mk (Kd.R_lower (Kd.R_new' (Kd.R_new' ho0 (Kd.R_lt HO174.out)) (Kd.R_lt HO179.out)) (below_size HB.out))
          have n3_ := Aside0.mk (blk_below BK166.out hb)
          have n4_ := Aside0.mk (blk_below BK167.out hb)
          have n5_ := Aside0.mk (blk_below BK186.out hb)
          have n6_ := Aside0.mk (below_step HB.out hb)
          clear HO174
          clear HO179
          clear BK166
          clear BK167
          clear BK186
          clear HB
          have HO174 := n0_
          have HO179 := n1_
          have HO185 := n2_
          have BK166 := n3_
          have BK167 := n4_
          have BK186 := n5_
          have HB := n6_
          clear n0_ n1_ n2_ n3_ n4_ n5_ n6_
          (try clear hb)
          (try clear hb2)
          (try clear hk)
          (try clear hi)
          (try clear ho0)
          refine hK.out _ _ ⟨(blk_cell BK166.out 0).trans rfl, (blk_cell BK166.out 1).trans rfl, (blk_cell BK166.out 2).trans rfl, (blk_cell BK167.out 0).trans rfl, (blk_cell BK167.out 1).trans rfl, (blk_cell BK167.out 2).trans rfl⟩ (fun hHeld => ?_)
          clear hK K
          refine norm_ (a' := ?_) ?_ ?_
          rotate_left
          ·show Act.put _ (some 28) _ = _
           simp only [Act.put, List.setIfInBounds_toArray, List.set_cons_zero, List.set_cons_succ, i64_w, i32_w]
           rfl
          exact norm_ (by simp only [putAll, Act.put, List.setIfInBounds_toArray, List.set_cons_zero, List.set_cons_succ]) (hCont (.slice Ao47 t172.length co47, .slice Ao48 t177.length co48, v184, gb186) _ ⟨hHeld, (by (with_reducible repeat (first | apply Kd.R_alloc | apply Kd.R_drewN | apply Kd.R_drew)); exact Kd.R_mono HO174.out (fun _ hk => ⟨hk.1.2, hk.2⟩)), (by (with_reducible repeat (first | apply Kd.R_alloc | apply Kd.R_drewN | apply Kd.R_drew)); exact Kd.R_mono HO179.out (fun _ hk => ⟨hk.1.2, hk.2⟩)), (by (with_reducible repeat (first | apply Kd.R_alloc | apply Kd.R_drewN | apply Kd.R_drew)); exact Kd.R_mono HO185.out (fun _ hk => ⟨hk.1.2, hk.2⟩)), BK166.out, BK167.out, BK186.out, GW186.out, GE186.out, NB166_186.out, NB186_166.out, NB167_186.out, NB186_167.out, HB.out⟩)
        ·skip
         refine box_step ?hg (N := 6) ?hd (cs := #[.int .i64 0, .int .i64 0, .int .i64 0, .slice none 0 0]) (t := 36) ?hr ?_; (case hd => rfl); (case hg => rfl); (case hr => first | (go_simp; done) | (go_simp; rfl))
         intro gb186 hg w45 hbox hb
         have n0_ := Aside0.mk (Kd.R_below HO174.out hb)
         have n1_ := Aside0.mk (blk_below BK166.out hb)
         have n2_ := Aside0.mk (blk_below BK167.out hb)
         have n3_ := Aside0.mk (below_step HB.out hb)
         have n4_ := Aside0.mk (hbox)
         have n5_ := Aside0.mk ((by rw [hg]; exact (below_size HB.out) : w.heap.size ≤ gb186))
         have n6_ := Aside0.mk ((by rw [hg]; exact (below_size HB.out) : w.heap.size ≤ gb186))
         have n7_ := Aside0.mk ((by rw [hg]; exact Nat.ne_of_lt (blk_lt BK166.out) : gb166 ≠ gb186))
         have n8_ := Aside0.mk ((by rw [hg]; exact Nat.ne_of_gt (blk_lt BK166.out) : gb186 ≠ gb166))
         have n9_ := Aside0.mk ((by rw [hg]; exact Nat.ne_of_lt (blk_lt BK167.out) : gb167 ≠ gb186))
         have n10_ := Aside0.mk ((by rw [hg]; exact Nat.ne_of_gt (blk_lt BK167.out) : gb186 ≠ gb167))
         clear HO174
         clear BK166
         clear BK167
         clear HB
         have HO174 := n0_
         have BK166 := n1_
         have BK167 := n2_
         have HB := n3_
         have BK186 := n4_
         have GW186 := n5_
         have GE186 := n6_
         have NB166_186 := n7_
         have NB186_166 := n8_
         have NB167_186 := n9_
         have NB186_167 := n10_
         clear n0_ n1_ n2_ n3_ n4_ n5_ n6_ n7_ n8_ n9_ n10_
         clear hb hbox hg
         refine hK.out _ _ ⟨(blk_cell BK166.out 0).trans rfl, (blk_cell BK166.out 1).trans rfl, (blk_cell BK166.out 2).trans rfl, (blk_cell BK167.out 0).trans rfl, (blk_cell BK167.out 1).trans rfl, (blk_cell BK167.out 2).trans rfl⟩ (fun hHeld => ?_)
         clear hK K
         refine norm_ (a' := ?_) ?_ ?_
         rotate_left
         ·show Act.put _ (some 6) _ = _
          simp only [Act.put, List.setIfInBounds_toArray, List.set_cons_zero, List.set_cons_succ, i64_w, i32_w]
          rfl
         refine one_ (i := 3) (N := some 27) #[true, true, true, true, false, true, false] rfl rfl (by kernel_rfl) (by decide) (fun K hK => ?_)
         refine goes_ Try.func19 (by kernel_rfl) rfl #[.agg #[.int .i64 a1_0, .int .i64 a1_1, .slice A1_2 l1_2.length c1_2]] (by rfl) rfl rfl (by (try simp only [List.map_toArray, List.map_cons, List.map_nil]); first | done | rfl) ?_
         with_reducible refine (laws_toMatrix.calls k a1_0 a1_1 _ _ l1_2 t175 t176 t177 _ ?side1 ?side2 A20.out).mono ?_
         (case side1 => repeat (first | exact (Kd.C_below HR1_2.out HB.out) | (with_reducible refine Kd.C_alloc ?_ _) | (with_reducible refine Kd.C_drewN ?_ _) | (with_reducible refine Kd.C_drew ?_)))
         (case side2 => exact HC1_2.out)
         rintro e w46 ⟨v178, rfl, ho0, hb⟩
         refine ⟨_, rfl, ?_⟩
         have n0_ := Aside0.mk (Kd.R_elder' HO174.out (Kd.R_base ho0) hb)
         have n1_ := Aside0.mk (Kd.R_lower (Kd.R_new' ho0 (Kd.R_lt HO174.out)) (below_size HB.out))
         have n2_ := Aside0.mk (blk_below BK166.out hb)
         have n3_ := Aside0.mk (blk_below BK167.out hb)
         have n4_ := Aside0.mk (blk_below BK186.out hb)
         have n5_ := Aside0.mk (below_step HB.out hb)
         clear HO174
         clear BK166
         clear BK167
         clear BK186
         clear HB
         have HO174 := n0_
         have HO179 := n1_
         have BK166 := n2_
         have BK167 := n3_
         have BK186 := n4_
         have HB := n5_
         clear n0_ n1_ n2_ n3_ n4_ n5_
         (try clear hb)
         (try clear hb2)
         (try clear hk)
         (try clear hi)
         (try clear ho0)
         obtain ⟨Ao47, co47, eo47⟩ := Kd.R_slice HO174.out
         (first | subst eo47 | (injection eo47 with f1_ f2_ f3_; have f4_ := f1_.symm; have f5_ := f3_.symm; clear f1_ f2_ f3_; subst f4_; subst f5_))
         obtain ⟨Ao48, co48, eo48⟩ := Kd.R_slice HO179.out
         (first | subst eo48 | (injection eo48 with f1_ f2_ f3_; have f4_ := f1_.symm; have f5_ := f3_.symm; clear f1_ f2_ f3_; subst f4_; subst f5_))
         refine hK.out _ _ ⟨(blk_cell BK166.out 0).trans rfl, (blk_cell BK166.out 1).trans rfl, (blk_cell BK166.out 2).trans rfl, (blk_cell BK167.out 0).trans rfl, (blk_cell BK167.out 1).trans rfl, (blk_cell BK167.out 2).trans rfl⟩ (fun hHeld => ?_)
         clear hK K
         refine norm_ (a' := ?_) ?_ ?_
         rotate_left
         ·show Act.put _ (some 27) _ = _
          simp only [Act.put, List.setIfInBounds_toArray, List.set_cons_zero, List.set_cons_succ, i64_w, i32_w]
          rfl
         refine one_ (i := 4) (N := some 28) #[true, true, true, true, true, true, false] rfl rfl (by kernel_rfl) (by decide) (fun K hK => ?_)
         refine goes_ Try.func18 (by kernel_rfl) rfl #[.agg #[.int .i64 t170, .int .i64 t171, .slice Ao47 t172.length co47], .agg #[.int .i64 t175, .int .i64 t176, .slice Ao48 t177.length co48]] (by rfl) rfl rfl (by (try simp only [List.map_toArray, List.map_cons, List.map_nil]); first | done | rfl) ?_
         with_reducible refine (spec_MatMul.calls k t170 t171 _ _ t172 t175 t176 _ _ t177 t180 t181 t182 t183 _ ?side1 ?side2 ?side3 ?side4 A21.out).mono ?_
         (case side1 => repeat (first | exact (Kd.R_reads' HO174.out).2.2 | (with_reducible refine Kd.C_alloc ?_ _) | (with_reducible refine Kd.C_drewN ?_ _) | (with_reducible refine Kd.C_drew ?_)))
         (case side2 => exact (Kd.R_reads' HO174.out).2.1)
         (case side3 => repeat (first | exact (Kd.R_reads' HO179.out).2.2 | (with_reducible refine Kd.C_alloc ?_ _) | (with_reducible refine Kd.C_drewN ?_ _) | (with_reducible refine Kd.C_drew ?_)))
         (case side4 => exact (Kd.R_reads' HO179.out).2.1)
         rintro e w49 ⟨v184, rfl, ho0, hb⟩
         refine ⟨_, rfl, ?_⟩
         have n0_ := Aside0.mk (Kd.R_elder' HO174.out (Kd.R_base ho0) hb)
         have n1_ := Aside0.mk (Kd.R_elder' HO179.out (Kd.R_base ho0) hb)
         have n2_ := Aside0.mk (Kd.R_lower (Kd.R_new' (Kd.R_new' ho0 (Kd.R_lt HO174.out)) (Kd.R_lt HO179.out)) (below_size HB.out))
         have n3_ := Aside0.mk (blk_below BK166.out hb)
         have n4_ := Aside0.mk (blk_below BK167.out hb)
         have n5_ := Aside0.mk (blk_below BK186.out hb)
         have n6_ := Aside0.mk (below_step HB.out hb)
         clear HO174
         clear HO179
         clear BK166
         clear BK167
         clear BK186
         clear HB
         have HO174 := n0_
         have HO179 := n1_
         have HO185 := n2_
         have BK166 := n3_
         have BK167 := n4_
         have BK186 := n5_
         have HB := n6_
         clear n0_ n1_ n2_ n3_ n4_ n5_ n6_
         (try clear hb)
         (try clear hb2)
         (try clear hk)
         (try clear hi)
         (try clear ho0)
         refine hK.out _ _ ⟨(blk_cell BK166.out 0).trans rfl, (blk_cell BK166.out 1).trans rfl, (blk_cell BK166.out 2).trans rfl, (blk_cell BK167.out 0).trans rfl, (blk_cell BK167.out 1).trans rfl, (blk_cell BK167.out 2).trans rfl⟩ (fun hHeld => ?_)
         clear hK K
         refine norm_ (a' := ?_) ?_ ?_
         rotate_left
         ·show Act.put _ (some 28) _ = _
          simp only [Act.put, List.setIfInBounds_toArray, List.set_cons_zero, List.set_cons_succ, i64_w, i32_w]
          rfl
         exact norm_ (by simp only [putAll, Act.put, List.setIfInBounds_toArray, List.set_cons_zero, List.set_cons_succ]) (hCont (.slice Ao47 t172.length co47, .slice Ao48 t177.length co48, v184, gb186) _ ⟨hHeld, (by (with_reducible repeat (first | apply Kd.R_alloc | apply Kd.R_drewN | apply Kd.R_drew)); exact Kd.R_mono HO174.out (fun _ hk => ⟨hk.1.2, hk.2⟩)), (by (with_reducible repeat (first | apply Kd.R_alloc | apply Kd.R_drewN | apply Kd.R_drew)); exact Kd.R_mono HO179.out (fun _ hk => ⟨hk.1.2, hk.2⟩)), (by (with_reducible repeat (first | apply Kd.R_alloc | apply Kd.R_drewN | apply Kd.R_drew)); exact Kd.R_mono HO185.out (fun _ hk => ⟨hk.1.2, hk.2⟩)), BK166.out, BK167.out, BK186.out, GW186.out, GE186.out, NB166_186.out, NB186_166.out, NB167_186.out, NB186_167.out, HB.out⟩)
       ·skip
        refine box_step ?hg (N := 6) ?hd (cs := #[.int .i64 0, .int .i64 0, .int .i64 0, .slice none 0 0]) (t := 36) ?hr ?_; (case hd => rfl); (case hg => rfl); (case hr => first | (go_simp; done) | (go_simp; rfl))
        intro gb186 hg w44 hbox hb
        have n0_ := Aside0.mk (blk_below BK166.out hb)
        have n1_ := Aside0.mk (blk_below BK167.out hb)
        have n2_ := Aside0.mk (below_step HB.out hb)
        have n3_ := Aside0.mk (hbox)
        have n4_ := Aside0.mk ((by rw [hg]; exact (below_size HB.out) : w.heap.size ≤ gb186))
        have n5_ := Aside0.mk ((by rw [hg]; exact (below_size HB.out) : w.heap.size ≤ gb186))
        have n6_ := Aside0.mk ((by rw [hg]; exact Nat.ne_of_lt (blk_lt BK166.out) : gb166 ≠ gb186))
        have n7_ := Aside0.mk ((by rw [hg]; exact Nat.ne_of_gt (blk_lt BK166.out) : gb186 ≠ gb166))
        have n8_ := Aside0.mk ((by rw [hg]; exact Nat.ne_of_lt (blk_lt BK167.out) : gb167 ≠ gb186))
        have n9_ := Aside0.mk ((by rw [hg]; exact Nat.ne_of_gt (blk_lt BK167.out) : gb186 ≠ gb167))
        clear BK166
        clear BK167
        clear HB
        have BK166 := n0_
        have BK167 := n1_
        have HB := n2_
        have BK186 := n3_
        have GW186 := n4_
        have GE186 := n5_
        have NB166_186 := n6_
        have NB186_166 := n7_
        have NB167_186 := n8_
        have NB186_167 := n9_
        clear n0_ n1_ n2_ n3_ n4_ n5_ n6_ n7_ n8_ n9_
        clear hb hbox hg
        refine hK.out _ _ ⟨(blk_cell BK166.out 0).trans rfl, (blk_cell BK166.out 1).trans rfl, (blk_cell BK166.out 2).trans rfl, (blk_cell BK167.out 0).trans rfl, (blk_cell BK167.out 1).trans rfl, (blk_cell BK167.out 2).trans rfl⟩ (fun hHeld => ?_)
        clear hK K
        refine norm_ (a' := ?_) ?_ ?_
        rotate_left
        ·show Act.put _ (some 6) _ = _
         simp only [Act.put, List.setIfInBounds_toArray, List.set_cons_zero, List.set_cons_succ, i64_w, i32_w]
         rfl
        refine one_ (i := 1) (N := some 25) #[true, true, true, false, false, true, false] rfl rfl (by kernel_rfl) (by decide) (fun K hK => ?_)
        refine goes_ Try.func19 (by kernel_rfl) rfl #[.agg #[.int .i64 a0_0, .int .i64 a0_1, .slice A0_2 l0_2.length c0_2]] (by rfl) rfl rfl (by (try simp only [List.map_toArray, List.map_cons, List.map_nil]); first | done | rfl) ?_
        with_reducible refine (laws_toMatrix.calls k a0_0 a0_1 _ _ l0_2 t170 t171 t172 _ ?side1 ?side2 A19.out).mono ?_
        (case side1 => repeat (first | exact (Kd.C_below HR0_2.out HB.out) | (with_reducible refine Kd.C_alloc ?_ _) | (with_reducible refine Kd.C_drewN ?_ _) | (with_reducible refine Kd.C_drew ?_)))
        (case side2 => exact HC0_2.out)
        rintro e w45 ⟨v173, rfl, ho0, hb⟩
        refine ⟨_, rfl, ?_⟩
        have n0_ := Aside0.mk (Kd.R_lower ho0 (below_size HB.out))
        have n1_ := Aside0.mk (blk_below BK166.out hb)
        have n2_ := Aside0.mk (blk_below BK167.out hb)
        have n3_ := Aside0.mk (blk_below BK186.out hb)
        have n4_ := Aside0.mk (below_step HB.out hb)
        clear BK166
        clear BK167
        clear BK186
        clear HB
        have HO174 := n0_
        have BK166 := n1_
        have BK167 := n2_
        have BK186 := n3_
        have HB := n4_
        clear n0_ n1_ n2_ n3_ n4_
        (try clear hb)
        (try clear hb2)
        (try clear hk)
        (try clear hi)
        (try clear ho0)
        refine hK.out _ _ ⟨(blk_cell BK166.out 0).trans rfl, (blk_cell BK166.out 1).trans rfl, (blk_cell BK166.out 2).trans rfl, (blk_cell BK167.out 0).trans rfl, (blk_cell BK167.out 1).trans rfl, (blk_cell BK167.out 2).trans rfl⟩ (fun hHeld => ?_)
        clear hK K
        refine norm_ (a' := ?_) ?_ ?_
        rotate_left
        ·show Act.put _ (some 25) _ = _
         simp only [Act.put, List.setIfInBounds_toArray, List.set_cons_zero, List.set_cons_succ, i64_w, i32_w]
         rfl
        refine one_ (i := 3) (N := some 27) #[true, true, true, true, false, true, false] rfl rfl (by kernel_rfl) (by decide) (fun K hK => ?_)
        refine goes_ Try.func19 (by kernel_rfl) rfl #[.agg #[.int .i64 a1_0, .int .i64 a1_1, .slice A1_2 l1_2.length c1_2]] (by rfl) rfl rfl (by (try simp only [List.map_toArray, List.map_cons, List.map_nil]); first | done | rfl) ?_
        with_reducible refine (laws_toMatrix.calls k a1_0 a1_1 _ _ l1_2 t175 t176 t177 _ ?side1 ?side2 A20.out).mono ?_
        (case side1 => repeat (first | exact (Kd.C_below HR1_2.out HB.out) | (with_reducible refine Kd.C_alloc ?_ _) | (with_reducible refine Kd.C_drewN ?_ _) | (with_reducible refine Kd.C_drew ?_)))
        (case side2 => exact HC1_2.out)
        rintro e w46 ⟨v178, rfl, ho0, hb⟩
        refine ⟨_, rfl, ?_⟩
        have n0_ := Aside0.mk (Kd.R_elder' HO174.out (Kd.R_base ho0) hb)
        have n1_ := Aside0.mk (Kd.R_lower (Kd.R_new' ho0 (Kd.R_lt HO174.out)) (below_size HB.out))
        have n2_ := Aside0.mk (blk_below BK166.out hb)
        have n3_ := Aside0.mk (blk_below BK167.out hb)
        have n4_ := Aside0.mk (blk_below BK186.out hb)
        have n5_ := Aside0.mk (below_step HB.out hb)
        clear HO174
        clear BK166
        clear BK167
        clear BK186
        clear HB
        have HO174 := n0_
        have HO179 := n1_
        have BK166 := n2_
        have BK167 := n3_
        have BK186 := n4_
        have HB := n5_
        clear n0_ n1_ n2_ n3_ n4_ n5_
        (try clear hb)
        (try clear hb2)
        (try clear hk)
        (try clear hi)
        (try clear ho0)
        obtain ⟨Ao47, co47, eo47⟩ := Kd.R_slice HO174.out
        (first | subst eo47 | (injection eo47 with f1_ f2_ f3_; have f4_ := f1_.symm; have f5_ := f3_.symm; clear f1_ f2_ f3_; subst f4_; subst f5_))
        obtain ⟨Ao48, co48, eo48⟩ := Kd.R_slice HO179.out
        (first | subst eo48 | (injection eo48 with f1_ f2_ f3_; have f4_ := f1_.symm; have f5_ := f3_.symm; clear f1_ f2_ f3_; subst f4_; subst f5_))
        refine hK.out _ _ ⟨(blk_cell BK166.out 0).trans rfl, (blk_cell BK166.out 1).trans rfl, (blk_cell BK166.out 2).trans rfl, (blk_cell BK167.out 0).trans rfl, (blk_cell BK167.out 1).trans rfl, (blk_cell BK167.out 2).trans rfl⟩ (fun hHeld => ?_)
        clear hK K
        refine norm_ (a' := ?_) ?_ ?_
        rotate_left
        ·show Act.put _ (some 27) _ = _
         simp only [Act.put, List.setIfInBounds_toArray, List.set_cons_zero, List.set_cons_succ, i64_w, i32_w]
         rfl
        refine one_ (i := 4) (N := some 28) #[true, true, true, true, true, true, false] rfl rfl (by kernel_rfl) (by decide) (fun K hK => ?_)
        refine goes_ Try.func18 (by kernel_rfl) rfl #[.agg #[.int .i64 t170, .int .i64 t171, .slice Ao47 t172.length co47], .agg #[.int .i64 t175, .int .i64 t176, .slice Ao48 t177.length co48]] (by rfl) rfl rfl (by (try simp only [List.map_toArray, List.map_cons, List.map_nil]); first | done | rfl) ?_
        with_reducible refine (spec_MatMul.calls k t170 t171 _ _ t172 t175 t176 _ _ t177 t180 t181 t182 t183 _ ?side1 ?side2 ?side3 ?side4 A21.out).mono ?_
        (case side1 => repeat (first | exact (Kd.R_reads' HO174.out).2.2 | (with_reducible refine Kd.C_alloc ?_ _) | (with_reducible refine Kd.C_drewN ?_ _) | (with_reducible refine Kd.C_drew ?_)))
        (case side2 => exact (Kd.R_reads' HO174.out).2.1)
        (case side3 => repeat (first | exact (Kd.R_reads' HO179.out).2.2 | (with_reducible refine Kd.C_alloc ?_ _) | (with_reducible refine Kd.C_drewN ?_ _) | (with_reducible refine Kd.C_drew ?_)))
        (case side4 => exact (Kd.R_reads' HO179.out).2.1)
        rintro e w49 ⟨v184, rfl, ho0, hb⟩
        refine ⟨_, rfl, ?_⟩
        have n0_ := Aside0.mk (Kd.R_elder' HO174.out (Kd.R_base ho0) hb)
        have n1_ := Aside0.mk (Kd.R_elder' HO179.out (Kd.R_base ho0) hb)
        have n2_ := Aside0.mk (Kd.R_lower (Kd.R_new' (Kd.R_new' ho0 (Kd.R_lt HO174.out)) (Kd.R_lt HO179.out)) (below_size HB.out))
        have n3_ := Aside0.mk (blk_below BK166.out hb)
        have n4_ := Aside0.mk (blk_below BK167.out hb)
        have n5_ := Aside0.mk (blk_below BK186.out hb)
        have n6_ := Aside0.mk (below_step HB.out hb)
        clear HO174
        clear HO179
        clear BK166
        clear BK167
        clear BK186
        clear HB
        have HO174 := n0_
        have HO179 := n1_
        have HO185 := n2_
        have BK166 := n3_
        have BK167 := n4_
        have BK186 := n5_
        have HB := n6_
        clear n0_ n1_ n2_ n3_ n4_ n5_ n6_
        (try clear hb)
        (try clear hb2)
        (try clear hk)
        (try clear hi)
        (try clear ho0)
        refine hK.out _ _ ⟨(blk_cell BK166.out 0).trans rfl, (blk_cell BK166.out 1).trans rfl, (blk_cell BK166.out 2).trans rfl, (blk_cell BK167.out 0).trans rfl, (blk_cell BK167.out 1).trans rfl, (blk_cell BK167.out 2).trans rfl⟩ (fun hHeld => ?_)
        clear hK K
        refine norm_ (a' := ?_) ?_ ?_
        rotate_left
        ·show Act.put _ (some 28) _ = _
         simp only [Act.put, List.setIfInBounds_toArray, List.set_cons_zero, List.set_cons_succ, i64_w, i32_w]
         rfl
        exact norm_ (by simp only [putAll, Act.put, List.setIfInBounds_toArray, List.set_cons_zero, List.set_cons_succ]) (hCont (.slice Ao47 t172.length co47, .slice Ao48 t177.length co48, v184, gb186) _ ⟨hHeld, (by (with_reducible repeat (first | apply Kd.R_alloc | apply Kd.R_drewN | apply Kd.R_drew)); exact Kd.R_mono HO174.out (fun _ hk => ⟨hk.1.2, hk.2⟩)), (by (with_reducible repeat (first | apply Kd.R_alloc | apply Kd.R_drewN | apply Kd.R_drew)); exact Kd.R_mono HO179.out (fun _ hk => ⟨hk.1.2, hk.2⟩)), (by (with_reducible repeat (first | apply Kd.R_alloc | apply Kd.R_drewN | apply Kd.R_drew)); exact Kd.R_mono HO185.out (fun _ hk => ⟨hk.1.2, hk.2⟩)), BK166.out, BK167.out, BK186.out, GW186.out, GE186.out, NB166_186.out, NB186_166.out, NB167_186.out, NB186_167.out, HB.out⟩)
      rintro ⟨v173, v178, v184, gb186⟩ w50 ⟨hS_, h0_, h1_, h2_, h3_, h4_, h5_, h6_, h7_, h8_, h9_, h10_, h11_, h12_⟩
      have n0_ : Aside0 (Kd.R (Kd.int .i64) 2 w50 w.heap.size (fun k_ => some k_ ≠ (v178 : Value).ownBlock ∧ some k_ ≠ (v184 : Value).ownBlock) v173 t172) := ⟨h0_⟩
      have n1_ : Aside0 (Kd.R (Kd.int .i64) 2 w50 w.heap.size (fun k_ => some k_ ≠ (v173 : Value).ownBlock ∧ some k_ ≠ (v184 : Value).ownBlock) v178 t177) := ⟨h1_⟩
      have n2_ : Aside0 (Kd.R (Kd.int .i64) 2 w50 w.heap.size (fun k_ => some k_ ≠ (v173 : Value).ownBlock ∧ some k_ ≠ (v178 : Value).ownBlock) v184 t183) := ⟨h2_⟩
      have n3_ : Aside0 (w50.heap[gb166]? = some (.cells #[.int .i64 a0_0, .int .i64 a0_1, .slice A0_2 l0_2.length c0_2] 32 (0, 0))) := ⟨h3_⟩
      have n4_ : Aside0 (w50.heap[gb167]? = some (.cells #[.int .i64 a1_0, .int .i64 a1_1, .slice A1_2 l1_2.length c1_2] 32 (0, 0))) := ⟨h4_⟩
      have n5_ : Aside0 (w50.heap[gb186]? = some (.cells #[.int .i64 0, .int .i64 0, .int .i64 0, .slice none 0 0] 36 (0, 0))) := ⟨h5_⟩
      have n6_ : Aside0 (w.heap.size ≤ gb186) := ⟨h6_⟩
      have n7_ : Aside0 (w.heap.size ≤ gb186) := ⟨h7_⟩
      have n8_ : Aside0 (gb166 ≠ gb186) := ⟨h8_⟩
      have n9_ : Aside0 (gb186 ≠ gb166) := ⟨h9_⟩
      have n10_ : Aside0 (gb167 ≠ gb186) := ⟨h10_⟩
      have n11_ : Aside0 (gb186 ≠ gb167) := ⟨h11_⟩
      have n12_ : Aside0 (Below w.heap.size w w50) := ⟨h12_⟩
      clear BK166
      clear BK167
      clear HB
      clear h0_ h1_ h2_ h3_ h4_ h5_ h6_ h7_ h8_ h9_ h10_ h11_ h12_
      have HO174 := n0_
      have HO179 := n1_
      have HO185 := n2_
      have BK166 := n3_
      have BK167 := n4_
      have BK186 := n5_
      have GW186 := n6_
      have GE186 := n7_
      have NB166_186 := n8_
      have NB186_166 := n9_
      have NB167_186 := n10_
      have NB186_167 := n11_
      have HB := n12_
      clear n0_ n1_ n2_ n3_ n4_ n5_ n6_ n7_ n8_ n9_ n10_ n11_ n12_
      have hHeld : w50.cell? ⟨gb166, 0, none⟩ = some (.int .i64 a0_0) ∧ w50.cell? ⟨gb166, 1, none⟩ = some (.int .i64 a0_1) ∧ w50.cell? ⟨gb166, 2, none⟩ = some (.slice A0_2 l0_2.length c0_2) ∧ w50.cell? ⟨gb167, 0, none⟩ = some (.int .i64 a1_0) ∧ w50.cell? ⟨gb167, 1, none⟩ = some (.int .i64 a1_1) ∧ w50.cell? ⟨gb167, 2, none⟩ = some (.slice A1_2 l1_2.length c1_2) := hS_
      obtain ⟨Ao54, co54, eo54⟩ := Kd.R_slice HO185.out
      (first | subst eo54 | (injection eo54 with f1_ f2_ f3_; have f4_ := f1_.symm; have f5_ := f3_.symm; clear f1_ f2_ f3_; subst f4_; subst f5_))
      refine norm_ (a' := ?_) ?_ ?_
      rotate_left
      ·simp only [putAll, Act.put, List.setIfInBounds_toArray, List.set_cons_zero, List.set_cons_succ]
       rfl
      refine one_ (i := 6) (N := none) #[true, true, true, true, true, true, true] rfl rfl (by kernel_rfl) (by decide) (fun K hK => ?_)
      have hs51 : w50.cell? ⟨gb186, 0, none⟩ = some (.int .i64 0) := (blk_cell BK186.out 0).trans rfl
      have hfs51 := blk_frozen BK186.out 0
      have hns51_0 := NB166_186.out
      have hns51_1 := NB167_186.out
      have hms51_0 := NB186_166.out
      have hms51_1 := NB186_167.out
      have hs52 : w50.cell? ⟨gb186, 1, none⟩ = some (.int .i64 0) := (blk_cell BK186.out 1).trans rfl
      have hfs52 := blk_frozen BK186.out 1
      have hns52_0 := NB166_186.out
      have hns52_1 := NB167_186.out
      have hms52_0 := NB186_166.out
      have hms52_1 := NB186_167.out
      have hs53 : w50.cell? ⟨gb186, 2, none⟩ = some (.int .i64 0) := (blk_cell BK186.out 2).trans rfl
      have hfs53 := blk_frozen BK186.out 2
      have hns53_0 := NB166_186.out
      have hns53_1 := NB167_186.out
      have hms53_0 := NB186_166.out
      have hms53_1 := NB186_167.out
      have hs55 : w50.cell? ⟨gb186, 3, none⟩ = some (.slice none 0 0) := (blk_cell BK186.out 3).trans rfl
      have hfs55 := blk_frozen BK186.out 3
      have hns55_0 := NB166_186.out
      have hns55_1 := NB167_186.out
      have hms55_0 := NB186_166.out
      have hms55_1 := NB186_167.out
      refine skip_ (w1 := ?_) (by rfl) rfl ?_ ?_
      rotate_left
      ·go_simp
       rfl
      refine hK.out _ _ ⟨((cell_far (p := ⟨gb186, _, none⟩) NB166_186.out _).trans (((cell_far (p := ⟨gb186, _, none⟩) NB166_186.out _).trans (((cell_far (p := ⟨gb186, _, none⟩) NB166_186.out _).trans (((cell_far (p := ⟨gb186, _, none⟩) NB166_186.out _).trans (hHeld.1)))))))), ((cell_far (p := ⟨gb186, _, none⟩) NB166_186.out _).trans (((cell_far (p := ⟨gb186, _, none⟩) NB166_186.out _).trans (((cell_far (p := ⟨gb186, _, none⟩) NB166_186.out _).trans (((cell_far (p := ⟨gb186, _, none⟩) NB166_186.out _).trans (hHeld.2.1)))))))), ((cell_far (p := ⟨gb186, _, none⟩) NB166_186.out _).trans (((cell_far (p := ⟨gb186, _, none⟩) NB166_186.out _).trans (((cell_far (p := ⟨gb186, _, none⟩) NB166_186.out _).trans (((cell_far (p := ⟨gb186, _, none⟩) NB166_186.out _).trans (hHeld.2.2.1)))))))), ((cell_far (p := ⟨gb186, _, none⟩) NB167_186.out _).trans (((cell_far (p := ⟨gb186, _, none⟩) NB167_186.out _).trans (((cell_far (p := ⟨gb186, _, none⟩) NB167_186.out _).trans (((cell_far (p := ⟨gb186, _, none⟩) NB167_186.out _).trans (hHeld.2.2.2.1)))))))), ((cell_far (p := ⟨gb186, _, none⟩) NB167_186.out _).trans (((cell_far (p := ⟨gb186, _, none⟩) NB167_186.out _).trans (((cell_far (p := ⟨gb186, _, none⟩) NB167_186.out _).trans (((cell_far (p := ⟨gb186, _, none⟩) NB167_186.out _).trans (hHeld.2.2.2.2.1)))))))), ((cell_far (p := ⟨gb186, _, none⟩) NB167_186.out _).trans (((cell_far (p := ⟨gb186, _, none⟩) NB167_186.out _).trans (((cell_far (p := ⟨gb186, _, none⟩) NB167_186.out _).trans (((cell_far (p := ⟨gb186, _, none⟩) NB167_186.out _).trans (hHeld.2.2.2.2.2))))))))⟩ (fun hHeld => ?_)
      clear hK K
      refine done_ (by kernel_rfl) ?_
      have hnb56 := NB166_186.out
      have hnc56 := NB186_166.out
      have hcz57_0 : w50.cell? ⟨gb166, 0, none⟩ = some (.int .i64 a0_0) := (blk_cell BK166.out 0).trans rfl
      have hcz57_1 : w50.cell? ⟨gb166, 1, none⟩ = some (.int .i64 a0_1) := (blk_cell BK166.out 1).trans rfl
      have hcz57_2 : w50.cell? ⟨gb166, 2, none⟩ = some (.slice A0_2 l0_2.length c0_2) := (blk_cell BK166.out 2).trans rfl
      have hfz57_0 := blk_frozen BK166.out 0
      have hfz57_1 := blk_frozen BK166.out 1
      have hfz57_2 := blk_frozen BK166.out 2
      try go_wp2_with (first | ((with_reducible refine gate_callee (f := 19) rfl ?_); refine goesL_ (some 30) rfl rfl Try.func19 (by kernel_rfl) rfl #[.agg #[.int .i64 a0_0, .int .i64 a0_1, .slice A0_2 l0_2.length c0_2]] rfl (by (try simp only [List.map_toArray, List.map_cons, List.map_nil]); first | done | rfl | (simp only [List.length_drop, List.length_take]; rfl)) ?_; (with_reducible refine (laws_toMatrix.calls k a0_0 a0_1 _ _ l0_2 t187 t188 t189 _ ?side1 ?side2 A22.out).mono ?_); (case side1 => exact Kd.C_below HR0_2.out (by repeat (first | (with_reducible first | exact HB.out | apply below_alloc | apply pw_below_drewN | apply below_drew1 | refine below_set ?_ GE166.out | refine below_set ?_ GE167.out | refine below_set ?_ GE186.out) | exact HB.out))); (case side2 => exact HC0_2.out); rintro e w58 ⟨v190, rfl, ho0, hb⟩; refine ⟨_, rfl, ?_⟩; have n0_ := Aside0.mk (Kd.R_elder' (by (with_reducible repeat (first | apply Kd.R_alloc | apply Kd.R_drewN | apply Kd.R_drew)); exact (Kd.R_mono (Kd.R_far (p := ⟨gb186, 3, none⟩) (Kd.R_far (p := ⟨gb186, 2, none⟩) (Kd.R_far (p := ⟨gb186, 1, none⟩) (Kd.R_far (p := ⟨gb186, 0, none⟩) (Kd.R_types HO174.out BK186.out (by decide)) (fun _ hk => hk.2) (.int .i64 t180)) (fun _ hk => hk.2) (.int .i64 t181)) (fun _ hk => hk.2) (.int .i64 t182)) (fun _ hk => hk.2) (.slice Ao54 t183.length co54)) (fun _ h_ => h_.1))) (Kd.R_base ho0) hb); have n1_ := Aside0.mk (Kd.R_elder' (by (with_reducible repeat (first | apply Kd.R_alloc | apply Kd.R_drewN | apply Kd.R_drew)); exact (Kd.R_mono (Kd.R_far (p := ⟨gb186, 3, none⟩) (Kd.R_far (p := ⟨gb186, 2, none⟩) (Kd.R_far (p := ⟨gb186, 1, none⟩) (Kd.R_far (p := ⟨gb186, 0, none⟩) (Kd.R_types HO179.out BK186.out (by decide)) (fun _ hk => hk.2) (.int .i64 t180)) (fun _ hk => hk.2) (.int .i64 t181)) (fun _ hk => hk.2) (.int .i64 t182)) (fun _ hk => hk.2) (.slice Ao54 t183.length co54)) (fun _ h_ => h_.1))) (Kd.R_base ho0) hb); have n2_ := Aside0.mk (Kd.R_elder' (by (with_reducible repeat (first | apply Kd.R_alloc | apply Kd.R_drewN | apply Kd.R_drew)); exact (Kd.R_mono (Kd.R_far (p := ⟨gb186, 3, none⟩) (Kd.R_far (p := ⟨gb186, 2, none⟩) (Kd.R_far (p := ⟨gb186, 1, none⟩) (Kd.R_far (p := ⟨gb186, 0, none⟩) (Kd.R_types HO185.out BK186.out (by decide)) (fun _ hk => hk.2) (.int .i64 t180)) (fun _ hk => hk.2) (.int .i64 t181)) (fun _ hk => hk.2) (.int .i64 t182)) (fun _ hk => hk.2) (.slice Ao54 t183.length co54)) (fun _ h_ => h_.1))) (Kd.R_base ho0) hb); have n3_ := Aside0.mk (Kd.R_lower (Kd.R_new' (Kd.R_new' (Kd.R_new' ho0 (Kd.R_lt (by (with_reducible repeat (first | apply Kd.R_alloc | apply Kd.R_drewN | apply Kd.R_drew)); exact (Kd.R_mono (Kd.R_far (p := ⟨gb186, 3, none⟩) (Kd.R_far (p := ⟨gb186, 2, none⟩) (Kd.R_far (p := ⟨gb186, 1, none⟩) (Kd.R_far (p := ⟨gb186, 0, none⟩) (Kd.R_types HO174.out BK186.out (by decide)) (fun _ hk => hk.2) (.int .i64 t180)) (fun _ hk => hk.2) (.int .i64 t181)) (fun _ hk => hk.2) (.int .i64 t182)) (fun _ hk => hk.2) (.slice Ao54 t183.length co54)) (fun _ h_ => h_.1))))) (Kd.R_lt (by (with_reducible repeat (first | apply Kd.R_alloc | apply Kd.R_drewN | apply Kd.R_drew)); exact (Kd.R_mono (Kd.R_far (p := ⟨gb186, 3, none⟩) (Kd.R_far (p := ⟨gb186, 2, none⟩) (Kd.R_far (p := ⟨gb186, 1, none⟩) (Kd.R_far (p := ⟨gb186, 0, none⟩) (Kd.R_types HO179.out BK186.out (by decide)) (fun _ hk => hk.2) (.int .i64 t180)) (fun _ hk => hk.2) (.int .i64 t181)) (fun _ hk => hk.2) (.int .i64 t182)) (fun _ hk => hk.2) (.slice Ao54 t183.length co54)) (fun _ h_ => h_.1))))) (Kd.R_lt (by (with_reducible repeat (first | apply Kd.R_alloc | apply Kd.R_drewN | apply Kd.R_drew)); exact (Kd.R_mono (Kd.R_far (p := ⟨gb186, 3, none⟩) (Kd.R_far (p := ⟨gb186, 2, none⟩) (Kd.R_far (p := ⟨gb186, 1, none⟩) (Kd.R_far (p := ⟨gb186, 0, none⟩) (Kd.R_types HO185.out BK186.out (by decide)) (fun _ hk => hk.2) (.int .i64 t180)) (fun _ hk => hk.2) (.int .i64 t181)) (fun _ hk => hk.2) (.int .i64 t182)) (fun _ hk => hk.2) (.slice Ao54 t183.length co54)) (fun _ h_ => h_.1))))) (below_size (by repeat (first | (with_reducible first | exact HB.out | apply below_alloc | apply pw_below_drewN | apply below_drew1 | refine below_set ?_ GE166.out | refine below_set ?_ GE167.out | refine below_set ?_ GE186.out) | exact HB.out)))); have n4_ := Aside0.mk (blk_below (g := gb166) (o := .cells #[.int .i64 a0_0, .int .i64 a0_1, .slice A0_2 l0_2.length c0_2] 32 (0, 0)) (by (with_reducible repeat (first | refine blk_drewN ?_ _ | refine blk_drew ?_ | refine blk_alloc ?_ _)); refine blk_far ?_ NB166_186.out _; (with_reducible repeat (first | refine blk_drewN ?_ _ | refine blk_drew ?_ | refine blk_alloc ?_ _)); refine blk_far ?_ NB166_186.out _; (with_reducible repeat (first | refine blk_drewN ?_ _ | refine blk_drew ?_ | refine blk_alloc ?_ _)); refine blk_far ?_ NB166_186.out _; (with_reducible repeat (first | refine blk_drewN ?_ _ | refine blk_drew ?_ | refine blk_alloc ?_ _)); refine blk_far ?_ NB166_186.out _; (with_reducible repeat (first | refine blk_drewN ?_ _ | refine blk_drew ?_ | refine blk_alloc ?_ _)); exact BK166.out) hb); have n5_ := Aside0.mk (blk_below (g := gb167) (o := .cells #[.int .i64 a1_0, .int .i64 a1_1, .slice A1_2 l1_2.length c1_2] 32 (0, 0)) (by (with_reducible repeat (first | refine blk_drewN ?_ _ | refine blk_drew ?_ | refine blk_alloc ?_ _)); refine blk_far ?_ NB167_186.out _; (with_reducible repeat (first | refine blk_drewN ?_ _ | refine blk_drew ?_ | refine blk_alloc ?_ _)); refine blk_far ?_ NB167_186.out _; (with_reducible repeat (first | refine blk_drewN ?_ _ | refine blk_drew ?_ | refine blk_alloc ?_ _)); refine blk_far ?_ NB167_186.out _; (with_reducible repeat (first | refine blk_drewN ?_ _ | refine blk_drew ?_ | refine blk_alloc ?_ _)); refine blk_far ?_ NB167_186.out _; (with_reducible repeat (first | refine blk_drewN ?_ _ | refine blk_drew ?_ | refine blk_alloc ?_ _)); exact BK167.out) hb); have n6_ := Aside0.mk (blk_below (g := gb186) (o := .cells #[.int .i64 t180, .int .i64 t181, .int .i64 t182, .slice Ao54 t183.length co54] 36 (0, 0)) (by (with_reducible repeat (first | refine blk_drewN ?_ _ | refine blk_drew ?_ | refine blk_alloc ?_ _)); refine blk_put (cs := #[.int .i64 t180, .int .i64 t181, .int .i64 t182, .slice none 0 0]) ?_ 3 _ rfl; (with_reducible repeat (first | refine blk_drewN ?_ _ | refine blk_drew ?_ | refine blk_alloc ?_ _)); refine blk_put (cs := #[.int .i64 t180, .int .i64 t181, .int .i64 0, .slice none 0 0]) ?_ 2 _ rfl; (with_reducible repeat (first | refine blk_drewN ?_ _ | refine blk_drew ?_ | refine blk_alloc ?_ _)); refine blk_put (cs := #[.int .i64 t180, .int .i64 0, .int .i64 0, .slice none 0 0]) ?_ 1 _ rfl; (with_reducible repeat (first | refine blk_drewN ?_ _ | refine blk_drew ?_ | refine blk_alloc ?_ _)); refine blk_put (cs := #[.int .i64 0, .int .i64 0, .int .i64 0, .slice none 0 0]) ?_ 0 _ rfl; (with_reducible repeat (first | refine blk_drewN ?_ _ | refine blk_drew ?_ | refine blk_alloc ?_ _)); exact BK186.out) hb); have n7_ := Aside0.mk (below_step (by repeat (first | (with_reducible first | exact HB.out | apply below_alloc | apply pw_below_drewN | apply below_drew1 | refine below_set ?_ GE166.out | refine below_set ?_ GE167.out | refine below_set ?_ GE186.out) | exact HB.out)) hb); clear HO174; clear HO179; clear HO185; clear BK166; clear BK167; clear BK186; clear HB; have HO174 := n0_; have HO179 := n1_; have HO185 := n2_; have HO191 := n3_; have BK166 := n4_; have BK167 := n5_; have BK186 := n6_; have HB := n7_; clear n0_ n1_ n2_ n3_ n4_ n5_ n6_ n7_; (try clear hb); (try clear hb2); (try clear hk); (try clear hi); (try clear ho0)) | ((with_reducible refine gate_dst (N := 7) rfl ?_); refine box_event ?hg (N := 7) ?hd (cs := #[.int .i64 0, .int .i64 0, .slice none 0 0]) (t := 34) ?hr ?_; (case hd => rfl); (case hg => rfl); (case hr => first | (go_simp; done) | (go_simp; rfl)); intro gb192 hg w59 hbox hb; have n0_ := Aside0.mk (Kd.R_below HO174.out hb); have n1_ := Aside0.mk (Kd.R_below HO179.out hb); have n2_ := Aside0.mk (Kd.R_below HO185.out hb); have n3_ := Aside0.mk (Kd.R_below HO191.out hb); have n4_ := Aside0.mk (blk_below BK166.out hb); have n5_ := Aside0.mk (blk_below BK167.out hb); have n6_ := Aside0.mk (blk_below BK186.out hb); have n7_ := Aside0.mk (below_step HB.out hb); have n8_ := Aside0.mk (hbox); have n9_ := Aside0.mk ((by rw [hg]; exact (below_size HB.out) : w.heap.size ≤ gb192)); have n10_ := Aside0.mk ((by rw [hg]; exact (below_size HB.out) : w.heap.size ≤ gb192)); have n11_ := Aside0.mk ((by rw [hg]; exact Nat.ne_of_lt (blk_lt BK166.out) : gb166 ≠ gb192)); have n12_ := Aside0.mk ((by rw [hg]; exact Nat.ne_of_gt (blk_lt BK166.out) : gb192 ≠ gb166)); have n13_ := Aside0.mk ((by rw [hg]; exact Nat.ne_of_lt (blk_lt BK167.out) : gb167 ≠ gb192)); have n14_ := Aside0.mk ((by rw [hg]; exact Nat.ne_of_gt (blk_lt BK167.out) : gb192 ≠ gb167)); have n15_ := Aside0.mk ((by rw [hg]; exact Nat.ne_of_lt (blk_lt BK186.out) : gb186 ≠ gb192)); have n16_ := Aside0.mk ((by rw [hg]; exact Nat.ne_of_gt (blk_lt BK186.out) : gb192 ≠ gb186)); clear HO174; clear HO179; clear HO185; clear HO191; clear BK166; clear BK167; clear BK186; clear HB; have HO174 := n0_; have HO179 := n1_; have HO185 := n2_; have HO191 := n3_; have BK166 := n4_; have BK167 := n5_; have BK186 := n6_; have HB := n7_; have BK192 := n8_; have GW192 := n9_; have GE192 := n10_; have NB166_192 := n11_; have NB192_166 := n12_; have NB167_192 := n13_; have NB192_167 := n14_; have NB186_192 := n15_; have NB192_186 := n16_; clear n0_ n1_ n2_ n3_ n4_ n5_ n6_ n7_ n8_ n9_ n10_ n11_ n12_ n13_ n14_ n15_ n16_; clear hb hbox hg; have hnb60 := NB192_166.out; have hnc60 := NB166_192.out; have hnb61 := NB192_167.out; have hnc61 := NB167_192.out; have hnb62 := NB192_186.out; have hnc62 := NB186_192.out; have hcz63_0 : w59.cell? ⟨gb192, 0, none⟩ = some (.int .i64 0) := (blk_cell BK192.out 0).trans rfl; have hcz63_1 : w59.cell? ⟨gb192, 1, none⟩ = some (.int .i64 0) := (blk_cell BK192.out 1).trans rfl; have hcz63_2 : w59.cell? ⟨gb192, 2, none⟩ = some (.slice none 0 0) := (blk_cell BK192.out 2).trans rfl; have hfz63_0 := blk_frozen BK192.out 0; have hfz63_1 := blk_frozen BK192.out 1; have hfz63_2 := blk_frozen BK192.out 2; obtain ⟨Ao64, co64, eo64⟩ := Kd.R_slice HO191.out; subst eo64; have hnb65 := NB167_186.out; have hnc65 := NB186_167.out; have hcz66_0 : w59.cell? ⟨gb167, 0, none⟩ = some (.int .i64 a1_0) := (blk_cell BK167.out 0).trans rfl; have hcz66_1 : w59.cell? ⟨gb167, 1, none⟩ = some (.int .i64 a1_1) := (blk_cell BK167.out 1).trans rfl; have hcz66_2 : w59.cell? ⟨gb167, 2, none⟩ = some (.slice A1_2 l1_2.length c1_2) := (blk_cell BK167.out 2).trans rfl; have hfz66_0 := blk_frozen BK167.out 0; have hfz66_1 := blk_frozen BK167.out 1; have hfz66_2 := blk_frozen BK167.out 2) | ((with_reducible refine gate_callee (f := 19) rfl ?_); refine goesL_ (some 32) rfl rfl Try.func19 (by kernel_rfl) rfl #[.agg #[.int .i64 a1_0, .int .i64 a1_1, .slice A1_2 l1_2.length c1_2]] rfl (by (try simp only [List.map_toArray, List.map_cons, List.map_nil]); first | done | rfl | (simp only [List.length_drop, List.length_take]; rfl)) ?_; (with_reducible refine (laws_toMatrix.calls k a1_0 a1_1 _ _ l1_2 t193 t194 t195 _ ?side1 ?side2 A23.out).mono ?_); (case side1 => exact Kd.C_below HR1_2.out (by repeat (first | (with_reducible first | exact HB.out | apply below_alloc | apply pw_below_drewN | apply below_drew1 | refine below_set ?_ GE166.out | refine below_set ?_ GE167.out | refine below_set ?_ GE186.out | refine below_set ?_ GE192.out) | exact HB.out))); (case side2 => exact HC1_2.out); rintro e w67 ⟨v196, rfl, ho0, hb⟩; refine ⟨_, rfl, ?_⟩; have n0_ := Aside0.mk (Kd.R_elder' (by (with_reducible repeat (first | apply Kd.R_alloc | apply Kd.R_drewN | apply Kd.R_drew)); exact (Kd.R_mono (Kd.R_far (p := ⟨gb192, 2, none⟩) (Kd.R_far (p := ⟨gb192, 1, none⟩) (Kd.R_far (p := ⟨gb192, 0, none⟩) (Kd.R_types HO174.out BK192.out (by decide)) (fun _ hk => hk.2) (.int .i64 t187)) (fun _ hk => hk.2) (.int .i64 t188)) (fun _ hk => hk.2) (.slice Ao64 t189.length co64)) (fun _ h_ => h_.1))) (Kd.R_base ho0) hb); have n1_ := Aside0.mk (Kd.R_elder' (by (with_reducible repeat (first | apply Kd.R_alloc | apply Kd.R_drewN | apply Kd.R_drew)); exact (Kd.R_mono (Kd.R_far (p := ⟨gb192, 2, none⟩) (Kd.R_far (p := ⟨gb192, 1, none⟩) (Kd.R_far (p := ⟨gb192, 0, none⟩) (Kd.R_types HO179.out BK192.out (by decide)) (fun _ hk => hk.2) (.int .i64 t187)) (fun _ hk => hk.2) (.int .i64 t188)) (fun _ hk => hk.2) (.slice Ao64 t189.length co64)) (fun _ h_ => h_.1))) (Kd.R_base ho0) hb); have n2_ := Aside0.mk (Kd.R_elder' (by (with_reducible repeat (first | apply Kd.R_alloc | apply Kd.R_drewN | apply Kd.R_drew)); exact (Kd.R_mono (Kd.R_far (p := ⟨gb192, 2, none⟩) (Kd.R_far (p := ⟨gb192, 1, none⟩) (Kd.R_far (p := ⟨gb192, 0, none⟩) (Kd.R_types HO185.out BK192.out (by decide)) (fun _ hk => hk.2) (.int .i64 t187)) (fun _ hk => hk.2) (.int .i64 t188)) (fun _ hk => hk.2) (.slice Ao64 t189.length co64)) (fun _ h_ => h_.1))) (Kd.R_base ho0) hb); have n3_ := Aside0.mk (Kd.R_elder' (by (with_reducible repeat (first | apply Kd.R_alloc | apply Kd.R_drewN | apply Kd.R_drew)); exact (Kd.R_mono (Kd.R_far (p := ⟨gb192, 2, none⟩) (Kd.R_far (p := ⟨gb192, 1, none⟩) (Kd.R_far (p := ⟨gb192, 0, none⟩) (Kd.R_types HO191.out BK192.out (by decide)) (fun _ hk => hk.2) (.int .i64 t187)) (fun _ hk => hk.2) (.int .i64 t188)) (fun _ hk => hk.2) (.slice Ao64 t189.length co64)) (fun _ h_ => h_.1))) (Kd.R_base ho0) hb); have n4_ := Aside0.mk (Kd.R_lower (Kd.R_new' (Kd.R_new' (Kd.R_new' (Kd.R_new' ho0 (Kd.R_lt (by (with_reducible repeat (first | apply Kd.R_alloc | apply Kd.R_drewN | apply Kd.R_drew)); exact (Kd.R_mono (Kd.R_far (p := ⟨gb192, 2, none⟩) (Kd.R_far (p := ⟨gb192, 1, none⟩) (Kd.R_far (p := ⟨gb192, 0, none⟩) (Kd.R_types HO174.out BK192.out (by decide)) (fun _ hk => hk.2) (.int .i64 t187)) (fun _ hk => hk.2) (.int .i64 t188)) (fun _ hk => hk.2) (.slice Ao64 t189.length co64)) (fun _ h_ => h_.1))))) (Kd.R_lt (by (with_reducible repeat (first | apply Kd.R_alloc | apply Kd.R_drewN | apply Kd.R_drew)); exact (Kd.R_mono (Kd.R_far (p := ⟨gb192, 2, none⟩) (Kd.R_far (p := ⟨gb192, 1, none⟩) (Kd.R_far (p := ⟨gb192, 0, none⟩) (Kd.R_types HO179.out BK192.out (by decide)) (fun _ hk => hk.2) (.int .i64 t187)) (fun _ hk => hk.2) (.int .i64 t188)) (fun _ hk => hk.2) (.slice Ao64 t189.length co64)) (fun _ h_ => h_.1))))) (Kd.R_lt (by (with_reducible repeat (first | apply Kd.R_alloc | apply Kd.R_drewN | apply Kd.R_drew)); exact (Kd.R_mono (Kd.R_far (p := ⟨gb192, 2, none⟩) (Kd.R_far (p := ⟨gb192, 1, none⟩) (Kd.R_far (p := ⟨gb192, 0, none⟩) (Kd.R_types HO185.out BK192.out (by decide)) (fun _ hk => hk.2) (.int .i64 t187)) (fun _ hk => hk.2) (.int .i64 t188)) (fun _ hk => hk.2) (.slice Ao64 t189.length co64)) (fun _ h_ => h_.1))))) (Kd.R_lt (by (with_reducible repeat (first | apply Kd.R_alloc | apply Kd.R_drewN | apply Kd.R_drew)); exact (Kd.R_mono (Kd.R_far (p := ⟨gb192, 2, none⟩) (Kd.R_far (p := ⟨gb192, 1, none⟩) (Kd.R_far (p := ⟨gb192, 0, none⟩) (Kd.R_types HO191.out BK192.out (by decide)) (fun _ hk => hk.2) (.int .i64 t187)) (fun _ hk => hk.2) (.int .i64 t188)) (fun _ hk => hk.2) (.slice Ao64 t189.length co64)) (fun _ h_ => h_.1))))) (below_size (by repeat (first | (with_reducible first | exact HB.out | apply below_alloc | apply pw_below_drewN | apply below_drew1 | refine below_set ?_ GE166.out | refine below_set ?_ GE167.out | refine below_set ?_ GE186.out | refine below_set ?_ GE192.out) | exact HB.out)))); have n5_ := Aside0.mk (blk_below (g := gb166) (o := .cells #[.int .i64 a0_0, .int .i64 a0_1, .slice A0_2 l0_2.length c0_2] 32 (0, 0)) (by (with_reducible repeat (first | refine blk_drewN ?_ _ | refine blk_drew ?_ | refine blk_alloc ?_ _)); refine blk_far ?_ NB166_192.out _; (with_reducible repeat (first | refine blk_drewN ?_ _ | refine blk_drew ?_ | refine blk_alloc ?_ _)); refine blk_far ?_ NB166_192.out _; (with_reducible repeat (first | refine blk_drewN ?_ _ | refine blk_drew ?_ | refine blk_alloc ?_ _)); refine blk_far ?_ NB166_192.out _; (with_reducible repeat (first | refine blk_drewN ?_ _ | refine blk_drew ?_ | refine blk_alloc ?_ _)); exact BK166.out) hb); have n6_ := Aside0.mk (blk_below (g := gb167) (o := .cells #[.int .i64 a1_0, .int .i64 a1_1, .slice A1_2 l1_2.length c1_2] 32 (0, 0)) (by (with_reducible repeat (first | refine blk_drewN ?_ _ | refine blk_drew ?_ | refine blk_alloc ?_ _)); refine blk_far ?_ NB167_192.out _; (with_reducible repeat (first | refine blk_drewN ?_ _ | refine blk_drew ?_ | refine blk_alloc ?_ _)); refine blk_far ?_ NB167_192.out _; (with_reducible repeat (first | refine blk_drewN ?_ _ | refine blk_drew ?_ | refine blk_alloc ?_ _)); refine blk_far ?_ NB167_192.out _; (with_reducible repeat (first | refine blk_drewN ?_ _ | refine blk_drew ?_ | refine blk_alloc ?_ _)); exact BK167.out) hb); have n7_ := Aside0.mk (blk_below (g := gb186) (o := .cells #[.int .i64 t180, .int .i64 t181, .int .i64 t182, .slice Ao54 t183.length co54] 36 (0, 0)) (by (with_reducible repeat (first | refine blk_drewN ?_ _ | refine blk_drew ?_ | refine blk_alloc ?_ _)); refine blk_far ?_ NB186_192.out _; (with_reducible repeat (first | refine blk_drewN ?_ _ | refine blk_drew ?_ | refine blk_alloc ?_ _)); refine blk_far ?_ NB186_192.out _; (with_reducible repeat (first | refine blk_drewN ?_ _ | refine blk_drew ?_ | refine blk_alloc ?_ _)); refine blk_far ?_ NB186_192.out _; (with_reducible repeat (first | refine blk_drewN ?_ _ | refine blk_drew ?_ | refine blk_alloc ?_ _)); exact BK186.out) hb); have n8_ := Aside0.mk (blk_below (g := gb192) (o := .cells #[.int .i64 t187, .int .i64 t188, .slice Ao64 t189.length co64] 34 (0, 0)) (by (with_reducible repeat (first | refine blk_drewN ?_ _ | refine blk_drew ?_ | refine blk_alloc ?_ _)); refine blk_put (cs := #[.int .i64 t187, .int .i64 t188, .slice none 0 0]) ?_ 2 _ rfl; (with_reducible repeat (first | refine blk_drewN ?_ _ | refine blk_drew ?_ | refine blk_alloc ?_ _)); refine blk_put (cs := #[.int .i64 t187, .int .i64 0, .slice none 0 0]) ?_ 1 _ rfl; (with_reducible repeat (first | refine blk_drewN ?_ _ | refine blk_drew ?_ | refine blk_alloc ?_ _)); refine blk_put (cs := #[.int .i64 0, .int .i64 0, .slice none 0 0]) ?_ 0 _ rfl; (with_reducible repeat (first | refine blk_drewN ?_ _ | refine blk_drew ?_ | refine blk_alloc ?_ _)); exact BK192.out) hb); have n9_ := Aside0.mk (below_step (by repeat (first | (with_reducible first | exact HB.out | apply below_alloc | apply pw_below_drewN | apply below_drew1 | refine below_set ?_ GE166.out | refine below_set ?_ GE167.out | refine below_set ?_ GE186.out | refine below_set ?_ GE192.out) | exact HB.out)) hb); clear HO174; clear HO179; clear HO185; clear HO191; clear BK166; clear BK167; clear BK186; clear BK192; clear HB; have HO174 := n0_; have HO179 := n1_; have HO185 := n2_; have HO191 := n3_; have HO197 := n4_; have BK166 := n5_; have BK167 := n6_; have BK186 := n7_; have BK192 := n8_; have HB := n9_; clear n0_ n1_ n2_ n3_ n4_ n5_ n6_ n7_ n8_ n9_; (try clear hb); (try clear hb2); (try clear hk); (try clear hi); (try clear ho0)) | ((with_reducible refine gate_dst (N := 8) rfl ?_); refine box_event ?hg (N := 8) ?hd (cs := #[.int .i64 0, .int .i64 0, .slice none 0 0]) (t := 34) ?hr ?_; (case hd => rfl); (case hg => rfl); (case hr => first | (go_simp; done) | (go_simp; rfl)); intro gb198 hg w68 hbox hb; have n0_ := Aside0.mk (Kd.R_below HO174.out hb); have n1_ := Aside0.mk (Kd.R_below HO179.out hb); have n2_ := Aside0.mk (Kd.R_below HO185.out hb); have n3_ := Aside0.mk (Kd.R_below HO191.out hb); have n4_ := Aside0.mk (Kd.R_below HO197.out hb); have n5_ := Aside0.mk (blk_below BK166.out hb); have n6_ := Aside0.mk (blk_below BK167.out hb); have n7_ := Aside0.mk (blk_below BK186.out hb); have n8_ := Aside0.mk (blk_below BK192.out hb); have n9_ := Aside0.mk (below_step HB.out hb); have n10_ := Aside0.mk (hbox); have n11_ := Aside0.mk ((by rw [hg]; exact (below_size HB.out) : w.heap.size ≤ gb198)); have n12_ := Aside0.mk ((by rw [hg]; exact (below_size HB.out) : w.heap.size ≤ gb198)); have n13_ := Aside0.mk ((by rw [hg]; exact Nat.ne_of_lt (blk_lt BK166.out) : gb166 ≠ gb198)); have n14_ := Aside0.mk ((by rw [hg]; exact Nat.ne_of_gt (blk_lt BK166.out) : gb198 ≠ gb166)); have n15_ := Aside0.mk ((by rw [hg]; exact Nat.ne_of_lt (blk_lt BK167.out) : gb167 ≠ gb198)); have n16_ := Aside0.mk ((by rw [hg]; exact Nat.ne_of_gt (blk_lt BK167.out) : gb198 ≠ gb167)); have n17_ := Aside0.mk ((by rw [hg]; exact Nat.ne_of_lt (blk_lt BK186.out) : gb186 ≠ gb198)); have n18_ := Aside0.mk ((by rw [hg]; exact Nat.ne_of_gt (blk_lt BK186.out) : gb198 ≠ gb186)); have n19_ := Aside0.mk ((by rw [hg]; exact Nat.ne_of_lt (blk_lt BK192.out) : gb192 ≠ gb198)); have n20_ := Aside0.mk ((by rw [hg]; exact Nat.ne_of_gt (blk_lt BK192.out) : gb198 ≠ gb192)); clear HO174; clear HO179; clear HO185; clear HO191; clear HO197; clear BK166; clear BK167; clear BK186; clear BK192; clear HB; have HO174 := n0_; have HO179 := n1_; have HO185 := n2_; have HO191 := n3_; have HO197 := n4_; have BK166 := n5_; have BK167 := n6_; have BK186 := n7_; have BK192 := n8_; have HB := n9_; have BK198 := n10_; have GW198 := n11_; have GE198 := n12_; have NB166_198 := n13_; have NB198_166 := n14_; have NB167_198 := n15_; have NB198_167 := n16_; have NB186_198 := n17_; have NB198_186 := n18_; have NB192_198 := n19_; have NB198_192 := n20_; clear n0_ n1_ n2_ n3_ n4_ n5_ n6_ n7_ n8_ n9_ n10_ n11_ n12_ n13_ n14_ n15_ n16_ n17_ n18_ n19_ n20_; clear hb hbox hg; have hnb69 := NB198_166.out; have hnc69 := NB166_198.out; have hnb70 := NB198_167.out; have hnc70 := NB167_198.out; have hnb71 := NB198_186.out; have hnc71 := NB186_198.out; have hnb72 := NB198_192.out; have hnc72 := NB192_198.out; have hcz73_0 : w68.cell? ⟨gb198, 0, none⟩ = some (.int .i64 0) := (blk_cell BK198.out 0).trans rfl; have hcz73_1 : w68.cell? ⟨gb198, 1, none⟩ = some (.int .i64 0) := (blk_cell BK198.out 1).trans rfl; have hcz73_2 : w68.cell? ⟨gb198, 2, none⟩ = some (.slice none 0 0) := (blk_cell BK198.out 2).trans rfl; have hfz73_0 := blk_frozen BK198.out 0; have hfz73_1 := blk_frozen BK198.out 1; have hfz73_2 := blk_frozen BK198.out 2; obtain ⟨Ao74, co74, eo74⟩ := Kd.R_slice HO197.out; subst eo74; have hcz75_0 : w68.cell? ⟨gb192, 0, none⟩ = some (.int .i64 t187) := (blk_cell BK192.out 0).trans rfl; have hcz75_1 : w68.cell? ⟨gb192, 1, none⟩ = some (.int .i64 t188) := (blk_cell BK192.out 1).trans rfl; have hcz75_2 : w68.cell? ⟨gb192, 2, none⟩ = some (.slice Ao64 t189.length co64) := (blk_cell BK192.out 2).trans rfl; have hfz75_0 := blk_frozen BK192.out 0; have hfz75_1 := blk_frozen BK192.out 1; have hfz75_2 := blk_frozen BK192.out 2) | ((with_reducible refine gate_callee (f := 20) rfl ?_); refine goesL_ (some 35) rfl rfl Try.func20 (by kernel_rfl) rfl #[.agg #[.int .i64 t187, .int .i64 t188, .slice Ao64 t189.length co64], .agg #[.int .i64 t193, .int .i64 t194, .slice Ao74 t195.length co74]] rfl (by (try simp only [List.map_toArray, List.map_cons, List.map_nil]); first | done | rfl | (simp only [List.length_drop, List.length_take]; rfl)) ?_; (with_reducible refine (impl_MatMul.calls k t187 t188 _ _ t189 t193 t194 _ _ t195 t199 t200 t201 t202 _ ?side1 ?side2 ?side3 ?side4 A24.out).mono ?_); (case side1 => refine (Kd.R_reads' (e := 2) (base := w.heap.size) (ok := fun k_ => ((((True ∧ some k_ ≠ (v173 : Value).ownBlock) ∧ some k_ ≠ (v178 : Value).ownBlock) ∧ some k_ ≠ (.slice Ao54 t183.length co54 : Value).ownBlock) ∧ some k_ ≠ (.slice Ao74 t195.length co74 : Value).ownBlock)) (n := t189.length) (c := co64) ?_).2.2; exact (by (with_reducible repeat (first | apply Kd.R_alloc | apply Kd.R_drewN | apply Kd.R_drew)); exact (Kd.R_mono (Kd.R_far (p := ⟨gb198, 2, none⟩) (Kd.R_far (p := ⟨gb198, 1, none⟩) (Kd.R_far (p := ⟨gb198, 0, none⟩) (Kd.R_types HO191.out BK198.out (by decide)) (fun _ hk => hk.2) (.int .i64 t193)) (fun _ hk => hk.2) (.int .i64 t194)) (fun _ hk => hk.2) (.slice Ao74 t195.length co74)) (fun _ h_ => h_.1)))); (case side2 => exact (Kd.R_reads' HO191.out).2.1); (case side3 => refine (Kd.R_reads' (e := 2) (base := w.heap.size) (ok := fun k_ => ((((True ∧ some k_ ≠ (v173 : Value).ownBlock) ∧ some k_ ≠ (v178 : Value).ownBlock) ∧ some k_ ≠ (.slice Ao54 t183.length co54 : Value).ownBlock) ∧ some k_ ≠ (.slice Ao64 t189.length co64 : Value).ownBlock)) (n := t195.length) (c := co74) ?_).2.2; exact (by (with_reducible repeat (first | apply Kd.R_alloc | apply Kd.R_drewN | apply Kd.R_drew)); exact (Kd.R_mono (Kd.R_far (p := ⟨gb198, 2, none⟩) (Kd.R_far (p := ⟨gb198, 1, none⟩) (Kd.R_far (p := ⟨gb198, 0, none⟩) (Kd.R_types HO197.out BK198.out (by decide)) (fun _ hk => hk.2) (.int .i64 t193)) (fun _ hk => hk.2) (.int .i64 t194)) (fun _ hk => hk.2) (.slice Ao74 t195.length co74)) (fun _ h_ => h_.1)))); (case side4 => exact (Kd.R_reads' HO197.out).2.1); rintro e w76 ⟨v203, rfl, ho0, hb⟩; refine ⟨_, rfl, ?_⟩; have n0_ := Aside0.mk (Kd.R_elder' (by (with_reducible repeat (first | apply Kd.R_alloc | apply Kd.R_drewN | apply Kd.R_drew)); exact (Kd.R_mono (Kd.R_far (p := ⟨gb198, 2, none⟩) (Kd.R_far (p := ⟨gb198, 1, none⟩) (Kd.R_far (p := ⟨gb198, 0, none⟩) (Kd.R_types HO174.out BK198.out (by decide)) (fun _ hk => hk.2) (.int .i64 t193)) (fun _ hk => hk.2) (.int .i64 t194)) (fun _ hk => hk.2) (.slice Ao74 t195.length co74)) (fun _ h_ => h_.1))) (Kd.R_base ho0) hb); have n1_ := Aside0.mk (Kd.R_elder' (by (with_reducible repeat (first | apply Kd.R_alloc | apply Kd.R_drewN | apply Kd.R_drew)); exact (Kd.R_mono (Kd.R_far (p := ⟨gb198, 2, none⟩) (Kd.R_far (p := ⟨gb198, 1, none⟩) (Kd.R_far (p := ⟨gb198, 0, none⟩) (Kd.R_types HO179.out BK198.out (by decide)) (fun _ hk => hk.2) (.int .i64 t193)) (fun _ hk => hk.2) (.int .i64 t194)) (fun _ hk => hk.2) (.slice Ao74 t195.length co74)) (fun _ h_ => h_.1))) (Kd.R_base ho0) hb); have n2_ := Aside0.mk (Kd.R_elder' (by (with_reducible repeat (first | apply Kd.R_alloc | apply Kd.R_drewN | apply Kd.R_drew)); exact (Kd.R_mono (Kd.R_far (p := ⟨gb198, 2, none⟩) (Kd.R_far (p := ⟨gb198, 1, none⟩) (Kd.R_far (p := ⟨gb198, 0, none⟩) (Kd.R_types HO185.out BK198.out (by decide)) (fun _ hk => hk.2) (.int .i64 t193)) (fun _ hk => hk.2) (.int .i64 t194)) (fun _ hk => hk.2) (.slice Ao74 t195.length co74)) (fun _ h_ => h_.1))) (Kd.R_base ho0) hb); have n3_ := Aside0.mk (Kd.R_elder' (by (with_reducible repeat (first | apply Kd.R_alloc | apply Kd.R_drewN | apply Kd.R_drew)); exact (Kd.R_mono (Kd.R_far (p := ⟨gb198, 2, none⟩) (Kd.R_far (p := ⟨gb198, 1, none⟩) (Kd.R_far (p := ⟨gb198, 0, none⟩) (Kd.R_types HO191.out BK198.out (by decide)) (fun _ hk => hk.2) (.int .i64 t193)) (fun _ hk => hk.2) (.int .i64 t194)) (fun _ hk => hk.2) (.slice Ao74 t195.length co74)) (fun _ h_ => h_.1))) (Kd.R_base ho0) hb); have n4_ := Aside0.mk (Kd.R_elder' (by (with_reducible repeat (first | apply Kd.R_alloc | apply Kd.R_drewN | apply Kd.R_drew)); exact (Kd.R_mono (Kd.R_far (p := ⟨gb198, 2, none⟩) (Kd.R_far (p := ⟨gb198, 1, none⟩) (Kd.R_far (p := ⟨gb198, 0, none⟩) (Kd.R_types HO197.out BK198.out (by decide)) (fun _ hk => hk.2) (.int .i64 t193)) (fun _ hk => hk.2) (.int .i64 t194)) (fun _ hk => hk.2) (.slice Ao74 t195.length co74)) (fun _ h_ => h_.1))) (Kd.R_base ho0) hb); have n5_ := Aside0.mk (Kd.R_lower (Kd.R_new' (Kd.R_new' (Kd.R_new' (Kd.R_new' (Kd.R_new' ho0 (Kd.R_lt (by (with_reducible repeat (first | apply Kd.R_alloc | apply Kd.R_drewN | apply Kd.R_drew)); exact (Kd.R_mono (Kd.R_far (p := ⟨gb198, 2, none⟩) (Kd.R_far (p := ⟨gb198, 1, none⟩) (Kd.R_far (p := ⟨gb198, 0, none⟩) (Kd.R_types HO174.out BK198.out (by decide)) (fun _ hk => hk.2) (.int .i64 t193)) (fun _ hk => hk.2) (.int .i64 t194)) (fun _ hk => hk.2) (.slice Ao74 t195.length co74)) (fun _ h_ => h_.1))))) (Kd.R_lt (by (with_reducible repeat (first | apply Kd.R_alloc | apply Kd.R_drewN | apply Kd.R_drew)); exact (Kd.R_mono (Kd.R_far (p := ⟨gb198, 2, none⟩) (Kd.R_far (p := ⟨gb198, 1, none⟩) (Kd.R_far (p := ⟨gb198, 0, none⟩) (Kd.R_types HO179.out BK198.out (by decide)) (fun _ hk => hk.2) (.int .i64 t193)) (fun _ hk => hk.2) (.int .i64 t194)) (fun _ hk => hk.2) (.slice Ao74 t195.length co74)) (fun _ h_ => h_.1))))) (Kd.R_lt (by (with_reducible repeat (first | apply Kd.R_alloc | apply Kd.R_drewN | apply Kd.R_drew)); exact (Kd.R_mono (Kd.R_far (p := ⟨gb198, 2, none⟩) (Kd.R_far (p := ⟨gb198, 1, none⟩) (Kd.R_far (p := ⟨gb198, 0, none⟩) (Kd.R_types HO185.out BK198.out (by decide)) (fun _ hk => hk.2) (.int .i64 t193)) (fun _ hk => hk.2) (.int .i64 t194)) (fun _ hk => hk.2) (.slice Ao74 t195.length co74)) (fun _ h_ => h_.1))))) (Kd.R_lt (by (with_reducible repeat (first | apply Kd.R_alloc | apply Kd.R_drewN | apply Kd.R_drew)); exact (Kd.R_mono (Kd.R_far (p := ⟨gb198, 2, none⟩) (Kd.R_far (p := ⟨gb198, 1, none⟩) (Kd.R_far (p := ⟨gb198, 0, none⟩) (Kd.R_types HO191.out BK198.out (by decide)) (fun _ hk => hk.2) (.int .i64 t193)) (fun _ hk => hk.2) (.int .i64 t194)) (fun _ hk => hk.2) (.slice Ao74 t195.length co74)) (fun _ h_ => h_.1))))) (Kd.R_lt (by (with_reducible repeat (first | apply Kd.R_alloc | apply Kd.R_drewN | apply Kd.R_drew)); exact (Kd.R_mono (Kd.R_far (p := ⟨gb198, 2, none⟩) (Kd.R_far (p := ⟨gb198, 1, none⟩) (Kd.R_far (p := ⟨gb198, 0, none⟩) (Kd.R_types HO197.out BK198.out (by decide)) (fun _ hk => hk.2) (.int .i64 t193)) (fun _ hk => hk.2) (.int .i64 t194)) (fun _ hk => hk.2) (.slice Ao74 t195.length co74)) (fun _ h_ => h_.1))))) (below_size (by repeat (first | (with_reducible first | exact HB.out | apply below_alloc | apply pw_below_drewN | apply below_drew1 | refine below_set ?_ GE166.out | refine below_set ?_ GE167.out | refine below_set ?_ GE186.out | refine below_set ?_ GE192.out | refine below_set ?_ GE198.out) | exact HB.out)))); have n6_ := Aside0.mk (blk_below (g := gb166) (o := .cells #[.int .i64 a0_0, .int .i64 a0_1, .slice A0_2 l0_2.length c0_2] 32 (0, 0)) (by (with_reducible repeat (first | refine blk_drewN ?_ _ | refine blk_drew ?_ | refine blk_alloc ?_ _)); refine blk_far ?_ NB166_198.out _; (with_reducible repeat (first | refine blk_drewN ?_ _ | refine blk_drew ?_ | refine blk_alloc ?_ _)); refine blk_far ?_ NB166_198.out _; (with_reducible repeat (first | refine blk_drewN ?_ _ | refine blk_drew ?_ | refine blk_alloc ?_ _)); refine blk_far ?_ NB166_198.out _; (with_reducible repeat (first | refine blk_drewN ?_ _ | refine blk_drew ?_ | refine blk_alloc ?_ _)); exact BK166.out) hb); have n7_ := Aside0.mk (blk_below (g := gb167) (o := .cells #[.int .i64 a1_0, .int .i64 a1_1, .slice A1_2 l1_2.length c1_2] 32 (0, 0)) (by (with_reducible repeat (first | refine blk_drewN ?_ _ | refine blk_drew ?_ | refine blk_alloc ?_ _)); refine blk_far ?_ NB167_198.out _; (with_reducible repeat (first | refine blk_drewN ?_ _ | refine blk_drew ?_ | refine blk_alloc ?_ _)); refine blk_far ?_ NB167_198.out _; (with_reducible repeat (first | refine blk_drewN ?_ _ | refine blk_drew ?_ | refine blk_alloc ?_ _)); refine blk_far ?_ NB167_198.out _; (with_reducible repeat (first | refine blk_drewN ?_ _ | refine blk_drew ?_ | refine blk_alloc ?_ _)); exact BK167.out) hb); have n8_ := Aside0.mk (blk_below (g := gb186) (o := .cells #[.int .i64 t180, .int .i64 t181, .int .i64 t182, .slice Ao54 t183.length co54] 36 (0, 0)) (by (with_reducible repeat (first | refine blk_drewN ?_ _ | refine blk_drew ?_ | refine blk_alloc ?_ _)); refine blk_far ?_ NB186_198.out _; (with_reducible repeat (first | refine blk_drewN ?_ _ | refine blk_drew ?_ | refine blk_alloc ?_ _)); refine blk_far ?_ NB186_198.out _; (with_reducible repeat (first | refine blk_drewN ?_ _ | refine blk_drew ?_ | refine blk_alloc ?_ _)); refine blk_far ?_ NB186_198.out _; (with_reducible repeat (first | refine blk_drewN ?_ _ | refine blk_drew ?_ | refine blk_alloc ?_ _)); exact BK186.out) hb); have n9_ := Aside0.mk (blk_below (g := gb192) (o := .cells #[.int .i64 t187, .int .i64 t188, .slice Ao64 t189.length co64] 34 (0, 0)) (by (with_reducible repeat (first | refine blk_drewN ?_ _ | refine blk_drew ?_ | refine blk_alloc ?_ _)); refine blk_far ?_ NB192_198.out _; (with_reducible repeat (first | refine blk_drewN ?_ _ | refine blk_drew ?_ | refine blk_alloc ?_ _)); refine blk_far ?_ NB192_198.out _; (with_reducible repeat (first | refine blk_drewN ?_ _ | refine blk_drew ?_ | refine blk_alloc ?_ _)); refine blk_far ?_ NB192_198.out _; (with_reducible repeat (first | refine blk_drewN ?_ _ | refine blk_drew ?_ | refine blk_alloc ?_ _)); exact BK192.out) hb); have n10_ := Aside0.mk (blk_below (g := gb198) (o := .cells #[.int .i64 t193, .int .i64 t194, .slice Ao74 t195.length co74] 34 (0, 0)) (by (with_reducible repeat (first | refine blk_drewN ?_ _ | refine blk_drew ?_ | refine blk_alloc ?_ _)); refine blk_put (cs := #[.int .i64 t193, .int .i64 t194, .slice none 0 0]) ?_ 2 _ rfl; (with_reducible repeat (first | refine blk_drewN ?_ _ | refine blk_drew ?_ | refine blk_alloc ?_ _)); refine blk_put (cs := #[.int .i64 t193, .int .i64 0, .slice none 0 0]) ?_ 1 _ rfl; (with_reducible repeat (first | refine blk_drewN ?_ _ | refine blk_drew ?_ | refine blk_alloc ?_ _)); refine blk_put (cs := #[.int .i64 0, .int .i64 0, .slice none 0 0]) ?_ 0 _ rfl; (with_reducible repeat (first | refine blk_drewN ?_ _ | refine blk_drew ?_ | refine blk_alloc ?_ _)); exact BK198.out) hb); have n11_ := Aside0.mk (below_step (by repeat (first | (with_reducible first | exact HB.out | apply below_alloc | apply pw_below_drewN | apply below_drew1 | refine below_set ?_ GE166.out | refine below_set ?_ GE167.out | refine below_set ?_ GE186.out | refine below_set ?_ GE192.out | refine below_set ?_ GE198.out) | exact HB.out)) hb); clear HO174; clear HO179; clear HO185; clear HO191; clear HO197; clear BK166; clear BK167; clear BK186; clear BK192; clear BK198; clear HB; have HO174 := n0_; have HO179 := n1_; have HO185 := n2_; have HO191 := n3_; have HO197 := n4_; have HO204 := n5_; have BK166 := n6_; have BK167 := n7_; have BK186 := n8_; have BK192 := n9_; have BK198 := n10_; have HB := n11_; clear n0_ n1_ n2_ n3_ n4_ n5_ n6_ n7_ n8_ n9_ n10_ n11_; (try clear hb); (try clear hb2); (try clear hk); (try clear hi); (try clear ho0)) | ((with_reducible refine gate_dst (N := 9) rfl ?_); refine box_event ?hg (N := 9) ?hd (cs := #[.int .i64 0, .int .i64 0, .int .i64 0, .slice none 0 0]) (t := 36) ?hr ?_; (case hd => rfl); (case hg => rfl); (case hr => first | (go_simp; done) | (go_simp; rfl)); intro gb205 hg w77 hbox hb; have n0_ := Aside0.mk (Kd.R_below HO174.out hb); have n1_ := Aside0.mk (Kd.R_below HO179.out hb); have n2_ := Aside0.mk (Kd.R_below HO185.out hb); have n3_ := Aside0.mk (Kd.R_below HO191.out hb); have n4_ := Aside0.mk (Kd.R_below HO197.out hb); have n5_ := Aside0.mk (Kd.R_below HO204.out hb); have n6_ := Aside0.mk (blk_below BK166.out hb); have n7_ := Aside0.mk (blk_below BK167.out hb); have n8_ := Aside0.mk (blk_below BK186.out hb); have n9_ := Aside0.mk (blk_below BK192.out hb); have n10_ := Aside0.mk (blk_below BK198.out hb); have n11_ := Aside0.mk (below_step HB.out hb); have n12_ := Aside0.mk (hbox); have n13_ := Aside0.mk ((by rw [hg]; exact (below_size HB.out) : w.heap.size ≤ gb205)); have n14_ := Aside0.mk ((by rw [hg]; exact (below_size HB.out) : w.heap.size ≤ gb205)); have n15_ := Aside0.mk ((by rw [hg]; exact Nat.ne_of_lt (blk_lt BK166.out) : gb166 ≠ gb205)); have n16_ := Aside0.mk ((by rw [hg]; exact Nat.ne_of_gt (blk_lt BK166.out) : gb205 ≠ gb166)); have n17_ := Aside0.mk ((by rw [hg]; exact Nat.ne_of_lt (blk_lt BK167.out) : gb167 ≠ gb205)); have n18_ := Aside0.mk ((by rw [hg]; exact Nat.ne_of_gt (blk_lt BK167.out) : gb205 ≠ gb167)); have n19_ := Aside0.mk ((by rw [hg]; exact Nat.ne_of_lt (blk_lt BK186.out) : gb186 ≠ gb205)); have n20_ := Aside0.mk ((by rw [hg]; exact Nat.ne_of_gt (blk_lt BK186.out) : gb205 ≠ gb186)); have n21_ := Aside0.mk ((by rw [hg]; exact Nat.ne_of_lt (blk_lt BK192.out) : gb192 ≠ gb205)); have n22_ := Aside0.mk ((by rw [hg]; exact Nat.ne_of_gt (blk_lt BK192.out) : gb205 ≠ gb192)); have n23_ := Aside0.mk ((by rw [hg]; exact Nat.ne_of_lt (blk_lt BK198.out) : gb198 ≠ gb205)); have n24_ := Aside0.mk ((by rw [hg]; exact Nat.ne_of_gt (blk_lt BK198.out) : gb205 ≠ gb198)); clear HO174; clear HO179; clear HO185; clear HO191; clear HO197; clear HO204; clear BK166; clear BK167; clear BK186; clear BK192; clear BK198; clear HB; have HO174 := n0_; have HO179 := n1_; have HO185 := n2_; have HO191 := n3_; have HO197 := n4_; have HO204 := n5_; have BK166 := n6_; have BK167 := n7_; have BK186 := n8_; have BK192 := n9_; have BK198 := n10_; have HB := n11_; have BK205 := n12_; have GW205 := n13_; have GE205 := n14_; have NB166_205 := n15_; have NB205_166 := n16_; have NB167_205 := n17_; have NB205_167 := n18_; have NB186_205 := n19_; have NB205_186 := n20_; have NB192_205 := n21_; have NB205_192 := n22_; have NB198_205 := n23_; have NB205_198 := n24_; clear n0_ n1_ n2_ n3_ n4_ n5_ n6_ n7_ n8_ n9_ n10_ n11_ n12_ n13_ n14_ n15_ n16_ n17_ n18_ n19_ n20_ n21_ n22_ n23_ n24_; clear hb hbox hg; have hnb78 := NB205_166.out; have hnc78 := NB166_205.out; have hnb79 := NB205_167.out; have hnc79 := NB167_205.out; have hnb80 := NB205_186.out; have hnc80 := NB186_205.out; have hnb81 := NB205_192.out; have hnc81 := NB192_205.out; have hnb82 := NB205_198.out; have hnc82 := NB198_205.out; have hcz83_0 : w77.cell? ⟨gb205, 0, none⟩ = some (.int .i64 0) := (blk_cell BK205.out 0).trans rfl; have hcz83_1 : w77.cell? ⟨gb205, 1, none⟩ = some (.int .i64 0) := (blk_cell BK205.out 1).trans rfl; have hcz83_2 : w77.cell? ⟨gb205, 2, none⟩ = some (.int .i64 0) := (blk_cell BK205.out 2).trans rfl; have hcz83_3 : w77.cell? ⟨gb205, 3, none⟩ = some (.slice none 0 0) := (blk_cell BK205.out 3).trans rfl; have hfz83_0 := blk_frozen BK205.out 0; have hfz83_1 := blk_frozen BK205.out 1; have hfz83_2 := blk_frozen BK205.out 2; have hfz83_3 := blk_frozen BK205.out 3; obtain ⟨Ao84, co84, eo84⟩ := Kd.R_slice HO204.out; subst eo84; have hcz85_0 : w77.cell? ⟨gb186, 0, none⟩ = some (.int .i64 t180) := (blk_cell BK186.out 0).trans rfl; have hcz85_1 : w77.cell? ⟨gb186, 1, none⟩ = some (.int .i64 t181) := (blk_cell BK186.out 1).trans rfl; have hcz85_2 : w77.cell? ⟨gb186, 2, none⟩ = some (.int .i64 t182) := (blk_cell BK186.out 2).trans rfl; have hcz85_3 : w77.cell? ⟨gb186, 3, none⟩ = some (.slice Ao54 t183.length co54) := (blk_cell BK186.out 3).trans rfl; have hfz85_0 := blk_frozen BK186.out 0; have hfz85_1 := blk_frozen BK186.out 1; have hfz85_2 := blk_frozen BK186.out 2; have hfz85_3 := blk_frozen BK186.out 3) | ((with_reducible refine gate_callee (f := 21) rfl ?_); refine goesL_ (some 38) rfl rfl Try.func21 (by kernel_rfl) rfl #[.agg #[.int .i64 t199, .int .i64 t200, .int .i64 t201, .slice Ao84 t202.length co84], .agg #[.int .i64 t180, .int .i64 t181, .int .i64 t182, .slice Ao54 t183.length co54]] rfl (by (try simp only [List.map_toArray, List.map_cons, List.map_nil]); first | done | rfl | (simp only [List.length_drop, List.length_take]; rfl)) ?_; (with_reducible refine (laws_eqMatrixResult.calls k t199 t200 t201 _ _ t202 t180 t181 t182 _ _ t183 true _ ?side1 ?side2 ?side3 ?side4 A25.out).mono ?_); (case side1 => refine (Kd.R_reads' (e := 2) (base := w.heap.size) (ok := fun k_ => (((((True ∧ some k_ ≠ (v173 : Value).ownBlock) ∧ some k_ ≠ (v178 : Value).ownBlock) ∧ some k_ ≠ (.slice Ao54 t183.length co54 : Value).ownBlock) ∧ some k_ ≠ (.slice Ao64 t189.length co64 : Value).ownBlock) ∧ some k_ ≠ (.slice Ao74 t195.length co74 : Value).ownBlock)) (n := t202.length) (c := co84) ?_).2.2; exact (by (with_reducible repeat (first | apply Kd.R_alloc | apply Kd.R_drewN | apply Kd.R_drew)); exact (Kd.R_mono (Kd.R_far (p := ⟨gb205, 3, none⟩) (Kd.R_far (p := ⟨gb205, 2, none⟩) (Kd.R_far (p := ⟨gb205, 1, none⟩) (Kd.R_far (p := ⟨gb205, 0, none⟩) (Kd.R_types HO204.out BK205.out (by decide)) (fun _ hk => hk.2) (.int .i64 t199)) (fun _ hk => hk.2) (.int .i64 t200)) (fun _ hk => hk.2) (.int .i64 t201)) (fun _ hk => hk.2) (.slice Ao84 t202.length co84)) (fun _ h_ => h_.1)))); (case side2 => exact (Kd.R_reads' HO204.out).2.1); (case side3 => refine (Kd.R_reads' (e := 2) (base := w.heap.size) (ok := fun k_ => ((((some k_ ≠ (v173 : Value).ownBlock ∧ some k_ ≠ (v178 : Value).ownBlock) ∧ some k_ ≠ (.slice Ao64 t189.length co64 : Value).ownBlock) ∧ some k_ ≠ (.slice Ao74 t195.length co74 : Value).ownBlock) ∧ some k_ ≠ (.slice Ao84 t202.length co84 : Value).ownBlock)) (n := t183.length) (c := co54) ?_).2.2; exact (by (with_reducible repeat (first | apply Kd.R_alloc | apply Kd.R_drewN | apply Kd.R_drew)); exact (Kd.R_mono (Kd.R_far (p := ⟨gb205, 3, none⟩) (Kd.R_far (p := ⟨gb205, 2, none⟩) (Kd.R_far (p := ⟨gb205, 1, none⟩) (Kd.R_far (p := ⟨gb205, 0, none⟩) (Kd.R_types HO185.out BK205.out (by decide)) (fun _ hk => hk.2) (.int .i64 t199)) (fun _ hk => hk.2) (.int .i64 t200)) (fun _ hk => hk.2) (.int .i64 t201)) (fun _ hk => hk.2) (.slice Ao84 t202.length co84)) (fun _ h_ => h_.1)))); (case side4 => exact (Kd.R_reads' HO185.out).2.1); rintro e w86 ⟨rfl, hb⟩; refine ⟨_, rfl, ?_⟩; have n0_ := Aside0.mk (Kd.R_below (by (with_reducible repeat (first | apply Kd.R_alloc | apply Kd.R_drewN | apply Kd.R_drew)); exact (Kd.R_mono (Kd.R_far (p := ⟨gb205, 3, none⟩) (Kd.R_far (p := ⟨gb205, 2, none⟩) (Kd.R_far (p := ⟨gb205, 1, none⟩) (Kd.R_far (p := ⟨gb205, 0, none⟩) (Kd.R_types HO174.out BK205.out (by decide)) (fun _ hk => hk.2) (.int .i64 t199)) (fun _ hk => hk.2) (.int .i64 t200)) (fun _ hk => hk.2) (.int .i64 t201)) (fun _ hk => hk.2) (.slice Ao84 t202.length co84)) (fun _ h_ => h_.1))) hb); have n1_ := Aside0.mk (Kd.R_below (by (with_reducible repeat (first | apply Kd.R_alloc | apply Kd.R_drewN | apply Kd.R_drew)); exact (Kd.R_mono (Kd.R_far (p := ⟨gb205, 3, none⟩) (Kd.R_far (p := ⟨gb205, 2, none⟩) (Kd.R_far (p := ⟨gb205, 1, none⟩) (Kd.R_far (p := ⟨gb205, 0, none⟩) (Kd.R_types HO179.out BK205.out (by decide)) (fun _ hk => hk.2) (.int .i64 t199)) (fun _ hk => hk.2) (.int .i64 t200)) (fun _ hk => hk.2) (.int .i64 t201)) (fun _ hk => hk.2) (.slice Ao84 t202.length co84)) (fun _ h_ => h_.1))) hb); have n2_ := Aside0.mk (Kd.R_below (by (with_reducible repeat (first | apply Kd.R_alloc | apply Kd.R_drewN | apply Kd.R_drew)); exact (Kd.R_mono (Kd.R_far (p := ⟨gb205, 3, none⟩) (Kd.R_far (p := ⟨gb205, 2, none⟩) (Kd.R_far (p := ⟨gb205, 1, none⟩) (Kd.R_far (p := ⟨gb205, 0, none⟩) (Kd.R_types HO185.out BK205.out (by decide)) (fun _ hk => hk.2) (.int .i64 t199)) (fun _ hk => hk.2) (.int .i64 t200)) (fun _ hk => hk.2) (.int .i64 t201)) (fun _ hk => hk.2) (.slice Ao84 t202.length co84)) (fun _ h_ => h_.1))) hb); have n3_ := Aside0.mk (Kd.R_below (by (with_reducible repeat (first | apply Kd.R_alloc | apply Kd.R_drewN | apply Kd.R_drew)); exact (Kd.R_mono (Kd.R_far (p := ⟨gb205, 3, none⟩) (Kd.R_far (p := ⟨gb205, 2, none⟩) (Kd.R_far (p := ⟨gb205, 1, none⟩) (Kd.R_far (p := ⟨gb205, 0, none⟩) (Kd.R_types HO191.out BK205.out (by decide)) (fun _ hk => hk.2) (.int .i64 t199)) (fun _ hk => hk.2) (.int .i64 t200)) (fun _ hk => hk.2) (.int .i64 t201)) (fun _ hk => hk.2) (.slice Ao84 t202.length co84)) (fun _ h_ => h_.1))) hb); have n4_ := Aside0.mk (Kd.R_below (by (with_reducible repeat (first | apply Kd.R_alloc | apply Kd.R_drewN | apply Kd.R_drew)); exact (Kd.R_mono (Kd.R_far (p := ⟨gb205, 3, none⟩) (Kd.R_far (p := ⟨gb205, 2, none⟩) (Kd.R_far (p := ⟨gb205, 1, none⟩) (Kd.R_far (p := ⟨gb205, 0, none⟩) (Kd.R_types HO197.out BK205.out (by decide)) (fun _ hk => hk.2) (.int .i64 t199)) (fun _ hk => hk.2) (.int .i64 t200)) (fun _ hk => hk.2) (.int .i64 t201)) (fun _ hk => hk.2) (.slice Ao84 t202.length co84)) (fun _ h_ => h_.1))) hb); have n5_ := Aside0.mk (Kd.R_below (by (with_reducible repeat (first | apply Kd.R_alloc | apply Kd.R_drewN | apply Kd.R_drew)); exact (Kd.R_mono (Kd.R_far (p := ⟨gb205, 3, none⟩) (Kd.R_far (p := ⟨gb205, 2, none⟩) (Kd.R_far (p := ⟨gb205, 1, none⟩) (Kd.R_far (p := ⟨gb205, 0, none⟩) (Kd.R_types HO204.out BK205.out (by decide)) (fun _ hk => hk.2) (.int .i64 t199)) (fun _ hk => hk.2) (.int .i64 t200)) (fun _ hk => hk.2) (.int .i64 t201)) (fun _ hk => hk.2) (.slice Ao84 t202.length co84)) (fun _ h_ => h_.1))) hb); have n6_ := Aside0.mk (blk_below (g := gb166) (o := .cells #[.int .i64 a0_0, .int .i64 a0_1, .slice A0_2 l0_2.length c0_2] 32 (0, 0)) (by (with_reducible repeat (first | refine blk_drewN ?_ _ | refine blk_drew ?_ | refine blk_alloc ?_ _)); refine blk_far ?_ NB166_205.out _; (with_reducible repeat (first | refine blk_drewN ?_ _ | refine blk_drew ?_ | refine blk_alloc ?_ _)); refine blk_far ?_ NB166_205.out _; (with_reducible repeat (first | refine blk_drewN ?_ _ | refine blk_drew ?_ | refine blk_alloc ?_ _)); refine blk_far ?_ NB166_205.out _; (with_reducible repeat (first | refine blk_drewN ?_ _ | refine blk_drew ?_ | refine blk_alloc ?_ _)); refine blk_far ?_ NB166_205.out _; (with_reducible repeat (first | refine blk_drewN ?_ _ | refine blk_drew ?_ | refine blk_alloc ?_ _)); exact BK166.out) hb); have n7_ := Aside0.mk (blk_below (g := gb167) (o := .cells #[.int .i64 a1_0, .int .i64 a1_1, .slice A1_2 l1_2.length c1_2] 32 (0, 0)) (by (with_reducible repeat (first | refine blk_drewN ?_ _ | refine blk_drew ?_ | refine blk_alloc ?_ _)); refine blk_far ?_ NB167_205.out _; (with_reducible repeat (first | refine blk_drewN ?_ _ | refine blk_drew ?_ | refine blk_alloc ?_ _)); refine blk_far ?_ NB167_205.out _; (with_reducible repeat (first | refine blk_drewN ?_ _ | refine blk_drew ?_ | refine blk_alloc ?_ _)); refine blk_far ?_ NB167_205.out _; (with_reducible repeat (first | refine blk_drewN ?_ _ | refine blk_drew ?_ | refine blk_alloc ?_ _)); refine blk_far ?_ NB167_205.out _; (with_reducible repeat (first | refine blk_drewN ?_ _ | refine blk_drew ?_ | refine blk_alloc ?_ _)); exact BK167.out) hb); have n8_ := Aside0.mk (blk_below (g := gb186) (o := .cells #[.int .i64 t180, .int .i64 t181, .int .i64 t182, .slice Ao54 t183.length co54] 36 (0, 0)) (by (with_reducible repeat (first | refine blk_drewN ?_ _ | refine blk_drew ?_ | refine blk_alloc ?_ _)); refine blk_far ?_ NB186_205.out _; (with_reducible repeat (first | refine blk_drewN ?_ _ | refine blk_drew ?_ | refine blk_alloc ?_ _)); refine blk_far ?_ NB186_205.out _; (with_reducible repeat (first | refine blk_drewN ?_ _ | refine blk_drew ?_ | refine blk_alloc ?_ _)); refine blk_far ?_ NB186_205.out _; (with_reducible repeat (first | refine blk_drewN ?_ _ | refine blk_drew ?_ | refine blk_alloc ?_ _)); refine blk_far ?_ NB186_205.out _; (with_reducible repeat (first | refine blk_drewN ?_ _ | refine blk_drew ?_ | refine blk_alloc ?_ _)); exact BK186.out) hb); have n9_ := Aside0.mk (blk_below (g := gb192) (o := .cells #[.int .i64 t187, .int .i64 t188, .slice Ao64 t189.length co64] 34 (0, 0)) (by (with_reducible repeat (first | refine blk_drewN ?_ _ | refine blk_drew ?_ | refine blk_alloc ?_ _)); refine blk_far ?_ NB192_205.out _; (with_reducible repeat (first | refine blk_drewN ?_ _ | refine blk_drew ?_ | refine blk_alloc ?_ _)); refine blk_far ?_ NB192_205.out _; (with_reducible repeat (first | refine blk_drewN ?_ _ | refine blk_drew ?_ | refine blk_alloc ?_ _)); refine blk_far ?_ NB192_205.out _; (with_reducible repeat (first | refine blk_drewN ?_ _ | refine blk_drew ?_ | refine blk_alloc ?_ _)); refine blk_far ?_ NB192_205.out _; (with_reducible repeat (first | refine blk_drewN ?_ _ | refine blk_drew ?_ | refine blk_alloc ?_ _)); exact BK192.out) hb); have n10_ := Aside0.mk (blk_below (g := gb198) (o := .cells #[.int .i64 t193, .int .i64 t194, .slice Ao74 t195.length co74] 34 (0, 0)) (by (with_reducible repeat (first | refine blk_drewN ?_ _ | refine blk_drew ?_ | refine blk_alloc ?_ _)); refine blk_far ?_ NB198_205.out _; (with_reducible repeat (first | refine blk_drewN ?_ _ | refine blk_drew ?_ | refine blk_alloc ?_ _)); refine blk_far ?_ NB198_205.out _; (with_reducible repeat (first | refine blk_drewN ?_ _ | refine blk_drew ?_ | refine blk_alloc ?_ _)); refine blk_far ?_ NB198_205.out _; (with_reducible repeat (first | refine blk_drewN ?_ _ | refine blk_drew ?_ | refine blk_alloc ?_ _)); refine blk_far ?_ NB198_205.out _; (with_reducible repeat (first | refine blk_drewN ?_ _ | refine blk_drew ?_ | refine blk_alloc ?_ _)); exact BK198.out) hb); have n11_ := Aside0.mk (blk_below (g := gb205) (o := .cells #[.int .i64 t199, .int .i64 t200, .int .i64 t201, .slice Ao84 t202.length co84] 36 (0, 0)) (by (with_reducible repeat (first | refine blk_drewN ?_ _ | refine blk_drew ?_ | refine blk_alloc ?_ _)); refine blk_put (cs := #[.int .i64 t199, .int .i64 t200, .int .i64 t201, .slice none 0 0]) ?_ 3 _ rfl; (with_reducible repeat (first | refine blk_drewN ?_ _ | refine blk_drew ?_ | refine blk_alloc ?_ _)); refine blk_put (cs := #[.int .i64 t199, .int .i64 t200, .int .i64 0, .slice none 0 0]) ?_ 2 _ rfl; (with_reducible repeat (first | refine blk_drewN ?_ _ | refine blk_drew ?_ | refine blk_alloc ?_ _)); refine blk_put (cs := #[.int .i64 t199, .int .i64 0, .int .i64 0, .slice none 0 0]) ?_ 1 _ rfl; (with_reducible repeat (first | refine blk_drewN ?_ _ | refine blk_drew ?_ | refine blk_alloc ?_ _)); refine blk_put (cs := #[.int .i64 0, .int .i64 0, .int .i64 0, .slice none 0 0]) ?_ 0 _ rfl; (with_reducible repeat (first | refine blk_drewN ?_ _ | refine blk_drew ?_ | refine blk_alloc ?_ _)); exact BK205.out) hb); have n12_ := Aside0.mk (below_step (by repeat (first | (with_reducible first | exact HB.out | apply below_alloc | apply pw_below_drewN | apply below_drew1 | refine below_set ?_ GE166.out | refine below_set ?_ GE167.out | refine below_set ?_ GE186.out | refine below_set ?_ GE192.out | refine below_set ?_ GE198.out | refine below_set ?_ GE205.out) | exact HB.out)) hb); clear HO174; clear HO179; clear HO185; clear HO191; clear HO197; clear HO204; clear BK166; clear BK167; clear BK186; clear BK192; clear BK198; clear BK205; clear HB; have HO174 := n0_; have HO179 := n1_; have HO185 := n2_; have HO191 := n3_; have HO197 := n4_; have HO204 := n5_; have BK166 := n6_; have BK167 := n7_; have BK186 := n8_; have BK192 := n9_; have BK198 := n10_; have BK205 := n11_; have HB := n12_; clear n0_ n1_ n2_ n3_ n4_ n5_ n6_ n7_ n8_ n9_ n10_ n11_ n12_; (try clear hb); (try clear hb2); (try clear hk); (try clear hi)))
      have n0_ := Aside0.mk (Kd.R_drew HO174.out)
      have n1_ := Aside0.mk (Kd.R_drew HO179.out)
      have n2_ := Aside0.mk (Kd.R_drew HO185.out)
      have n3_ := Aside0.mk (Kd.R_drew HO191.out)
      have n4_ := Aside0.mk (Kd.R_drew HO197.out)
      have n5_ := Aside0.mk (Kd.R_drew HO204.out)
      have n6_ := Aside0.mk (blk_drew BK166.out)
      have n7_ := Aside0.mk (blk_drew BK167.out)
      have n8_ := Aside0.mk (blk_drew BK186.out)
      have n9_ := Aside0.mk (blk_drew BK192.out)
      have n10_ := Aside0.mk (blk_drew BK198.out)
      have n11_ := Aside0.mk (blk_drew BK205.out)
      have n12_ := Aside0.mk (below_drew1 HB.out)
      clear HO174
      clear HO179
      clear HO185
      clear HO191
      clear HO197
      clear HO204
      clear BK166
      clear BK167
      clear BK186
      clear BK192
      clear BK198
      clear BK205
      clear HB
      have HO174 := n0_
      have HO179 := n1_
      have HO185 := n2_
      have HO191 := n3_
      have HO197 := n4_
      have HO204 := n5_
      have BK166 := n6_
      have BK167 := n7_
      have BK186 := n8_
      have BK192 := n9_
      have BK198 := n10_
      have BK205 := n11_
      have HB := n12_
      clear n0_ n1_ n2_ n3_ n4_ n5_ n6_ n7_ n8_ n9_ n10_ n11_ n12_
      refine start_ (n := 5) (S := fun w' => w'.cell? ⟨gb192, 0, none⟩ = some (.int .i64 t187) ∧ w'.cell? ⟨gb192, 1, none⟩ = some (.int .i64 t188) ∧ w'.cell? ⟨gb192, 2, none⟩ = some (.slice Ao64 t189.length co64) ∧ w'.cell? ⟨gb166, 0, none⟩ = some (.int .i64 a0_0) ∧ w'.cell? ⟨gb166, 1, none⟩ = some (.int .i64 a0_1) ∧ w'.cell? ⟨gb166, 2, none⟩ = some (.slice A0_2 l0_2.length c0_2)) (ds := []) #[false, false, false, false, false] (by kernel_rfl) rfl rfl ⟨(blk_cell BK192.out 0).trans rfl, (blk_cell BK192.out 1).trans rfl, (blk_cell BK192.out 2).trans rfl, (blk_cell BK166.out 0).trans rfl, (blk_cell BK166.out 1).trans rfl, (blk_cell BK166.out 2).trans rfl⟩ (fun hHeld => ?_)
      generalize w86.drew = w87 at HO174 HO179 HO185 HO191 HO197 HO204 BK166 BK167 BK186 BK192 BK198 BK205 HB hHeld ⊢
      refine take_ (i := 0) (N := some 40) (v := ?_) (a' := ?_) #[true, false, false, false, false] rfl rfl (by kernel_rfl) (fun _ _ _ h => h) (Or.inl ⟨by rfl, ?_⟩) hHeld ?_ ?_
      rotate_left
      ·rintro w' ⟨s0, s1, s2, s3, s4, s5⟩
       go_simp
       with_reducible rfl
      rotate_left
      ·simp only [Act.put, List.setIfInBounds_toArray, List.set_cons_zero, List.set_cons_succ, i64_w, i32_w]
       rfl
      refine take_ (i := 1) (N := some 41) (v := ?_) (a' := ?_) #[true, true, false, false, false] rfl rfl (by kernel_rfl) (fun _ _ _ h => h) (Or.inl ⟨by rfl, ?_⟩) hHeld ?_ ?_
      rotate_left
      ·rintro w' ⟨s0, s1, s2, s3, s4, s5⟩
       go_simp
       with_reducible rfl
      rotate_left
      ·simp only [Act.put, List.setIfInBounds_toArray, List.set_cons_zero, List.set_cons_succ, i64_w, i32_w]
       rfl
      refine one_ (i := 2) (N := some 42) #[true, true, true, false, false] rfl rfl (by kernel_rfl) (by decide) (fun K hK => ?_)
      refine goes_ Try.func19 (by kernel_rfl) rfl #[.agg #[.int .i64 a0_0, .int .i64 a0_1, .slice A0_2 l0_2.length c0_2]] (by rfl) rfl rfl (by (try simp only [List.map_toArray, List.map_cons, List.map_nil]); first | done | rfl) ?_
      with_reducible refine (laws_toMatrix.calls k a0_0 a0_1 _ _ l0_2 t207 t208 t209 _ ?side1 ?side2 A27.out).mono ?_
      (case side1 => repeat (first | exact (Kd.C_below HR0_2.out HB.out) | (with_reducible refine Kd.C_alloc ?_ _) | (with_reducible refine Kd.C_drewN ?_ _) | (with_reducible refine Kd.C_drew ?_)))
      (case side2 => exact HC0_2.out)
      rintro e w88 ⟨v210, rfl, ho0, hb⟩
      refine ⟨_, rfl, ?_⟩
      have n0_ := Aside0.mk (Kd.R_elder' HO174.out (Kd.R_base ho0) hb)
      have n1_ := Aside0.mk (Kd.R_elder' HO179.out (Kd.R_base ho0) hb)
      have n2_ := Aside0.mk (Kd.R_elder' HO185.out (Kd.R_base ho0) hb)
      have n3_ := Aside0.mk (Kd.R_elder' HO191.out (Kd.R_base ho0) hb)
      have n4_ := Aside0.mk (Kd.R_elder' HO197.out (Kd.R_base ho0) hb)
      have n5_ := Aside0.mk (Kd.R_elder' HO204.out (Kd.R_base ho0) hb)
      have n6_ := Aside0.mk (Kd.R_lower (Kd.R_new' (Kd.R_new' (Kd.R_new' (Kd.R_new' (Kd.R_new' (Kd.R_new' ho0 (Kd.R_lt HO174.out)) (Kd.R_lt HO179.out)) (Kd.R_lt HO185.out)) (Kd.R_lt HO191.out)) (Kd.R_lt HO197.out)) (Kd.R_lt HO204.out)) (below_size HB.out))
      have n7_ := Aside0.mk (blk_below BK166.out hb)
      have n8_ := Aside0.mk (blk_below BK167.out hb)
      have n9_ := Aside0.mk (blk_below BK186.out hb)
      have n10_ := Aside0.mk (blk_below BK192.out hb)
      have n11_ := Aside0.mk (blk_below BK198.out hb)
      have n12_ := Aside0.mk (blk_below BK205.out hb)
      have n13_ := Aside0.mk (below_step HB.out hb)
      clear HO174
      clear HO179
      clear HO185
      clear HO191
      clear HO197
      clear HO204
      clear BK166
      clear BK167
      clear BK186
      clear BK192
      clear BK198
      clear BK205
      clear HB
      have HO174 := n0_
      have HO179 := n1_
      have HO185 := n2_
      have HO191 := n3_
      have HO197 := n4_
      have HO204 := n5_
      have HO211 := n6_
      have BK166 := n7_
      have BK167 := n8_
      have BK186 := n9_
      have BK192 := n10_
      have BK198 := n11_
      have BK205 := n12_
      have HB := n13_
      clear n0_ n1_ n2_ n3_ n4_ n5_ n6_ n7_ n8_ n9_ n10_ n11_ n12_ n13_
      (try clear hb)
      (try clear hb2)
      (try clear hk)
      (try clear hi)
      (try clear ho0)
      obtain ⟨Ao89, co89, eo89⟩ := Kd.R_slice HO211.out
      (first | subst eo89 | (injection eo89 with f1_ f2_ f3_; have f4_ := f1_.symm; have f5_ := f3_.symm; clear f1_ f2_ f3_; subst f4_; subst f5_))
      refine hK.out _ _ ⟨(blk_cell BK192.out 0).trans rfl, (blk_cell BK192.out 1).trans rfl, (blk_cell BK192.out 2).trans rfl, (blk_cell BK166.out 0).trans rfl, (blk_cell BK166.out 1).trans rfl, (blk_cell BK166.out 2).trans rfl⟩ (fun hHeld => ?_)
      clear hK K
      refine norm_ (a' := ?_) ?_ ?_
      rotate_left
      ·show Act.put _ (some 42) _ = _
       simp only [Act.put, List.setIfInBounds_toArray, List.set_cons_zero, List.set_cons_succ, i64_w, i32_w]
       rfl
      refine one_ (i := 3) (N := some 43) #[true, true, true, true, false] rfl rfl (by kernel_rfl) (by decide) (fun K hK => ?_)
      refine goes_ Try.func22 (by kernel_rfl) rfl #[.agg #[.int .i64 t187, .int .i64 t188, .slice Ao64 t189.length co64], .agg #[.int .i64 t207, .int .i64 t208, .slice Ao89 t209.length co89]] (by rfl) rfl rfl (by (try simp only [List.map_toArray, List.map_cons, List.map_nil]); first | done | rfl) ?_
      with_reducible refine (laws_eqMatrix.calls k t187 t188 _ _ t189 t207 t208 _ _ t209 true _ ?side1 ?side2 ?side3 ?side4 A28.out).mono ?_
      (case side1 => repeat (first | exact (Kd.R_reads' HO191.out).2.2 | (with_reducible refine Kd.C_alloc ?_ _) | (with_reducible refine Kd.C_drewN ?_ _) | (with_reducible refine Kd.C_drew ?_)))
      (case side2 => exact (Kd.R_reads' HO191.out).2.1)
      (case side3 => repeat (first | exact (Kd.R_reads' HO211.out).2.2 | (with_reducible refine Kd.C_alloc ?_ _) | (with_reducible refine Kd.C_drewN ?_ _) | (with_reducible refine Kd.C_drew ?_)))
      (case side4 => exact (Kd.R_reads' HO211.out).2.1)
      rintro e w90 ⟨rfl, hb⟩
      refine ⟨_, rfl, ?_⟩
      have n0_ := Aside0.mk (Kd.R_below HO174.out hb)
      have n1_ := Aside0.mk (Kd.R_below HO179.out hb)
      have n2_ := Aside0.mk (Kd.R_below HO185.out hb)
      have n3_ := Aside0.mk (Kd.R_below HO191.out hb)
      have n4_ := Aside0.mk (Kd.R_below HO197.out hb)
      have n5_ := Aside0.mk (Kd.R_below HO204.out hb)
      have n6_ := Aside0.mk (Kd.R_below HO211.out hb)
      have n7_ := Aside0.mk (blk_below BK166.out hb)
      have n8_ := Aside0.mk (blk_below BK167.out hb)
      have n9_ := Aside0.mk (blk_below BK186.out hb)
      have n10_ := Aside0.mk (blk_below BK192.out hb)
      have n11_ := Aside0.mk (blk_below BK198.out hb)
      have n12_ := Aside0.mk (blk_below BK205.out hb)
      have n13_ := Aside0.mk (below_step HB.out hb)
      clear HO174
      clear HO179
      clear HO185
      clear HO191
      clear HO197
      clear HO204
      clear HO211
      clear BK166
      clear BK167
      clear BK186
      clear BK192
      clear BK198
      clear BK205
      clear HB
      have HO174 := n0_
      have HO179 := n1_
      have HO185 := n2_
      have HO191 := n3_
      have HO197 := n4_
      have HO204 := n5_
      have HO211 := n6_
      have BK166 := n7_
      have BK167 := n8_
      have BK186 := n9_
      have BK192 := n10_
      have BK198 := n11_
      have BK205 := n12_
      have HB := n13_
      clear n0_ n1_ n2_ n3_ n4_ n5_ n6_ n7_ n8_ n9_ n10_ n11_ n12_ n13_
      (try clear hb)
      (try clear hb2)
      (try clear hk)
      (try clear hi)
      refine hK.out _ _ ⟨(blk_cell BK192.out 0).trans rfl, (blk_cell BK192.out 1).trans rfl, (blk_cell BK192.out 2).trans rfl, (blk_cell BK166.out 0).trans rfl, (blk_cell BK166.out 1).trans rfl, (blk_cell BK166.out 2).trans rfl⟩ (fun hHeld => ?_)
      clear hK K
      refine norm_ (a' := ?_) ?_ ?_
      rotate_left
      ·show Act.put _ (some 43) _ = _
       simp only [Act.put, List.setIfInBounds_toArray, List.set_cons_zero, List.set_cons_succ, i64_w, i32_w]
       rfl
      refine pure_ (i := 4) (N := some 44) (v := ?_) (a' := ?_) #[true, true, true, true, true] rfl rfl (by kernel_rfl) (fun _ _ _ h => h) (Or.inl ⟨by rfl, ?_⟩) ?_ ?_
      rotate_left
      ·intro w'
       go_simp
       with_reducible rfl
      rotate_left
      ·simp only [Act.put, List.setIfInBounds_toArray, List.set_cons_zero, List.set_cons_succ, i64_w, i32_w]
       rfl
      refine done_ (by kernel_rfl) ?_
      try go_wp2
      have n0_ := Aside0.mk (Kd.R_drew HO174.out)
      have n1_ := Aside0.mk (Kd.R_drew HO179.out)
      have n2_ := Aside0.mk (Kd.R_drew HO185.out)
      have n3_ := Aside0.mk (Kd.R_drew HO191.out)
      have n4_ := Aside0.mk (Kd.R_drew HO197.out)
      have n5_ := Aside0.mk (Kd.R_drew HO204.out)
      have n6_ := Aside0.mk (Kd.R_drew HO211.out)
      have n7_ := Aside0.mk (blk_drew BK166.out)
      have n8_ := Aside0.mk (blk_drew BK167.out)
      have n9_ := Aside0.mk (blk_drew BK186.out)
      have n10_ := Aside0.mk (blk_drew BK192.out)
      have n11_ := Aside0.mk (blk_drew BK198.out)
      have n12_ := Aside0.mk (blk_drew BK205.out)
      have n13_ := Aside0.mk (below_drew1 HB.out)
      clear HO174
      clear HO179
      clear HO185
      clear HO191
      clear HO197
      clear HO204
      clear HO211
      clear BK166
      clear BK167
      clear BK186
      clear BK192
      clear BK198
      clear BK205
      clear HB
      have HO174 := n0_
      have HO179 := n1_
      have HO185 := n2_
      have HO191 := n3_
      have HO197 := n4_
      have HO204 := n5_
      have HO211 := n6_
      have BK166 := n7_
      have BK167 := n8_
      have BK186 := n9_
      have BK192 := n10_
      have BK198 := n11_
      have BK205 := n12_
      have HB := n13_
      clear n0_ n1_ n2_ n3_ n4_ n5_ n6_ n7_ n8_ n9_ n10_ n11_ n12_ n13_
      refine start_ (n := 5) (S := fun w' => w'.cell? ⟨gb198, 0, none⟩ = some (.int .i64 t193) ∧ w'.cell? ⟨gb198, 1, none⟩ = some (.int .i64 t194) ∧ w'.cell? ⟨gb198, 2, none⟩ = some (.slice Ao74 t195.length co74) ∧ w'.cell? ⟨gb167, 0, none⟩ = some (.int .i64 a1_0) ∧ w'.cell? ⟨gb167, 1, none⟩ = some (.int .i64 a1_1) ∧ w'.cell? ⟨gb167, 2, none⟩ = some (.slice A1_2 l1_2.length c1_2)) (ds := []) #[false, false, false, false, false] (by kernel_rfl) rfl rfl ⟨(blk_cell BK198.out 0).trans rfl, (blk_cell BK198.out 1).trans rfl, (blk_cell BK198.out 2).trans rfl, (blk_cell BK167.out 0).trans rfl, (blk_cell BK167.out 1).trans rfl, (blk_cell BK167.out 2).trans rfl⟩ (fun hHeld => ?_)
      generalize w90.drew = w91 at HO174 HO179 HO185 HO191 HO197 HO204 HO211 BK166 BK167 BK186 BK192 BK198 BK205 HB hHeld ⊢
      refine take_ (i := 0) (N := some 45) (v := ?_) (a' := ?_) #[true, false, false, false, false] rfl rfl (by kernel_rfl) (fun _ _ _ h => h) (Or.inl ⟨by rfl, ?_⟩) hHeld ?_ ?_
      rotate_left
      ·rintro w' ⟨s0, s1, s2, s3, s4, s5⟩
       go_simp
       with_reducible rfl
      rotate_left
      ·simp only [Act.put, List.setIfInBounds_toArray, List.set_cons_zero, List.set_cons_succ, i64_w, i32_w]
       rfl
      refine take_ (i := 1) (N := some 46) (v := ?_) (a' := ?_) #[true, true, false, false, false] rfl rfl (by kernel_rfl) (fun _ _ _ h => h) (Or.inl ⟨by rfl, ?_⟩) hHeld ?_ ?_
      rotate_left
      ·rintro w' ⟨s0, s1, s2, s3, s4, s5⟩
       go_simp
       with_reducible rfl
      rotate_left
      ·simp only [Act.put, List.setIfInBounds_toArray, List.set_cons_zero, List.set_cons_succ, i64_w, i32_w]
       rfl
      refine one_ (i := 2) (N := some 47) #[true, true, true, false, false] rfl rfl (by kernel_rfl) (by decide) (fun K hK => ?_)
      refine goes_ Try.func19 (by kernel_rfl) rfl #[.agg #[.int .i64 a1_0, .int .i64 a1_1, .slice A1_2 l1_2.length c1_2]] (by rfl) rfl rfl (by (try simp only [List.map_toArray, List.map_cons, List.map_nil]); first | done | rfl) ?_
      with_reducible refine (laws_toMatrix.calls k a1_0 a1_1 _ _ l1_2 t213 t214 t215 _ ?side1 ?side2 A30.out).mono ?_
      (case side1 => repeat (first | exact (Kd.C_below HR1_2.out HB.out) | (with_reducible refine Kd.C_alloc ?_ _) | (with_reducible refine Kd.C_drewN ?_ _) | (with_reducible refine Kd.C_drew ?_)))
      (case side2 => exact HC1_2.out)
      rintro e w92 ⟨v216, rfl, ho0, hb⟩
      refine ⟨_, rfl, ?_⟩
      have n0_ := Aside0.mk (Kd.R_elder' HO174.out (Kd.R_base ho0) hb)
      have n1_ := Aside0.mk (Kd.R_elder' HO179.out (Kd.R_base ho0) hb)
      have n2_ := Aside0.mk (Kd.R_elder' HO185.out (Kd.R_base ho0) hb)
      have n3_ := Aside0.mk (Kd.R_elder' HO191.out (Kd.R_base ho0) hb)
      have n4_ := Aside0.mk (Kd.R_elder' HO197.out (Kd.R_base ho0) hb)
      have n5_ := Aside0.mk (Kd.R_elder' HO204.out (Kd.R_base ho0) hb)
      have n6_ := Aside0.mk (Kd.R_elder' HO211.out (Kd.R_base ho0) hb)
      have n7_ := Aside0.mk (Kd.R_lower (Kd.R_new' (Kd.R_new' (Kd.R_new' (Kd.R_new' (Kd.R_new' (Kd.R_new' (Kd.R_new' ho0 (Kd.R_lt HO174.out)) (Kd.R_lt HO179.out)) (Kd.R_lt HO185.out)) (Kd.R_lt HO191.out)) (Kd.R_lt HO197.out)) (Kd.R_lt HO204.out)) (Kd.R_lt HO211.out)) (below_size HB.out))
      have n8_ := Aside0.mk (blk_below BK166.out hb)
      have n9_ := Aside0.mk (blk_below BK167.out hb)
      have n10_ := Aside0.mk (blk_below BK186.out hb)
      have n11_ := Aside0.mk (blk_below BK192.out hb)
      have n12_ := Aside0.mk (blk_below BK198.out hb)
      have n13_ := Aside0.mk (blk_below BK205.out hb)
      have n14_ := Aside0.mk (below_step HB.out hb)
      clear HO174
      clear HO179
      clear HO185
      clear HO191
      clear HO197
      clear HO204
      clear HO211
      clear BK166
      clear BK167
      clear BK186
      clear BK192
      clear BK198
      clear BK205
      clear HB
      have HO174 := n0_
      have HO179 := n1_
      have HO185 := n2_
      have HO191 := n3_
      have HO197 := n4_
      have HO204 := n5_
      have HO211 := n6_
      have HO217 := n7_
      have BK166 := n8_
      have BK167 := n9_
      have BK186 := n10_
      have BK192 := n11_
      have BK198 := n12_
      have BK205 := n13_
      have HB := n14_
      clear n0_ n1_ n2_ n3_ n4_ n5_ n6_ n7_ n8_ n9_ n10_ n11_ n12_ n13_ n14_
      (try clear hb)
      (try clear hb2)
      (try clear hk)
      (try clear hi)
      (try clear ho0)
      obtain ⟨Ao93, co93, eo93⟩ := Kd.R_slice HO217.out
      (first | subst eo93 | (injection eo93 with f1_ f2_ f3_; have f4_ := f1_.symm; have f5_ := f3_.symm; clear f1_ f2_ f3_; subst f4_; subst f5_))
      refine hK.out _ _ ⟨(blk_cell BK198.out 0).trans rfl, (blk_cell BK198.out 1).trans rfl, (blk_cell BK198.out 2).trans rfl, (blk_cell BK167.out 0).trans rfl, (blk_cell BK167.out 1).trans rfl, (blk_cell BK167.out 2).trans rfl⟩ (fun hHeld => ?_)
      clear hK K
      refine norm_ (a' := ?_) ?_ ?_
      rotate_left
      ·show Act.put _ (some 47) _ = _
       simp only [Act.put, List.setIfInBounds_toArray, List.set_cons_zero, List.set_cons_succ, i64_w, i32_w]
       rfl
      refine one_ (i := 3) (N := some 48) #[true, true, true, true, false] rfl rfl (by kernel_rfl) (by decide) (fun K hK => ?_)
      refine goes_ Try.func22 (by kernel_rfl) rfl #[.agg #[.int .i64 t193, .int .i64 t194, .slice Ao74 t195.length co74], .agg #[.int .i64 t213, .int .i64 t214, .slice Ao93 t215.length co93]] (by rfl) rfl rfl (by (try simp only [List.map_toArray, List.map_cons, List.map_nil]); first | done | rfl) ?_
      with_reducible refine (laws_eqMatrix.calls k t193 t194 _ _ t195 t213 t214 _ _ t215 true _ ?side1 ?side2 ?side3 ?side4 A31.out).mono ?_
      (case side1 => repeat (first | exact (Kd.R_reads' HO197.out).2.2 | (with_reducible refine Kd.C_alloc ?_ _) | (with_reducible refine Kd.C_drewN ?_ _) | (with_reducible refine Kd.C_drew ?_)))
      (case side2 => exact (Kd.R_reads' HO197.out).2.1)
      (case side3 => repeat (first | exact (Kd.R_reads' HO217.out).2.2 | (with_reducible refine Kd.C_alloc ?_ _) | (with_reducible refine Kd.C_drewN ?_ _) | (with_reducible refine Kd.C_drew ?_)))
      (case side4 => exact (Kd.R_reads' HO217.out).2.1)
      rintro e w94 ⟨rfl, hb⟩
      refine ⟨_, rfl, ?_⟩
      have n0_ := Aside0.mk (Kd.R_below HO174.out hb)
      have n1_ := Aside0.mk (Kd.R_below HO179.out hb)
      have n2_ := Aside0.mk (Kd.R_below HO185.out hb)
      have n3_ := Aside0.mk (Kd.R_below HO191.out hb)
      have n4_ := Aside0.mk (Kd.R_below HO197.out hb)
      have n5_ := Aside0.mk (Kd.R_below HO204.out hb)
      have n6_ := Aside0.mk (Kd.R_below HO211.out hb)
      have n7_ := Aside0.mk (Kd.R_below HO217.out hb)
      have n8_ := Aside0.mk (blk_below BK166.out hb)
      have n9_ := Aside0.mk (blk_below BK167.out hb)
      have n10_ := Aside0.mk (blk_below BK186.out hb)
      have n11_ := Aside0.mk (blk_below BK192.out hb)
      have n12_ := Aside0.mk (blk_below BK198.out hb)
      have n13_ := Aside0.mk (blk_below BK205.out hb)
      have n14_ := Aside0.mk (below_step HB.out hb)
      clear HO174
      clear HO179
      clear HO185
      clear HO191
      clear HO197
      clear HO204
      clear HO211
      clear HO217
      clear BK166
      clear BK167
      clear BK186
      clear BK192
      clear BK198
      clear BK205
      clear HB
      have HO174 := n0_
      have HO179 := n1_
      have HO185 := n2_
      have HO191 := n3_
      have HO197 := n4_
      have HO204 := n5_
      have HO211 := n6_
      have HO217 := n7_
      have BK166 := n8_
      have BK167 := n9_
      have BK186 := n10_
      have BK192 := n11_
      have BK198 := n12_
      have BK205 := n13_
      have HB := n14_
      clear n0_ n1_ n2_ n3_ n4_ n5_ n6_ n7_ n8_ n9_ n10_ n11_ n12_ n13_ n14_
      (try clear hb)
      (try clear hb2)
      (try clear hk)
      (try clear hi)
      refine hK.out _ _ ⟨(blk_cell BK198.out 0).trans rfl, (blk_cell BK198.out 1).trans rfl, (blk_cell BK198.out 2).trans rfl, (blk_cell BK167.out 0).trans rfl, (blk_cell BK167.out 1).trans rfl, (blk_cell BK167.out 2).trans rfl⟩ (fun hHeld => ?_)
      clear hK K
      refine norm_ (a' := ?_) ?_ ?_
      rotate_left
      ·show Act.put _ (some 48) _ = _
       simp only [Act.put, List.setIfInBounds_toArray, List.set_cons_zero, List.set_cons_succ, i64_w, i32_w]
       rfl
      refine pure_ (i := 4) (N := some 49) (v := ?_) (a' := ?_) #[true, true, true, true, true] rfl rfl (by kernel_rfl) (fun _ _ _ h => h) (Or.inl ⟨by rfl, ?_⟩) ?_ ?_
      rotate_left
      ·intro w'
       go_simp
       with_reducible rfl
      rotate_left
      ·simp only [Act.put, List.setIfInBounds_toArray, List.set_cons_zero, List.set_cons_succ, i64_w, i32_w]
       rfl
      refine done_ (by kernel_rfl) ?_
      have hcz95_0 : w94.cell? ⟨gb192, 0, none⟩ = some (.int .i64 t187) := (blk_cell BK192.out 0).trans rfl
      have hcz95_1 : w94.cell? ⟨gb192, 1, none⟩ = some (.int .i64 t188) := (blk_cell BK192.out 1).trans rfl
      have hcz95_2 : w94.cell? ⟨gb192, 2, none⟩ = some (.slice Ao64 t189.length co64) := (blk_cell BK192.out 2).trans rfl
      have hfz95_0 := blk_frozen BK192.out 0
      have hfz95_1 := blk_frozen BK192.out 1
      have hfz95_2 := blk_frozen BK192.out 2
      go_upto_region 21 with (first | ((with_reducible refine gate_callee (f := 23) rfl ?_); refine goesL_ (some 52) rfl rfl Try.func23 (by kernel_rfl) rfl #[.agg #[.int .i64 t187, .int .i64 t188, .slice Ao64 t189.length co64], .int .i64 1] rfl (by (try simp only [List.map_toArray, List.map_cons, List.map_nil]); first | done | rfl) ?_; (with_reducible refine (laws_markMatrix.calls k t187 t188 (fun k_ => some k_ = (.slice Ao64 t189.length co64 : Value).ownBlock) (.slice Ao64 t189.length co64) t189 1 t219 t220 w _ ?side1 ?side2 A33.out).mono ?_); (case side1 => repeat (first | (with_reducible first | exact HB.out | apply below_alloc | apply pw_below_drewN | apply below_drew1 | refine below_set ?_ GE166.out | refine below_set ?_ GE167.out | refine below_set ?_ GE186.out | refine below_set ?_ GE192.out | refine below_set ?_ GE198.out | refine below_set ?_ GE205.out) | exact HB.out)); (case side2 => exact Kd.R_tight rfl HO191.out); rintro e w96 ⟨rfl, hy0, hb, hkp⟩; refine ⟨_, rfl, ?_⟩; have n0_ := Aside0.mk (blk_kept BK166.out hkp (fun hs_ => (fun e_ => (Kd.R_ne HO191.out BK166.out (by decide)) e_) hs_)); have n1_ := Aside0.mk (blk_kept BK167.out hkp (fun hs_ => (fun e_ => (Kd.R_ne HO191.out BK167.out (by decide)) e_) hs_)); have n2_ := Aside0.mk (Kd.R_mono (ok' := fun k_ => some k_ ≠ (v178 : Value).ownBlock ∧ some k_ ≠ (.slice Ao54 t183.length co54 : Value).ownBlock ∧ some k_ ≠ (.slice Ao64 t189.length co64 : Value).ownBlock ∧ some k_ ≠ (.slice Ao74 t195.length co74 : Value).ownBlock ∧ some k_ ≠ (.slice Ao84 t202.length co84 : Value).ownBlock ∧ some k_ ≠ (.slice Ao89 t209.length co89 : Value).ownBlock ∧ some k_ ≠ (.slice Ao93 t215.length co93 : Value).ownBlock) (Kd.R_keptB (HO174.out) hkp (fun k_ hk_ hs_ => (hk_.1.1.1.1.2) hs_)) (fun k_ hk_ => ⟨hk_.1.1.1.1.1.1.1, hk_.1.1.1.1.1.1.2, hk_.1.1.1.1.1.2, hk_.1.1.1.1.2, hk_.1.1.1.2, hk_.1.1.2, hk_.1.2⟩)); have n3_ := Aside0.mk (Kd.R_mono (ok' := fun k_ => some k_ ≠ (v173 : Value).ownBlock ∧ some k_ ≠ (.slice Ao54 t183.length co54 : Value).ownBlock ∧ some k_ ≠ (.slice Ao64 t189.length co64 : Value).ownBlock ∧ some k_ ≠ (.slice Ao74 t195.length co74 : Value).ownBlock ∧ some k_ ≠ (.slice Ao84 t202.length co84 : Value).ownBlock ∧ some k_ ≠ (.slice Ao89 t209.length co89 : Value).ownBlock ∧ some k_ ≠ (.slice Ao93 t215.length co93 : Value).ownBlock) (Kd.R_keptB (HO179.out) hkp (fun k_ hk_ hs_ => (hk_.1.1.1.1.2) hs_)) (fun k_ hk_ => ⟨hk_.1.1.1.1.1.1.1, hk_.1.1.1.1.1.1.2, hk_.1.1.1.1.1.2, hk_.1.1.1.1.2, hk_.1.1.1.2, hk_.1.1.2, hk_.1.2⟩)); have n4_ := Aside0.mk (Kd.R_mono (ok' := fun k_ => some k_ ≠ (v173 : Value).ownBlock ∧ some k_ ≠ (v178 : Value).ownBlock ∧ some k_ ≠ (.slice Ao64 t189.length co64 : Value).ownBlock ∧ some k_ ≠ (.slice Ao74 t195.length co74 : Value).ownBlock ∧ some k_ ≠ (.slice Ao84 t202.length co84 : Value).ownBlock ∧ some k_ ≠ (.slice Ao89 t209.length co89 : Value).ownBlock ∧ some k_ ≠ (.slice Ao93 t215.length co93 : Value).ownBlock) (Kd.R_keptB (HO185.out) hkp (fun k_ hk_ hs_ => (hk_.1.1.1.1.2) hs_)) (fun k_ hk_ => ⟨hk_.1.1.1.1.1.1.1, hk_.1.1.1.1.1.1.2, hk_.1.1.1.1.1.2, hk_.1.1.1.1.2, hk_.1.1.1.2, hk_.1.1.2, hk_.1.2⟩)); have n5_ := Aside0.mk (blk_kept BK186.out hkp (fun hs_ => (fun e_ => (Kd.R_ne HO191.out BK186.out (by decide)) e_) hs_)); have n6_ := Aside0.mk (Kd.R_reok rfl hy0 (fun k_ e_ => HO191.out.1 k_ e_)); have n7_ := Aside0.mk (blk_kept BK192.out hkp (fun hs_ => (fun e_ => (Kd.R_ne HO191.out BK192.out (by decide)) e_) hs_)); have n8_ := Aside0.mk (Kd.R_mono (ok' := fun k_ => some k_ ≠ (v173 : Value).ownBlock ∧ some k_ ≠ (v178 : Value).ownBlock ∧ some k_ ≠ (.slice Ao54 t183.length co54 : Value).ownBlock ∧ some k_ ≠ (.slice Ao64 t189.length co64 : Value).ownBlock ∧ some k_ ≠ (.slice Ao84 t202.length co84 : Value).ownBlock ∧ some k_ ≠ (.slice Ao89 t209.length co89 : Value).ownBlock ∧ some k_ ≠ (.slice Ao93 t215.length co93 : Value).ownBlock) (Kd.R_keptB (HO197.out) hkp (fun k_ hk_ hs_ => (hk_.1.1.1.2) hs_)) (fun k_ hk_ => ⟨hk_.1.1.1.1.1.1.1.2, hk_.1.1.1.1.1.1.2, hk_.1.1.1.1.1.2, hk_.1.1.1.1.2, hk_.1.1.1.2, hk_.1.1.2, hk_.1.2⟩)); have n9_ := Aside0.mk (blk_kept BK198.out hkp (fun hs_ => (fun e_ => (Kd.R_ne HO191.out BK198.out (by decide)) e_) hs_)); have n10_ := Aside0.mk (Kd.R_mono (ok' := fun k_ => some k_ ≠ (v173 : Value).ownBlock ∧ some k_ ≠ (v178 : Value).ownBlock ∧ some k_ ≠ (.slice Ao54 t183.length co54 : Value).ownBlock ∧ some k_ ≠ (.slice Ao64 t189.length co64 : Value).ownBlock ∧ some k_ ≠ (.slice Ao74 t195.length co74 : Value).ownBlock ∧ some k_ ≠ (.slice Ao89 t209.length co89 : Value).ownBlock ∧ some k_ ≠ (.slice Ao93 t215.length co93 : Value).ownBlock) (Kd.R_keptB (HO204.out) hkp (fun k_ hk_ hs_ => (hk_.1.1.1.2) hs_)) (fun k_ hk_ => ⟨hk_.1.1.1.1.1.1.1.2, hk_.1.1.1.1.1.1.2, hk_.1.1.1.1.1.2, hk_.1.1.1.1.2, hk_.1.1.1.2, hk_.1.1.2, hk_.1.2⟩)); have n11_ := Aside0.mk (blk_kept BK205.out hkp (fun hs_ => (fun e_ => (Kd.R_ne HO191.out BK205.out (by decide)) e_) hs_)); have n12_ := Aside0.mk (Kd.R_mono (ok' := fun k_ => some k_ ≠ (v173 : Value).ownBlock ∧ some k_ ≠ (v178 : Value).ownBlock ∧ some k_ ≠ (.slice Ao54 t183.length co54 : Value).ownBlock ∧ some k_ ≠ (.slice Ao64 t189.length co64 : Value).ownBlock ∧ some k_ ≠ (.slice Ao74 t195.length co74 : Value).ownBlock ∧ some k_ ≠ (.slice Ao84 t202.length co84 : Value).ownBlock ∧ some k_ ≠ (.slice Ao93 t215.length co93 : Value).ownBlock) (Kd.R_keptB (HO211.out) hkp (fun k_ hk_ hs_ => (hk_.1.1.1.2) hs_)) (fun k_ hk_ => ⟨hk_.1.1.1.1.1.1.1.2, hk_.1.1.1.1.1.1.2, hk_.1.1.1.1.1.2, hk_.1.1.1.1.2, hk_.1.1.1.2, hk_.1.1.2, hk_.1.2⟩)); have n13_ := Aside0.mk (Kd.R_mono (ok' := fun k_ => some k_ ≠ (v173 : Value).ownBlock ∧ some k_ ≠ (v178 : Value).ownBlock ∧ some k_ ≠ (.slice Ao54 t183.length co54 : Value).ownBlock ∧ some k_ ≠ (.slice Ao64 t189.length co64 : Value).ownBlock ∧ some k_ ≠ (.slice Ao74 t195.length co74 : Value).ownBlock ∧ some k_ ≠ (.slice Ao84 t202.length co84 : Value).ownBlock ∧ some k_ ≠ (.slice Ao89 t209.length co89 : Value).ownBlock) (Kd.R_keptB (HO217.out) hkp (fun k_ hk_ hs_ => (hk_.1.1.1.2) hs_)) (fun k_ hk_ => ⟨hk_.1.1.1.1.1.1.1.2, hk_.1.1.1.1.1.1.2, hk_.1.1.1.1.1.2, hk_.1.1.1.1.2, hk_.1.1.1.2, hk_.1.1.2, hk_.1.2⟩)); have n14_ := Aside0.mk (hb); clear BK166; clear BK167; clear HO174; clear HO179; clear HO185; clear BK186; clear HO191; clear BK192; clear HO197; clear BK198; clear HO204; clear BK205; clear HO211; clear HO217; clear HB; have BK166 := n0_; have BK167 := n1_; have HO174 := n2_; have HO179 := n3_; have HO185 := n4_; have BK186 := n5_; have HO191 := n6_; have BK192 := n7_; have HO197 := n8_; have BK198 := n9_; have HO204 := n10_; have BK205 := n11_; have HO211 := n12_; have HO217 := n13_; have HB := n14_; clear n0_ n1_ n2_ n3_ n4_ n5_ n6_ n7_ n8_ n9_ n10_ n11_ n12_ n13_ n14_; (try clear hb); (try clear hkp); (try clear hy0); have hcz97_0 : w96.cell? ⟨gb198, 0, none⟩ = some (.int .i64 t193) := (blk_cell BK198.out 0).trans rfl; have hcz97_1 : w96.cell? ⟨gb198, 1, none⟩ = some (.int .i64 t194) := (blk_cell BK198.out 1).trans rfl; have hcz97_2 : w96.cell? ⟨gb198, 2, none⟩ = some (.slice Ao74 t195.length co74) := (blk_cell BK198.out 2).trans rfl; have hfz97_0 := blk_frozen BK198.out 0; have hfz97_1 := blk_frozen BK198.out 1; have hfz97_2 := blk_frozen BK198.out 2) | ((with_reducible refine gate_callee (f := 23) rfl ?_); refine goesL_ (some 55) rfl rfl Try.func23 (by kernel_rfl) rfl #[.agg #[.int .i64 t193, .int .i64 t194, .slice Ao74 t195.length co74], .int .i64 t219] rfl (by (try simp only [List.map_toArray, List.map_cons, List.map_nil]); first | done | rfl) ?_; (with_reducible refine (laws_markMatrix.calls k t193 t194 (fun k_ => some k_ = (.slice Ao74 t195.length co74 : Value).ownBlock) (.slice Ao74 t195.length co74) t195 t219 t221 t222 w _ ?side1 ?side2 A34.out).mono ?_); (case side1 => repeat (first | (with_reducible first | exact HB.out | apply below_alloc | apply pw_below_drewN | apply below_drew1 | refine below_set ?_ GE166.out | refine below_set ?_ GE167.out | refine below_set ?_ GE186.out | refine below_set ?_ GE192.out | refine below_set ?_ GE198.out | refine below_set ?_ GE205.out) | exact HB.out)); (case side2 => exact Kd.R_tight rfl HO197.out); rintro e w98 ⟨rfl, hy0, hb, hkp⟩; refine ⟨_, rfl, ?_⟩; have n0_ := Aside0.mk (blk_kept BK166.out hkp (fun hs_ => (fun e_ => (Kd.R_ne HO197.out BK166.out (by decide)) e_) hs_)); have n1_ := Aside0.mk (blk_kept BK167.out hkp (fun hs_ => (fun e_ => (Kd.R_ne HO197.out BK167.out (by decide)) e_) hs_)); have n2_ := Aside0.mk (Kd.R_mono (ok' := fun k_ => some k_ ≠ (v178 : Value).ownBlock ∧ some k_ ≠ (.slice Ao54 t183.length co54 : Value).ownBlock ∧ some k_ ≠ (.slice Ao64 t189.length co64 : Value).ownBlock ∧ some k_ ≠ (.slice Ao74 t195.length co74 : Value).ownBlock ∧ some k_ ≠ (.slice Ao84 t202.length co84 : Value).ownBlock ∧ some k_ ≠ (.slice Ao89 t209.length co89 : Value).ownBlock ∧ some k_ ≠ (.slice Ao93 t215.length co93 : Value).ownBlock) (Kd.R_keptB (HO174.out) hkp (fun k_ hk_ hs_ => (hk_.2.2.2.1) hs_)) (fun k_ hk_ => ⟨hk_.1.1, hk_.1.2.1, hk_.1.2.2.1, hk_.1.2.2.2.1, hk_.1.2.2.2.2.1, hk_.1.2.2.2.2.2.1, hk_.1.2.2.2.2.2.2⟩)); have n3_ := Aside0.mk (Kd.R_mono (ok' := fun k_ => some k_ ≠ (v173 : Value).ownBlock ∧ some k_ ≠ (.slice Ao54 t183.length co54 : Value).ownBlock ∧ some k_ ≠ (.slice Ao64 t189.length co64 : Value).ownBlock ∧ some k_ ≠ (.slice Ao74 t195.length co74 : Value).ownBlock ∧ some k_ ≠ (.slice Ao84 t202.length co84 : Value).ownBlock ∧ some k_ ≠ (.slice Ao89 t209.length co89 : Value).ownBlock ∧ some k_ ≠ (.slice Ao93 t215.length co93 : Value).ownBlock) (Kd.R_keptB (HO179.out) hkp (fun k_ hk_ hs_ => (hk_.2.2.2.1) hs_)) (fun k_ hk_ => ⟨hk_.1.1, hk_.1.2.1, hk_.1.2.2.1, hk_.1.2.2.2.1, hk_.1.2.2.2.2.1, hk_.1.2.2.2.2.2.1, hk_.1.2.2.2.2.2.2⟩)); have n4_ := Aside0.mk (Kd.R_mono (ok' := fun k_ => some k_ ≠ (v173 : Value).ownBlock ∧ some k_ ≠ (v178 : Value).ownBlock ∧ some k_ ≠ (.slice Ao64 t189.length co64 : Value).ownBlock ∧ some k_ ≠ (.slice Ao74 t195.length co74 : Value).ownBlock ∧ some k_ ≠ (.slice Ao84 t202.length co84 : Value).ownBlock ∧ some k_ ≠ (.slice Ao89 t209.length co89 : Value).ownBlock ∧ some k_ ≠ (.slice Ao93 t215.length co93 : Value).ownBlock) (Kd.R_keptB (HO185.out) hkp (fun k_ hk_ hs_ => (hk_.2.2.2.1) hs_)) (fun k_ hk_ => ⟨hk_.1.1, hk_.1.2.1, hk_.1.2.2.1, hk_.1.2.2.2.1, hk_.1.2.2.2.2.1, hk_.1.2.2.2.2.2.1, hk_.1.2.2.2.2.2.2⟩)); have n5_ := Aside0.mk (blk_kept BK186.out hkp (fun hs_ => (fun e_ => (Kd.R_ne HO197.out BK186.out (by decide)) e_) hs_)); have n6_ := Aside0.mk (Kd.R_mono (ok' := fun k_ => some k_ ≠ (v173 : Value).ownBlock ∧ some k_ ≠ (v178 : Value).ownBlock ∧ some k_ ≠ (.slice Ao54 t183.length co54 : Value).ownBlock ∧ some k_ ≠ (.slice Ao74 t195.length co74 : Value).ownBlock ∧ some k_ ≠ (.slice Ao84 t202.length co84 : Value).ownBlock ∧ some k_ ≠ (.slice Ao89 t209.length co89 : Value).ownBlock ∧ some k_ ≠ (.slice Ao93 t215.length co93 : Value).ownBlock) (Kd.R_keptB (HO191.out) hkp (fun k_ hk_ hs_ => (hk_.1.1.1.2) hs_)) (fun k_ hk_ => ⟨hk_.1.1.1.1.1.1.1.2, hk_.1.1.1.1.1.1.2, hk_.1.1.1.1.1.2, hk_.1.1.1.1.2, hk_.1.1.1.2, hk_.1.1.2, hk_.1.2⟩)); have n7_ := Aside0.mk (blk_kept BK192.out hkp (fun hs_ => (fun e_ => (Kd.R_ne HO197.out BK192.out (by decide)) e_) hs_)); have n8_ := Aside0.mk (Kd.R_reok rfl hy0 (fun k_ e_ => HO197.out.1 k_ e_)); have n9_ := Aside0.mk (blk_kept BK198.out hkp (fun hs_ => (fun e_ => (Kd.R_ne HO197.out BK198.out (by decide)) e_) hs_)); have n10_ := Aside0.mk (Kd.R_mono (ok' := fun k_ => some k_ ≠ (v173 : Value).ownBlock ∧ some k_ ≠ (v178 : Value).ownBlock ∧ some k_ ≠ (.slice Ao54 t183.length co54 : Value).ownBlock ∧ some k_ ≠ (.slice Ao64 t189.length co64 : Value).ownBlock ∧ some k_ ≠ (.slice Ao74 t195.length co74 : Value).ownBlock ∧ some k_ ≠ (.slice Ao89 t209.length co89 : Value).ownBlock ∧ some k_ ≠ (.slice Ao93 t215.length co93 : Value).ownBlock) (Kd.R_keptB (HO204.out) hkp (fun k_ hk_ hs_ => (hk_.2.2.2.2.1) hs_)) (fun k_ hk_ => ⟨hk_.1.1, hk_.1.2.1, hk_.1.2.2.1, hk_.1.2.2.2.1, hk_.1.2.2.2.2.1, hk_.1.2.2.2.2.2.1, hk_.1.2.2.2.2.2.2⟩)); have n11_ := Aside0.mk (blk_kept BK205.out hkp (fun hs_ => (fun e_ => (Kd.R_ne HO197.out BK205.out (by decide)) e_) hs_)); have n12_ := Aside0.mk (Kd.R_mono (ok' := fun k_ => some k_ ≠ (v173 : Value).ownBlock ∧ some k_ ≠ (v178 : Value).ownBlock ∧ some k_ ≠ (.slice Ao54 t183.length co54 : Value).ownBlock ∧ some k_ ≠ (.slice Ao64 t189.length co64 : Value).ownBlock ∧ some k_ ≠ (.slice Ao74 t195.length co74 : Value).ownBlock ∧ some k_ ≠ (.slice Ao84 t202.length co84 : Value).ownBlock ∧ some k_ ≠ (.slice Ao93 t215.length co93 : Value).ownBlock) (Kd.R_keptB (HO211.out) hkp (fun k_ hk_ hs_ => (hk_.2.2.2.2.1) hs_)) (fun k_ hk_ => ⟨hk_.1.1, hk_.1.2.1, hk_.1.2.2.1, hk_.1.2.2.2.1, hk_.1.2.2.2.2.1, hk_.1.2.2.2.2.2.1, hk_.1.2.2.2.2.2.2⟩)); have n13_ := Aside0.mk (Kd.R_mono (ok' := fun k_ => some k_ ≠ (v173 : Value).ownBlock ∧ some k_ ≠ (v178 : Value).ownBlock ∧ some k_ ≠ (.slice Ao54 t183.length co54 : Value).ownBlock ∧ some k_ ≠ (.slice Ao64 t189.length co64 : Value).ownBlock ∧ some k_ ≠ (.slice Ao74 t195.length co74 : Value).ownBlock ∧ some k_ ≠ (.slice Ao84 t202.length co84 : Value).ownBlock ∧ some k_ ≠ (.slice Ao89 t209.length co89 : Value).ownBlock) (Kd.R_keptB (HO217.out) hkp (fun k_ hk_ hs_ => (hk_.2.2.2.2.1) hs_)) (fun k_ hk_ => ⟨hk_.1.1, hk_.1.2.1, hk_.1.2.2.1, hk_.1.2.2.2.1, hk_.1.2.2.2.2.1, hk_.1.2.2.2.2.2.1, hk_.1.2.2.2.2.2.2⟩)); have n14_ := Aside0.mk (hb); clear BK166; clear BK167; clear HO174; clear HO179; clear HO185; clear BK186; clear HO191; clear BK192; clear HO197; clear BK198; clear HO204; clear BK205; clear HO211; clear HO217; clear HB; have BK166 := n0_; have BK167 := n1_; have HO174 := n2_; have HO179 := n3_; have HO185 := n4_; have BK186 := n5_; have HO191 := n6_; have BK192 := n7_; have HO197 := n8_; have BK198 := n9_; have HO204 := n10_; have BK205 := n11_; have HO211 := n12_; have HO217 := n13_; have HB := n14_; clear n0_ n1_ n2_ n3_ n4_ n5_ n6_ n7_ n8_ n9_ n10_ n11_ n12_ n13_ n14_; (try clear hb); (try clear hkp); (try clear hy0)))
      (try simp only [Act.put, List.setIfInBounds_toArray, List.set_cons_zero, List.set_cons_succ])
      go_cut [63] (fun v63 wc => ∃ (kq : Nat) (x63_34 : Bool), v63 = .bool x63_34 ∧ Aside0 (laws_FnExactMatMul.j0 kq x63_34 a0_0 a0_1 l0_2 a1_0 a1_1 l1_2 t180 t181 t182 t183 t199 t200 t201 t202 = some true) ∧ Aside0 (kq ≤ k) ∧ Aside0 (Kd.R (Kd.int .i64) 2 wc w.heap.size (fun k_ => some k_ ≠ ((.slice Ao64 t189.length co64) : Value).ownBlock ∧ some k_ ≠ ((.slice Ao74 t195.length co74) : Value).ownBlock ∧ some k_ ≠ ((.slice Ao84 t202.length co84) : Value).ownBlock) (.slice Ao54 t183.length co54) t183) ∧ Aside0 (Kd.R (Kd.int .i64) 2 wc w.heap.size (fun k_ => some k_ ≠ ((.slice Ao54 t183.length co54) : Value).ownBlock ∧ some k_ ≠ ((.slice Ao74 t195.length co74) : Value).ownBlock ∧ some k_ ≠ ((.slice Ao84 t202.length co84) : Value).ownBlock) (.slice Ao64 t189.length co64) t220) ∧ Aside0 (Kd.R (Kd.int .i64) 2 wc w.heap.size (fun k_ => some k_ ≠ ((.slice Ao54 t183.length co54) : Value).ownBlock ∧ some k_ ≠ ((.slice Ao64 t189.length co64) : Value).ownBlock ∧ some k_ ≠ ((.slice Ao84 t202.length co84) : Value).ownBlock) (.slice Ao74 t195.length co74) t222) ∧ Aside0 (Kd.R (Kd.int .i64) 2 wc w.heap.size (fun k_ => some k_ ≠ ((.slice Ao54 t183.length co54) : Value).ownBlock ∧ some k_ ≠ ((.slice Ao64 t189.length co64) : Value).ownBlock ∧ some k_ ≠ ((.slice Ao74 t195.length co74) : Value).ownBlock) (.slice Ao84 t202.length co84) t202) ∧ Aside0 (wc.heap[gb166]? = some (.cells #[.int .i64 a0_0, .int .i64 a0_1, (.slice A0_2 l0_2.length c0_2)] 32 (0, 0))) ∧ Aside0 (wc.heap[gb167]? = some (.cells #[.int .i64 a1_0, .int .i64 a1_1, (.slice A1_2 l1_2.length c1_2)] 32 (0, 0))) ∧ Aside0 (wc.heap[gb186]? = some (.cells #[.int .i64 t180, .int .i64 t181, .int .i64 t182, (.slice Ao54 t183.length co54)] 36 (0, 0))) ∧ Aside0 (wc.heap[gb192]? = some (.cells #[.int .i64 t187, .int .i64 t188, (.slice Ao64 t189.length co64)] 34 (0, 0))) ∧ Aside0 (wc.heap[gb198]? = some (.cells #[.int .i64 t193, .int .i64 t194, (.slice Ao74 t195.length co74)] 34 (0, 0))) ∧ Aside0 (wc.heap[gb205]? = some (.cells #[.int .i64 t199, .int .i64 t200, .int .i64 t201, (.slice Ao84 t202.length co84)] 36 (0, 0))) ∧ Aside0 (Below w.heap.size w wc))
      case first =>
       have H := HC35.out
       clear HC35
       by_cases c99 : t221 < 0
       ·rw [if_pos c99] at H
        have c99b0 : decide (t221 < 0) = true := decide_eq_true c99
        clear c99
        (first | rw [c99b0] | (simp only [i64_w, i32_w]; rw [c99b0]) | skip)
        have H' := Aside0.mk H
        clear H
        go_wp2
        go_meet
        case rel => exact ⟨_, (true), (by first | rfl | (simp; done) | (simp [*]; done)), H', ⟨by first | omega | exact Nat.le_refl _⟩, ⟨by (with_reducible repeat (first | apply Kd.R_alloc | apply Kd.R_drewN | apply Kd.R_drew)); exact Kd.R_mono HO185.out (fun _ hk => ⟨hk.2.2.1, ⟨hk.2.2.2.1, hk.2.2.2.2.1⟩⟩)⟩, ⟨by (with_reducible repeat (first | apply Kd.R_alloc | apply Kd.R_drewN | apply Kd.R_drew)); exact Kd.R_mono HO191.out (fun _ hk => ⟨hk.2.2.1, ⟨hk.2.2.2.1, hk.2.2.2.2.1⟩⟩)⟩, ⟨by (with_reducible repeat (first | apply Kd.R_alloc | apply Kd.R_drewN | apply Kd.R_drew)); exact Kd.R_mono HO197.out (fun _ hk => ⟨hk.2.2.1, ⟨hk.2.2.2.1, hk.2.2.2.2.1⟩⟩)⟩, ⟨by (with_reducible repeat (first | apply Kd.R_alloc | apply Kd.R_drewN | apply Kd.R_drew)); exact Kd.R_mono HO204.out (fun _ hk => ⟨hk.2.2.1, ⟨hk.2.2.2.1, hk.2.2.2.2.1⟩⟩)⟩, ⟨by exact BK166.out⟩, ⟨by exact BK167.out⟩, ⟨by exact BK186.out⟩, ⟨by exact BK192.out⟩, ⟨by exact BK198.out⟩, ⟨by exact BK205.out⟩, ⟨by repeat (first | (with_reducible first | exact HB.out | apply below_alloc | apply pw_below_drewN | apply below_drew1 | refine below_set ?_ GE166.out | refine below_set ?_ GE167.out | refine below_set ?_ GE186.out | refine below_set ?_ GE192.out | refine below_set ?_ GE198.out | refine below_set ?_ GE205.out) | exact HB.out)⟩⟩
       ·rw [if_neg c99] at H
        have c99b0 : decide (t221 < 0) = false := decide_eq_false c99
        clear c99
        (first | rw [c99b0] | (simp only [i64_w, i32_w]; rw [c99b0]) | skip)
        replace H := Option.bind_eq_some_iff.mp H
        obtain ⟨t223, A1000, H⟩ := H
        obtain rfl : true = t223 := Option.some.inj (A25.out.symm.trans A1000)
        (try dsimp only at H)
        have A100 := Aside0.mk A1000
        clear A1000
        have H' := Aside0.mk H
        clear H
        have hnb101 := NB205_166.out
        have hnc101 := NB166_205.out
        have hnb102 := NB205_167.out
        have hnc102 := NB167_205.out
        have hnb103 := NB205_186.out
        have hnc103 := NB186_205.out
        have hnb104 := NB205_192.out
        have hnc104 := NB192_205.out
        have hnb105 := NB205_198.out
        have hnc105 := NB198_205.out
        have hcz106_0 : w98.cell? ⟨gb205, 0, none⟩ = some (.int .i64 t199) := (blk_cell BK205.out 0).trans rfl
        have hcz106_1 : w98.cell? ⟨gb205, 1, none⟩ = some (.int .i64 t200) := (blk_cell BK205.out 1).trans rfl
        have hcz106_2 : w98.cell? ⟨gb205, 2, none⟩ = some (.int .i64 t201) := (blk_cell BK205.out 2).trans rfl
        have hcz106_3 : w98.cell? ⟨gb205, 3, none⟩ = some (.slice Ao84 t202.length co84) := (blk_cell BK205.out 3).trans rfl
        have hfz106_0 := blk_frozen BK205.out 0
        have hfz106_1 := blk_frozen BK205.out 1
        have hfz106_2 := blk_frozen BK205.out 2
        have hfz106_3 := blk_frozen BK205.out 3
        have hnb107 := NB186_166.out
        have hnc107 := NB166_186.out
        have hnb108 := NB186_167.out
        have hnc108 := NB167_186.out
        have hnb109 := NB186_192.out
        have hnc109 := NB192_186.out
        have hnb110 := NB186_198.out
        have hnc110 := NB198_186.out
        have hcz111_0 : w98.cell? ⟨gb186, 0, none⟩ = some (.int .i64 t180) := (blk_cell BK186.out 0).trans rfl
        have hcz111_1 : w98.cell? ⟨gb186, 1, none⟩ = some (.int .i64 t181) := (blk_cell BK186.out 1).trans rfl
        have hcz111_2 : w98.cell? ⟨gb186, 2, none⟩ = some (.int .i64 t182) := (blk_cell BK186.out 2).trans rfl
        have hcz111_3 : w98.cell? ⟨gb186, 3, none⟩ = some (.slice Ao54 t183.length co54) := (blk_cell BK186.out 3).trans rfl
        have hfz111_0 := blk_frozen BK186.out 0
        have hfz111_1 := blk_frozen BK186.out 1
        have hfz111_2 := blk_frozen BK186.out 2
        have hfz111_3 := blk_frozen BK186.out 3
        go_wp2_with (first | (go_at_call 21; (with_reducible refine (laws_eqMatrixResult.calls k t199 t200 t201 _ _ t202 t180 t181 t182 _ _ t183 true _ ?side1 ?side2 ?side3 ?side4 A100.out).mono ?_); (case side1 => repeat (first | exact (Kd.R_reads' HO204.out).2.2 | (with_reducible refine Kd.C_alloc ?_ _) | (with_reducible refine Kd.C_drewN ?_ _) | (with_reducible refine Kd.C_drew ?_))); (case side2 => exact (Kd.R_reads' HO204.out).2.1); (case side3 => repeat (first | exact (Kd.R_reads' HO185.out).2.2 | (with_reducible refine Kd.C_alloc ?_ _) | (with_reducible refine Kd.C_drewN ?_ _) | (with_reducible refine Kd.C_drew ?_))); (case side4 => exact (Kd.R_reads' HO185.out).2.1); rintro e w112 ⟨rfl, hb⟩; have n0_ := Aside0.mk (Kd.R_below HO174.out hb); have n1_ := Aside0.mk (Kd.R_below HO179.out hb); have n2_ := Aside0.mk (Kd.R_below HO185.out hb); have n3_ := Aside0.mk (Kd.R_below HO191.out hb); have n4_ := Aside0.mk (Kd.R_below HO197.out hb); have n5_ := Aside0.mk (Kd.R_below HO204.out hb); have n6_ := Aside0.mk (Kd.R_below HO211.out hb); have n7_ := Aside0.mk (Kd.R_below HO217.out hb); have n8_ := Aside0.mk (blk_below BK166.out hb); have n9_ := Aside0.mk (blk_below BK167.out hb); have n10_ := Aside0.mk (blk_below BK186.out hb); have n11_ := Aside0.mk (blk_below BK192.out hb); have n12_ := Aside0.mk (blk_below BK198.out hb); have n13_ := Aside0.mk (blk_below BK205.out hb); have n14_ := Aside0.mk (below_step HB.out hb); clear HO174; clear HO179; clear HO185; clear HO191; clear HO197; clear HO204; clear HO211; clear HO217; clear BK166; clear BK167; clear BK186; clear BK192; clear BK198; clear BK205; clear HB; have HO174 := n0_; have HO179 := n1_; have HO185 := n2_; have HO191 := n3_; have HO197 := n4_; have HO204 := n5_; have HO211 := n6_; have HO217 := n7_; have BK166 := n8_; have BK167 := n9_; have BK186 := n10_; have BK192 := n11_; have BK198 := n12_; have BK205 := n13_; have HB := n14_; clear n0_ n1_ n2_ n3_ n4_ n5_ n6_ n7_ n8_ n9_ n10_ n11_ n12_ n13_ n14_; (try clear hb); (try clear hb2); (try clear hk); (try clear hi)))
        go_meet
        case rel => exact ⟨_, (!true), (by first | rfl | (simp; done) | (simp [*]; done)), H', ⟨by first | omega | exact Nat.le_refl _⟩, ⟨by (with_reducible repeat (first | apply Kd.R_alloc | apply Kd.R_drewN | apply Kd.R_drew)); exact Kd.R_mono HO185.out (fun _ hk => ⟨hk.2.2.1, ⟨hk.2.2.2.1, hk.2.2.2.2.1⟩⟩)⟩, ⟨by (with_reducible repeat (first | apply Kd.R_alloc | apply Kd.R_drewN | apply Kd.R_drew)); exact Kd.R_mono HO191.out (fun _ hk => ⟨hk.2.2.1, ⟨hk.2.2.2.1, hk.2.2.2.2.1⟩⟩)⟩, ⟨by (with_reducible repeat (first | apply Kd.R_alloc | apply Kd.R_drewN | apply Kd.R_drew)); exact Kd.R_mono HO197.out (fun _ hk => ⟨hk.2.2.1, ⟨hk.2.2.2.1, hk.2.2.2.2.1⟩⟩)⟩, ⟨by (with_reducible repeat (first | apply Kd.R_alloc | apply Kd.R_drewN | apply Kd.R_drew)); exact Kd.R_mono HO204.out (fun _ hk => ⟨hk.2.2.1, ⟨hk.2.2.2.1, hk.2.2.2.2.1⟩⟩)⟩, ⟨by exact BK166.out⟩, ⟨by exact BK167.out⟩, ⟨by exact BK186.out⟩, ⟨by exact BK192.out⟩, ⟨by exact BK198.out⟩, ⟨by exact BK205.out⟩, ⟨by repeat (first | (with_reducible first | exact HB.out | apply below_alloc | apply pw_below_drewN | apply below_drew1 | refine below_set ?_ GE166.out | refine below_set ?_ GE167.out | refine below_set ?_ GE186.out | refine below_set ?_ GE192.out | refine below_set ?_ GE198.out | refine below_set ?_ GE205.out) | exact HB.out)⟩⟩
      case rest =>
       clear HC35
       obtain ⟨kq, x63_34, rfl, HA, HJ34, HO_187003, HO_193002, HO_199002, HO_206003, BK166, BK167, BK186, BK192, BK198, BK205, HB⟩ := hcut
       have hl193002_34 := (Kd.R_reads' HO_193002.out).1
       rw [hl193002_34] at HO_193002
       (try simp only [hl193002_34])
       (try simp only [hl193002_34] at BK166)
       (try simp only [hl193002_34] at BK167)
       (try simp only [hl193002_34] at BK186)
       (try simp only [hl193002_34] at BK192)
       (try simp only [hl193002_34] at BK198)
       (try simp only [hl193002_34] at BK205)
       (try simp only [hl193002_34] at HO_187003)
       (try simp only [hl193002_34] at HO_199002)
       (try simp only [hl193002_34] at HO_206003)
       have hl199002_34 := (Kd.R_reads' HO_199002.out).1
       rw [hl199002_34] at HO_199002
       (try simp only [hl199002_34])
       (try simp only [hl199002_34] at BK166)
       (try simp only [hl199002_34] at BK167)
       (try simp only [hl199002_34] at BK186)
       (try simp only [hl199002_34] at BK192)
       (try simp only [hl199002_34] at BK198)
       (try simp only [hl199002_34] at BK205)
       (try simp only [hl199002_34] at HO_187003)
       (try simp only [hl199002_34] at HO_193002)
       (try simp only [hl199002_34] at HO_206003)
       cases kq with
       | zero => exact absurd HA.out (by simp [laws_FnExactMatMul.j0])
       | succ kj34 =>
        have H := HA.out
        clear HA
        simp only [laws_FnExactMatMul.j0] at H
        by_cases c113 : x63_34 = true
        ·subst c113
         have H1 : (some false) = some true := by rw [if_pos rfl] at H; exact H
         clear H
         have H := H1
         clear H1
         exact absurd (Option.some.inj H) (by decide)
        ·replace c113 := Bool.eq_false_iff.mpr c113
         subst c113
         have H1 : ((laws_markMatrixResult.f kj34 t199 t200 t201 t202 1).bind fun bt224 => ((laws_heldMatrixResult.f kj34 t199 t200 t201 bt224.2 1).bind fun t226 => (if t226 < 0 then (some false) else (if t226 = bt224.1 then ((laws_toMatrix.f kj34 a0_0 a0_1 l0_2).bind fun bt227 => ((laws_toMatrix.f kj34 a1_0 a1_1 l1_2).bind fun bt232 => ((impl_MatMul.f kj34 bt227.1 bt227.2.1 bt227.2.2 bt232.1 bt232.2.1 bt232.2.2).bind fun bt237 => ((laws_eqMatrixResult.f kj34 bt237.1 bt237.2.1 bt237.2.2.1 bt237.2.2.2 t180 t181 t182 t183).bind fun t244 => (if t244 = true then ((laws_heldMatrixResult.f kj34 t199 t200 t201 bt224.2 1).bind fun t245 => (if t245 < 0 then (some false) else (if t245 = bt224.1 then (some true) else (some false)))) else (some false)))))) else (some false))))) = some true := by rw [if_neg (show ¬ (false = true) by decide)] at H; exact H
         clear H
         have H := H1
         clear H1
         replace H := Option.bind_eq_some_iff.mp H
         obtain ⟨⟨t224, t225⟩, A1140, H⟩ := H
         (try dsimp only at H)
         have A114 := Aside0.mk A1140
         clear A1140
         replace H := Option.bind_eq_some_iff.mp H
         obtain ⟨t226, A1150, H⟩ := H
         (try dsimp only at H)
         have A115 := Aside0.mk A1150
         clear A1150
         by_cases c116 : t226 < 0
         ·rw [if_pos c116] at H
          have c116b0 : decide (t226 < 0) = true := decide_eq_true c116
          clear c116
          exact absurd (Option.some.inj H) (by decide)
         ·rw [if_neg c116] at H
          have c116b0 : decide (t226 < 0) = false := decide_eq_false c116
          clear c116
          by_cases c126 : t226 = t224
          ·rw [if_pos c126] at H
           have c126b0 : (t226 == t224) = true := beq_iff_eq.mpr c126
           have c126b1 : (t226 != t224) = false := bne_eq_false_iff_eq.mpr c126
           clear c126
           replace H := Option.bind_eq_some_iff.mp H
           obtain ⟨⟨t227, t228, t229⟩, A1270, H⟩ := H
           (try dsimp only at H)
           have A127 := Aside0.mk A1270
           clear A1270
           replace H := Option.bind_eq_some_iff.mp H
           obtain ⟨⟨t232, t233, t234⟩, A1280, H⟩ := H
           (try dsimp only at H)
           have A128 := Aside0.mk A1280
           clear A1280
           replace H := Option.bind_eq_some_iff.mp H
           obtain ⟨⟨t237, t238, t239, t240⟩, A1290, H⟩ := H
           (try dsimp only at H)
           have A129 := Aside0.mk A1290
           clear A1290
           replace H := Option.bind_eq_some_iff.mp H
           obtain ⟨t244, A1300, H⟩ := H
           (try dsimp only at H)
           have A130 := Aside0.mk A1300
           clear A1300
           by_cases c131 : t244 = true
           ·subst c131
            have H1 : ((laws_heldMatrixResult.f kj34 t199 t200 t201 t225 1).bind fun t245 => (if t245 < 0 then (some false) else (if t245 = t224 then (some true) else (some false)))) = some true := by rw [if_pos rfl] at H; exact H
            clear H
            have H := H1
            clear H1
            replace H := Option.bind_eq_some_iff.mp H
            obtain ⟨t245, A1320, H⟩ := H
            obtain rfl : t226 = t245 := Option.some.inj (A115.out.symm.trans A1320)
            (try dsimp only at H)
            have A132 := Aside0.mk A1320
            clear A1320
            by_cases c133 : t226 < 0
            ·exact absurd c133 (of_decide_eq_false c116b0)
            ·rw [if_neg c133] at H
             have c133b0 : decide (t226 < 0) = false := decide_eq_false c133
             clear c133
             by_cases c171 : t226 = t224
             ·rw [if_pos c171] at H
              have c171b0 : (t226 == t224) = true := beq_iff_eq.mpr c171
              have c171b1 : (t226 != t224) = false := bne_eq_false_iff_eq.mpr c171
              clear c171
              clear H
              have hnb172 := NB205_166.out
              have hnc172 := NB166_205.out
              have hnb173 := NB205_167.out
              have hnc173 := NB167_205.out
              have hnb174 := NB205_186.out
              have hnc174 := NB186_205.out
              have hnb175 := NB205_192.out
              have hnc175 := NB192_205.out
              have hnb176 := NB205_198.out
              have hnc176 := NB198_205.out
              have hcz177_0 : wc.cell? ⟨gb205, 0, none⟩ = some (.int .i64 t199) := (blk_cell BK205.out 0).trans rfl
              have hcz177_1 : wc.cell? ⟨gb205, 1, none⟩ = some (.int .i64 t200) := (blk_cell BK205.out 1).trans rfl
              have hcz177_2 : wc.cell? ⟨gb205, 2, none⟩ = some (.int .i64 t201) := (blk_cell BK205.out 2).trans rfl
              have hcz177_3 : wc.cell? ⟨gb205, 3, none⟩ = some (.slice Ao84 t202.length co84) := (blk_cell BK205.out 3).trans rfl
              have hfz177_0 := blk_frozen BK205.out 0
              have hfz177_1 := blk_frozen BK205.out 1
              have hfz177_2 := blk_frozen BK205.out 2
              have hfz177_3 := blk_frozen BK205.out 3
              try go_wp2_with (first | ((with_reducible refine gate_callee (f := 24) rfl ?_); refine goesL_ (some 66) rfl rfl Try.func24 (by kernel_rfl) rfl #[.agg #[.int .i64 t199, .int .i64 t200, .int .i64 t201, .slice Ao84 t202.length co84], .int .i64 1] rfl (by (try simp only [List.map_toArray, List.map_cons, List.map_nil]); first | done | rfl) ?_; (with_reducible refine (laws_markMatrixResult.calls kj34 t199 t200 t201 (fun k_ => some k_ = (.slice Ao84 t202.length co84 : Value).ownBlock) (.slice Ao84 t202.length co84) t202 1 t224 t225 w _ ?side1 ?side2 A114.out).mono ?_); (case side1 => repeat (first | (with_reducible first | exact HB.out | apply below_alloc | apply pw_below_drewN | apply below_drew1 | refine below_set ?_ GE166.out | refine below_set ?_ GE167.out | refine below_set ?_ GE186.out | refine below_set ?_ GE192.out | refine below_set ?_ GE198.out | refine below_set ?_ GE205.out) | exact HB.out)); (case side2 => exact Kd.R_tight rfl HO_206003.out); rintro e w178 ⟨rfl, hy0, hb, hkp⟩; refine ⟨_, rfl, ?_⟩; have n0_ := Aside0.mk (Kd.R_mono (ok' := fun k_ => some k_ ≠ (.slice Ao64 t220.length co64 : Value).ownBlock ∧ some k_ ≠ (.slice Ao74 t222.length co74 : Value).ownBlock ∧ some k_ ≠ (.slice Ao84 t202.length co84 : Value).ownBlock) (Kd.R_keptB (HO_187003.out) hkp (fun k_ hk_ hs_ => (hk_.2.2) hs_)) (fun k_ hk_ => ⟨hk_.1.1, hk_.1.2.1, hk_.1.2.2⟩)); have n1_ := Aside0.mk (Kd.R_mono (ok' := fun k_ => some k_ ≠ (.slice Ao54 t183.length co54 : Value).ownBlock ∧ some k_ ≠ (.slice Ao74 t222.length co74 : Value).ownBlock ∧ some k_ ≠ (.slice Ao84 t202.length co84 : Value).ownBlock) (Kd.R_keptB (HO_193002.out) hkp (fun k_ hk_ hs_ => (hk_.2.2) hs_)) (fun k_ hk_ => ⟨hk_.1.1, hk_.1.2.1, hk_.1.2.2⟩)); have n2_ := Aside0.mk (Kd.R_mono (ok' := fun k_ => some k_ ≠ (.slice Ao54 t183.length co54 : Value).ownBlock ∧ some k_ ≠ (.slice Ao64 t220.length co64 : Value).ownBlock ∧ some k_ ≠ (.slice Ao84 t202.length co84 : Value).ownBlock) (Kd.R_keptB (HO_199002.out) hkp (fun k_ hk_ hs_ => (hk_.2.2) hs_)) (fun k_ hk_ => ⟨hk_.1.1, hk_.1.2.1, hk_.1.2.2⟩)); have n3_ := Aside0.mk (Kd.R_reok rfl hy0 (fun k_ e_ => HO_206003.out.1 k_ e_)); have n4_ := Aside0.mk (blk_kept BK166.out hkp (fun hs_ => (fun e_ => (Kd.R_ne HO_206003.out BK166.out (by decide)) e_) hs_)); have n5_ := Aside0.mk (blk_kept BK167.out hkp (fun hs_ => (fun e_ => (Kd.R_ne HO_206003.out BK167.out (by decide)) e_) hs_)); have n6_ := Aside0.mk (blk_kept BK186.out hkp (fun hs_ => (fun e_ => (Kd.R_ne HO_206003.out BK186.out (by decide)) e_) hs_)); have n7_ := Aside0.mk (blk_kept BK192.out hkp (fun hs_ => (fun e_ => (Kd.R_ne HO_206003.out BK192.out (by decide)) e_) hs_)); have n8_ := Aside0.mk (blk_kept BK198.out hkp (fun hs_ => (fun e_ => (Kd.R_ne HO_206003.out BK198.out (by decide)) e_) hs_)); have n9_ := Aside0.mk (blk_kept BK205.out hkp (fun hs_ => (fun e_ => (Kd.R_ne HO_206003.out BK205.out (by decide)) e_) hs_)); have n10_ := Aside0.mk (hb); clear HO_187003; clear HO_193002; clear HO_199002; clear HO_206003; clear BK166; clear BK167; clear BK186; clear BK192; clear BK198; clear BK205; clear HB; have HO_187003 := n0_; have HO_193002 := n1_; have HO_199002 := n2_; have HO_206003 := n3_; have BK166 := n4_; have BK167 := n5_; have BK186 := n6_; have BK192 := n7_; have BK198 := n8_; have BK205 := n9_; have HB := n10_; clear n0_ n1_ n2_ n3_ n4_ n5_ n6_ n7_ n8_ n9_ n10_; (try clear hb); (try clear hkp); (try clear hy0); have hcz179_0 : w178.cell? ⟨gb205, 0, none⟩ = some (.int .i64 t199) := (blk_cell BK205.out 0).trans rfl; have hcz179_1 : w178.cell? ⟨gb205, 1, none⟩ = some (.int .i64 t200) := (blk_cell BK205.out 1).trans rfl; have hcz179_2 : w178.cell? ⟨gb205, 2, none⟩ = some (.int .i64 t201) := (blk_cell BK205.out 2).trans rfl; have hcz179_3 : w178.cell? ⟨gb205, 3, none⟩ = some (.slice Ao84 t202.length co84) := (blk_cell BK205.out 3).trans rfl; have hfz179_0 := blk_frozen BK205.out 0; have hfz179_1 := blk_frozen BK205.out 1; have hfz179_2 := blk_frozen BK205.out 2; have hfz179_3 := blk_frozen BK205.out 3) | ((with_reducible refine gate_callee (f := 25) rfl ?_); refine goesL_ (some 69) rfl rfl Try.func25 (by kernel_rfl) rfl #[.agg #[.int .i64 t199, .int .i64 t200, .int .i64 t201, .slice Ao84 t225.length co84], .int .i64 1] rfl (by (try simp only [List.map_toArray, List.map_cons, List.map_nil]); first | done | (rw [show t225.length = t202.length from (Kd.R_reads' HO_206003.out).1.symm] <;> rfl) | rfl | (simp only [List.length_drop, List.length_take]; rfl)) ?_; (with_reducible refine (laws_heldMatrixResult.calls kj34 t199 t200 t201 _ _ t225 1 t226 _ ?side1 ?side2 A115.out).mono ?_); (case side1 => repeat (first | exact (Kd.R_reads' HO_206003.out).2.2 | (with_reducible refine Kd.C_alloc ?_ _) | (with_reducible refine Kd.C_drewN ?_ _) | (with_reducible refine Kd.C_drew ?_))); (case side2 => rw [show t225.length = t202.length from (Kd.R_reads' HO_206003.out).1.symm]; exact (Kd.R_reads' HO_206003.out).2.1); rintro e w180 ⟨rfl, hb⟩; refine ⟨_, rfl, ?_⟩; have n0_ := Aside0.mk (Kd.R_below HO_187003.out hb); have n1_ := Aside0.mk (Kd.R_below HO_193002.out hb); have n2_ := Aside0.mk (Kd.R_below HO_199002.out hb); have n3_ := Aside0.mk (Kd.R_below HO_206003.out hb); have n4_ := Aside0.mk (blk_below BK166.out hb); have n5_ := Aside0.mk (blk_below BK167.out hb); have n6_ := Aside0.mk (blk_below BK186.out hb); have n7_ := Aside0.mk (blk_below BK192.out hb); have n8_ := Aside0.mk (blk_below BK198.out hb); have n9_ := Aside0.mk (blk_below BK205.out hb); have n10_ := Aside0.mk (below_step HB.out hb); clear HO_187003; clear HO_193002; clear HO_199002; clear HO_206003; clear BK166; clear BK167; clear BK186; clear BK192; clear BK198; clear BK205; clear HB; have HO_187003 := n0_; have HO_193002 := n1_; have HO_199002 := n2_; have HO_206003 := n3_; have BK166 := n4_; have BK167 := n5_; have BK186 := n6_; have BK192 := n7_; have BK198 := n8_; have BK205 := n9_; have HB := n10_; clear n0_ n1_ n2_ n3_ n4_ n5_ n6_ n7_ n8_ n9_ n10_; (try clear hb); (try clear hb2); (try clear hk); (try clear hi)))
              have n0_ := Aside0.mk (Kd.R_drew HO_187003.out)
              have n1_ := Aside0.mk (Kd.R_drew HO_193002.out)
              have n2_ := Aside0.mk (Kd.R_drew HO_199002.out)
              have n3_ := Aside0.mk (Kd.R_drew HO_206003.out)
              have n4_ := Aside0.mk (blk_drew BK166.out)
              have n5_ := Aside0.mk (blk_drew BK167.out)
              have n6_ := Aside0.mk (blk_drew BK186.out)
              have n7_ := Aside0.mk (blk_drew BK192.out)
              have n8_ := Aside0.mk (blk_drew BK198.out)
              have n9_ := Aside0.mk (blk_drew BK205.out)
              have n10_ := Aside0.mk (below_drew1 HB.out)
              clear HO_187003
              clear HO_193002
              clear HO_199002
              clear HO_206003
              clear BK166
              clear BK167
              clear BK186
              clear BK192
              clear BK198
              clear BK205
              clear HB
              have HO_187003 := n0_
              have HO_193002 := n1_
              have HO_199002 := n2_
              have HO_206003 := n3_
              have BK166 := n4_
              have BK167 := n5_
              have BK186 := n6_
              have BK192 := n7_
              have BK198 := n8_
              have BK205 := n9_
              have HB := n10_
              clear n0_ n1_ n2_ n3_ n4_ n5_ n6_ n7_ n8_ n9_ n10_
              refine start_ (n := 7) (S := fun w' => w'.cell? ⟨gb166, 0, none⟩ = some (.int .i64 a0_0) ∧ w'.cell? ⟨gb166, 1, none⟩ = some (.int .i64 a0_1) ∧ w'.cell? ⟨gb166, 2, none⟩ = some (.slice A0_2 l0_2.length c0_2) ∧ w'.cell? ⟨gb167, 0, none⟩ = some (.int .i64 a1_0) ∧ w'.cell? ⟨gb167, 1, none⟩ = some (.int .i64 a1_1) ∧ w'.cell? ⟨gb167, 2, none⟩ = some (.slice A1_2 l1_2.length c1_2)) (ds := []) #[false, false, false, false, false, false, false] (by kernel_rfl) rfl rfl ⟨(blk_cell BK166.out 0).trans rfl, (blk_cell BK166.out 1).trans rfl, (blk_cell BK166.out 2).trans rfl, (blk_cell BK167.out 0).trans rfl, (blk_cell BK167.out 1).trans rfl, (blk_cell BK167.out 2).trans rfl⟩ (fun hHeld => ?_)
              generalize w180.drew = w181 at HO_187003 HO_193002 HO_199002 HO_206003 BK166 BK167 BK186 BK192 BK198 BK205 HB hHeld ⊢
              refine take_ (i := 0) (N := some 75) (v := ?_) (a' := ?_) #[true, false, false, false, false, false, false] rfl rfl (by kernel_rfl) (fun _ _ _ h => h) (Or.inl ⟨by rfl, ?_⟩) hHeld ?_ ?_
              rotate_left
              ·rintro w' ⟨s0, s1, s2, s3, s4, s5⟩
               go_simp
               with_reducible rfl
              rotate_left
              ·simp only [Act.put, List.setIfInBounds_toArray, List.set_cons_zero, List.set_cons_succ, i64_w, i32_w]
               rfl
              refine take_ (i := 2) (N := some 77) (v := ?_) (a' := ?_) #[true, false, true, false, false, false, false] rfl rfl (by kernel_rfl) (fun _ _ _ h => h) (Or.inl ⟨by rfl, ?_⟩) hHeld ?_ ?_
              rotate_left
              ·rintro w' ⟨s0, s1, s2, s3, s4, s5⟩
               go_simp
               with_reducible rfl
              rotate_left
              ·simp only [Act.put, List.setIfInBounds_toArray, List.set_cons_zero, List.set_cons_succ, i64_w, i32_w]
               rfl
              refine join_ (σ := Value × Value × Value × Nat) 1 #[true, true, true, true, true, true, false] (fun s_ => [(76, .agg #[.int .i64 t227, .int .i64 t228, s_.1]), (78, .agg #[.int .i64 t232, .int .i64 t233, s_.2.1]), (79, .agg #[.int .i64 t237, .int .i64 t238, .int .i64 t239, s_.2.2.1]), (13, .pointer (some ⟨s_.2.2.2, 0, none⟩))]) (fun s_ w' => (w'.cell? ⟨gb166, 0, none⟩ = some (.int .i64 a0_0) ∧ w'.cell? ⟨gb166, 1, none⟩ = some (.int .i64 a0_1) ∧ w'.cell? ⟨gb166, 2, none⟩ = some (.slice A0_2 l0_2.length c0_2) ∧ w'.cell? ⟨gb167, 0, none⟩ = some (.int .i64 a1_0) ∧ w'.cell? ⟨gb167, 1, none⟩ = some (.int .i64 a1_1) ∧ w'.cell? ⟨gb167, 2, none⟩ = some (.slice A1_2 l1_2.length c1_2)) ∧ (Kd.R (Kd.int .i64) 2 w' w.heap.size (fun k_ => some k_ ≠ (s_.2.1 : Value).ownBlock ∧ some k_ ≠ (s_.2.2.1 : Value).ownBlock ∧ some k_ ≠ (.slice Ao54 t183.length co54 : Value).ownBlock ∧ some k_ ≠ (.slice Ao64 t220.length co64 : Value).ownBlock ∧ some k_ ≠ (.slice Ao74 t222.length co74 : Value).ownBlock ∧ some k_ ≠ (.slice Ao84 t202.length co84 : Value).ownBlock) s_.1 t229) ∧ (Kd.R (Kd.int .i64) 2 w' w.heap.size (fun k_ => some k_ ≠ (s_.1 : Value).ownBlock ∧ some k_ ≠ (s_.2.2.1 : Value).ownBlock ∧ some k_ ≠ (.slice Ao54 t183.length co54 : Value).ownBlock ∧ some k_ ≠ (.slice Ao64 t220.length co64 : Value).ownBlock ∧ some k_ ≠ (.slice Ao74 t222.length co74 : Value).ownBlock ∧ some k_ ≠ (.slice Ao84 t202.length co84 : Value).ownBlock) s_.2.1 t234) ∧ (Kd.R (Kd.int .i64) 2 w' w.heap.size (fun k_ => some k_ ≠ (s_.1 : Value).ownBlock ∧ some k_ ≠ (s_.2.1 : Value).ownBlock ∧ some k_ ≠ (.slice Ao54 t183.length co54 : Value).ownBlock ∧ some k_ ≠ (.slice Ao64 t220.length co64 : Value).ownBlock ∧ some k_ ≠ (.slice Ao74 t222.length co74 : Value).ownBlock ∧ some k_ ≠ (.slice Ao84 t202.length co84 : Value).ownBlock) s_.2.2.1 t240) ∧ (Kd.R (Kd.int .i64) 2 w' w.heap.size (fun k_ => some k_ ≠ (s_.1 : Value).ownBlock ∧ some k_ ≠ (s_.2.1 : Value).ownBlock ∧ some k_ ≠ (s_.2.2.1 : Value).ownBlock ∧ some k_ ≠ (.slice Ao64 t220.length co64 : Value).ownBlock ∧ some k_ ≠ (.slice Ao74 t222.length co74 : Value).ownBlock ∧ some k_ ≠ (.slice Ao84 t202.length co84 : Value).ownBlock) (.slice Ao54 t183.length co54) t183) ∧ (Kd.R (Kd.int .i64) 2 w' w.heap.size (fun k_ => some k_ ≠ (s_.1 : Value).ownBlock ∧ some k_ ≠ (s_.2.1 : Value).ownBlock ∧ some k_ ≠ (s_.2.2.1 : Value).ownBlock ∧ some k_ ≠ (.slice Ao54 t183.length co54 : Value).ownBlock ∧ some k_ ≠ (.slice Ao74 t222.length co74 : Value).ownBlock ∧ some k_ ≠ (.slice Ao84 t202.length co84 : Value).ownBlock) (.slice Ao64 t220.length co64) t220) ∧ (Kd.R (Kd.int .i64) 2 w' w.heap.size (fun k_ => some k_ ≠ (s_.1 : Value).ownBlock ∧ some k_ ≠ (s_.2.1 : Value).ownBlock ∧ some k_ ≠ (s_.2.2.1 : Value).ownBlock ∧ some k_ ≠ (.slice Ao54 t183.length co54 : Value).ownBlock ∧ some k_ ≠ (.slice Ao64 t220.length co64 : Value).ownBlock ∧ some k_ ≠ (.slice Ao84 t202.length co84 : Value).ownBlock) (.slice Ao74 t222.length co74) t222) ∧ (Kd.R (Kd.int .i64) 2 w' w.heap.size (fun k_ => some k_ ≠ (s_.1 : Value).ownBlock ∧ some k_ ≠ (s_.2.1 : Value).ownBlock ∧ some k_ ≠ (s_.2.2.1 : Value).ownBlock ∧ some k_ ≠ (.slice Ao54 t183.length co54 : Value).ownBlock ∧ some k_ ≠ (.slice Ao64 t220.length co64 : Value).ownBlock ∧ some k_ ≠ (.slice Ao74 t222.length co74 : Value).ownBlock) (.slice Ao84 t202.length co84) t225) ∧ (w'.heap[gb166]? = some (.cells #[.int .i64 a0_0, .int .i64 a0_1, .slice A0_2 l0_2.length c0_2] 32 (0, 0))) ∧ (w'.heap[gb167]? = some (.cells #[.int .i64 a1_0, .int .i64 a1_1, .slice A1_2 l1_2.length c1_2] 32 (0, 0))) ∧ (w'.heap[gb186]? = some (.cells #[.int .i64 t180, .int .i64 t181, .int .i64 t182, .slice Ao54 t183.length co54] 36 (0, 0))) ∧ (w'.heap[gb192]? = some (.cells #[.int .i64 t187, .int .i64 t188, .slice Ao64 t220.length co64] 34 (0, 0))) ∧ (w'.heap[gb198]? = some (.cells #[.int .i64 t193, .int .i64 t194, .slice Ao74 t222.length co74] 34 (0, 0))) ∧ (w'.heap[gb205]? = some (.cells #[.int .i64 t199, .int .i64 t200, .int .i64 t201, .slice Ao84 t202.length co84] 36 (0, 0))) ∧ (w'.heap[s_.2.2.2]? = some (.cells #[.int .i64 0, .int .i64 0, .int .i64 0, .slice none 0 0] 36 (0, 0))) ∧ (w.heap.size ≤ s_.2.2.2) ∧ (w.heap.size ≤ s_.2.2.2) ∧ (gb166 ≠ s_.2.2.2) ∧ (s_.2.2.2 ≠ gb166) ∧ (gb167 ≠ s_.2.2.2) ∧ (s_.2.2.2 ≠ gb167) ∧ (gb186 ≠ s_.2.2.2) ∧ (s_.2.2.2 ≠ gb186) ∧ (gb192 ≠ s_.2.2.2) ∧ (s_.2.2.2 ≠ gb192) ∧ (gb198 ≠ s_.2.2.2) ∧ (s_.2.2.2 ≠ gb198) ∧ (gb205 ≠ s_.2.2.2) ∧ (s_.2.2.2 ≠ gb205) ∧ (Below w.heap.size w w')) ?_ ?_
              rotate_left
              ·intro hCont
               refine two_ (i := 1) (j := 5) (Ni := some 76) (Nj := some 13) #[true, true, true, false, false, false, false] #[true, false, true, false, false, true, false] rfl rfl rfl rfl (by kernel_rfl) (by decide) (by decide) (fun K hK => ?_) (fun K hK => ?_)
               ·skip
                refine goes_ Try.func19 (by kernel_rfl) rfl #[.agg #[.int .i64 a0_0, .int .i64 a0_1, .slice A0_2 l0_2.length c0_2]] (by rfl) rfl rfl (by (try simp only [List.map_toArray, List.map_cons, List.map_nil]); first | done | rfl) ?_
                with_reducible refine (laws_toMatrix.calls kj34 a0_0 a0_1 _ _ l0_2 t227 t228 t229 _ ?side1 ?side2 A127.out).mono ?_
                (case side1 => repeat (first | exact (Kd.C_below HR0_2.out HB.out) | (with_reducible refine Kd.C_alloc ?_ _) | (with_reducible refine Kd.C_drewN ?_ _) | (with_reducible refine Kd.C_drew ?_)))
                (case side2 => exact HC0_2.out)
                rintro e w182 ⟨v230, rfl, ho0, hb⟩
                refine ⟨_, rfl, ?_⟩
                have n0_ := Aside0.mk (Kd.R_elder' HO_187003.out (Kd.R_base ho0) hb)
                have n1_ := Aside0.mk (Kd.R_elder' HO_193002.out (Kd.R_base ho0) hb)
                have n2_ := Aside0.mk (Kd.R_elder' HO_199002.out (Kd.R_base ho0) hb)
                have n3_ := Aside0.mk (Kd.R_elder' HO_206003.out (Kd.R_base ho0) hb)
                have n4_ := Aside0.mk (Kd.R_lower (Kd.R_new' (Kd.R_new' (Kd.R_new' (Kd.R_new' ho0 (Kd.R_lt HO_187003.out)) (Kd.R_lt HO_193002.out)) (Kd.R_lt HO_199002.out)) (Kd.R_lt HO_206003.out)) (below_size HB.out))
                have n5_ := Aside0.mk (blk_below BK166.out hb)
                have n6_ := Aside0.mk (blk_below BK167.out hb)
                have n7_ := Aside0.mk (blk_below BK186.out hb)
                have n8_ := Aside0.mk (blk_below BK192.out hb)
                have n9_ := Aside0.mk (blk_below BK198.out hb)
                have n10_ := Aside0.mk (blk_below BK205.out hb)
                have n11_ := Aside0.mk (below_step HB.out hb)
                clear HO_187003
                clear HO_193002
                clear HO_199002
                clear HO_206003
                clear BK166
                clear BK167
                clear BK186
                clear BK192
                clear BK198
                clear BK205
                clear HB
                have HO_187003 := n0_
                have HO_193002 := n1_
                have HO_199002 := n2_
                have HO_206003 := n3_
                have HO231 := n4_
                have BK166 := n5_
                have BK167 := n6_
                have BK186 := n7_
                have BK192 := n8_
                have BK198 := n9_
                have BK205 := n10_
                have HB := n11_
                clear n0_ n1_ n2_ n3_ n4_ n5_ n6_ n7_ n8_ n9_ n10_ n11_
                (try clear hb)
                (try clear hb2)
                (try clear hk)
                (try clear hi)
                (try clear ho0)
                refine hK.out _ _ ⟨(blk_cell BK166.out 0).trans rfl, (blk_cell BK166.out 1).trans rfl, (blk_cell BK166.out 2).trans rfl, (blk_cell BK167.out 0).trans rfl, (blk_cell BK167.out 1).trans rfl, (blk_cell BK167.out 2).trans rfl⟩ (fun hHeld => ?_)
                clear hK K
                refine norm_ (a' := ?_) ?_ ?_
                rotate_left
                ·show Act.put _ (some 76) _ = _
                 simp only [Act.put, List.setIfInBounds_toArray, List.set_cons_zero, List.set_cons_succ, i64_w, i32_w]
                 rfl
                refine two_ (i := 3) (j := 5) (Ni := some 78) (Nj := some 13) #[true, true, true, true, false, false, false] #[true, true, true, false, false, true, false] rfl rfl rfl rfl (by kernel_rfl) (by decide) (by decide) (fun K hK => ?_) (fun K hK => ?_)
                ·skip
                 refine goes_ Try.func19 (by kernel_rfl) rfl #[.agg #[.int .i64 a1_0, .int .i64 a1_1, .slice A1_2 l1_2.length c1_2]] (by rfl) rfl rfl (by (try simp only [List.map_toArray, List.map_cons, List.map_nil]); first | done | rfl) ?_
                 with_reducible refine (laws_toMatrix.calls kj34 a1_0 a1_1 _ _ l1_2 t232 t233 t234 _ ?side1 ?side2 A128.out).mono ?_
                 (case side1 => repeat (first | exact (Kd.C_below HR1_2.out HB.out) | (with_reducible refine Kd.C_alloc ?_ _) | (with_reducible refine Kd.C_drewN ?_ _) | (with_reducible refine Kd.C_drew ?_)))
                 (case side2 => exact HC1_2.out)
                 rintro e w183 ⟨v235, rfl, ho0, hb⟩
                 refine ⟨_, rfl, ?_⟩
                 have n0_ := Aside0.mk (Kd.R_elder' HO_187003.out (Kd.R_base ho0) hb)
                 have n1_ := Aside0.mk (Kd.R_elder' HO_193002.out (Kd.R_base ho0) hb)
                 have n2_ := Aside0.mk (Kd.R_elder' HO_199002.out (Kd.R_base ho0) hb)
                 have n3_ := Aside0.mk (Kd.R_elder' HO_206003.out (Kd.R_base ho0) hb)
                 have n4_ := Aside0.mk (Kd.R_elder' HO231.out (Kd.R_base ho0) hb)
                 have n5_ := Aside0.mk (Kd.R_lower (Kd.R_new' (Kd.R_new' (Kd.R_new' (Kd.R_new' (Kd.R_new' ho0 (Kd.R_lt HO_187003.out)) (Kd.R_lt HO_193002.out)) (Kd.R_lt HO_199002.out)) (Kd.R_lt HO_206003.out)) (Kd.R_lt HO231.out)) (below_size HB.out))
                 have n6_ := Aside0.mk (blk_below BK166.out hb)
                 have n7_ := Aside0.mk (blk_below BK167.out hb)
                 have n8_ := Aside0.mk (blk_below BK186.out hb)
                 have n9_ := Aside0.mk (blk_below BK192.out hb)
                 have n10_ := Aside0.mk (blk_below BK198.out hb)
                 have n11_ := Aside0.mk (blk_below BK205.out hb)
                 have n12_ := Aside0.mk (below_step HB.out hb)
                 clear HO_187003
                 clear HO_193002
                 clear HO_199002
                 clear HO_206003
                 clear HO231
                 clear BK166
                 clear BK167
                 clear BK186
                 clear BK192
                 clear BK198
                 clear BK205
                 clear HB
                 have HO_187003 := n0_
                 have HO_193002 := n1_
                 have HO_199002 := n2_
                 have HO_206003 := n3_
                 have HO231 := n4_
                 have HO236 := n5_
                 have BK166 := n6_
                 have BK167 := n7_
                 have BK186 := n8_
                 have BK192 := n9_
                 have BK198 := n10_
                 have BK205 := n11_
                 have HB := n12_
                 clear n0_ n1_ n2_ n3_ n4_ n5_ n6_ n7_ n8_ n9_ n10_ n11_ n12_
                 (try clear hb)
                 (try clear hb2)
                 (try clear hk)
                 (try clear hi)
                 (try clear ho0)
                 obtain ⟨Ao184, co184, eo184⟩ := Kd.R_slice HO231.out
                 (first | subst eo184 | (injection eo184 with f1_ f2_ f3_; have f4_ := f1_.symm; have f5_ := f3_.symm; clear f1_ f2_ f3_; subst f4_; subst f5_))
                 obtain ⟨Ao185, co185, eo185⟩ := Kd.R_slice HO236.out
                 (first | subst eo185 | (injection eo185 with f1_ f2_ f3_; have f4_ := f1_.symm; have f5_ := f3_.symm; clear f1_ f2_ f3_; subst f4_; subst f5_))
                 refine hK.out _ _ ⟨(blk_cell BK166.out 0).trans rfl, (blk_cell BK166.out 1).trans rfl, (blk_cell BK166.out 2).trans rfl, (blk_cell BK167.out 0).trans rfl, (blk_cell BK167.out 1).trans rfl, (blk_cell BK167.out 2).trans rfl⟩ (fun hHeld => ?_)
                 clear hK K
                 refine norm_ (a' := ?_) ?_ ?_
                 rotate_left
                 ·show Act.put _ (some 78) _ = _
                  simp only [Act.put, List.setIfInBounds_toArray, List.set_cons_zero, List.set_cons_succ, i64_w, i32_w]
                  rfl
                 refine two_ (i := 4) (j := 5) (Ni := some 79) (Nj := some 13) #[true, true, true, true, true, false, false] #[true, true, true, true, false, true, false] rfl rfl rfl rfl (by kernel_rfl) (by decide) (by decide) (fun K hK => ?_) (fun K hK => ?_)
                 ·skip
                  refine goes_ Try.func20 (by kernel_rfl) rfl #[.agg #[.int .i64 t227, .int .i64 t228, .slice Ao184 t229.length co184], .agg #[.int .i64 t232, .int .i64 t233, .slice Ao185 t234.length co185]] (by rfl) rfl rfl (by (try simp only [List.map_toArray, List.map_cons, List.map_nil]); first | done | rfl) ?_
                  with_reducible refine (impl_MatMul.calls kj34 t227 t228 _ _ t229 t232 t233 _ _ t234 t237 t238 t239 t240 _ ?side1 ?side2 ?side3 ?side4 A129.out).mono ?_
                  (case side1 => repeat (first | exact (Kd.R_reads' HO231.out).2.2 | (with_reducible refine Kd.C_alloc ?_ _) | (with_reducible refine Kd.C_drewN ?_ _) | (with_reducible refine Kd.C_drew ?_)))
                  (case side2 => exact (Kd.R_reads' HO231.out).2.1)
                  (case side3 => repeat (first | exact (Kd.R_reads' HO236.out).2.2 | (with_reducible refine Kd.C_alloc ?_ _) | (with_reducible refine Kd.C_drewN ?_ _) | (with_reducible refine Kd.C_drew ?_)))
                  (case side4 => exact (Kd.R_reads' HO236.out).2.1)
                  rintro e w186 ⟨v241, rfl, ho0, hb⟩
                  refine ⟨_, rfl, ?_⟩
                  have n0_ := Aside0.mk (Kd.R_elder' HO_187003.out (Kd.R_base ho0) hb)
                  have n1_ := Aside0.mk (Kd.R_elder' HO_193002.out (Kd.R_base ho0) hb)
                  have n2_ := Aside0.mk (Kd.R_elder' HO_199002.out (Kd.R_base ho0) hb)
                  have n3_ := Aside0.mk (Kd.R_elder' HO_206003.out (Kd.R_base ho0) hb)
                  have n4_ := Aside0.mk (Kd.R_elder' HO231.out (Kd.R_base ho0) hb)
                  have n5_ := Aside0.mk (Kd.R_elder' HO236.out (Kd.R_base ho0) hb)
                  have n6_ := Aside0.mk (Kd.R_lower (Kd.R_new' (Kd.R_new' (Kd.R_new' (Kd.R_new' (Kd.R_new' (Kd.R_new' ho0 (Kd.R_lt HO_187003.out)) (Kd.R_lt HO_193002.out)) (Kd.R_lt HO_199002.out)) (Kd.R_lt HO_206003.out)) (Kd.R_lt HO231.out)) (Kd.R_lt HO236.out)) (below_size HB.out))
                  have n7_ := Aside0.mk (blk_below BK166.out hb)
                  have n8_ := Aside0.mk (blk_below BK167.out hb)
                  have n9_ := Aside0.mk (blk_below BK186.out hb)
                  have n10_ := Aside0.mk (blk_below BK192.out hb)
                  have n11_ := Aside0.mk (blk_below BK198.out hb)
                  have n12_ := Aside0.mk (blk_below BK205.out hb)
                  have n13_ := Aside0.mk (below_step HB.out hb)
                  clear HO_187003
                  clear HO_193002
                  clear HO_199002
                  clear HO_206003
                  clear HO231
                  clear HO236
                  clear BK166
                  clear BK167
                  clear BK186
                  clear BK192
                  clear BK198
                  clear BK205
                  clear HB
                  have HO_187003 := n0_
                  have HO_193002 := n1_
                  have HO_199002 := n2_
                  have HO_206003 := n3_
                  have HO231 := n4_
                  have HO236 := n5_
                  have HO242 := n6_
                  have BK166 := n7_
                  have BK167 := n8_
                  have BK186 := n9_
                  have BK192 := n10_
                  have BK198 := n11_
                  have BK205 := n12_
                  have HB := n13_
                  clear n0_ n1_ n2_ n3_ n4_ n5_ n6_ n7_ n8_ n9_ n10_ n11_ n12_ n13_
                  (try clear hb)
                  (try clear hb2)
                  (try clear hk)
                  (try clear hi)
                  (try clear ho0)
                  refine hK.out _ _ ⟨(blk_cell BK166.out 0).trans rfl, (blk_cell BK166.out 1).trans rfl, (blk_cell BK166.out 2).trans rfl, (blk_cell BK167.out 0).trans rfl, (blk_cell BK167.out 1).trans rfl, (blk_cell BK167.out 2).trans rfl⟩ (fun hHeld => ?_)
                  clear hK K
                  refine norm_ (a' := ?_) ?_ ?_
                  rotate_left
                  ·show Act.put _ (some 79) _ = _
                   simp only [Act.put, List.setIfInBounds_toArray, List.set_cons_zero, List.set_cons_succ, i64_w, i32_w]
                   rfl
                  refine one_ (i := 5) (N := some 13) #[true, true, true, true, true, true, false] rfl rfl (by kernel_rfl) (by decide) (fun K hK => ?_)
                  refine box_step ?hg (N := 13) ?hd (cs := #[.int .i64 0, .int .i64 0, .int .i64 0, .slice none 0 0]) (t := 36) ?hr ?_; (case hd => rfl); (case hg => rfl); (case hr => first | (go_simp; done) | (go_simp; rfl))
                  intro gb243 hg w187 hbox hb
                  have n0_ := Aside0.mk (Kd.R_below HO_187003.out hb)
                  have n1_ := Aside0.mk (Kd.R_below HO_193002.out hb)
                  have n2_ := Aside0.mk (Kd.R_below HO_199002.out hb)
                  have n3_ := Aside0.mk (Kd.R_below HO_206003.out hb)
                  have n4_ := Aside0.mk (Kd.R_below HO231.out hb)
                  have n5_ := Aside0.mk (Kd.R_below HO236.out hb)
                  have n6_ := Aside0.mk (Kd.R_below HO242.out hb)
                  have n7_ := Aside0.mk (blk_below BK166.out hb)
                  have n8_ := Aside0.mk (blk_below BK167.out hb)
                  have n9_ := Aside0.mk (blk_below BK186.out hb)
                  have n10_ := Aside0.mk (blk_below BK192.out hb)
                  have n11_ := Aside0.mk (blk_below BK198.out hb)
                  have n12_ := Aside0.mk (blk_below BK205.out hb)
                  have n13_ := Aside0.mk (below_step HB.out hb)
                  have n14_ := Aside0.mk (hbox)
                  have n15_ := Aside0.mk ((by rw [hg]; exact (below_size HB.out) : w.heap.size ≤ gb243))
                  have n16_ := Aside0.mk ((by rw [hg]; exact (below_size HB.out) : w.heap.size ≤ gb243))
                  have n17_ := Aside0.mk ((by rw [hg]; exact Nat.ne_of_lt (blk_lt BK166.out) : gb166 ≠ gb243))
                  have n18_ := Aside0.mk ((by rw [hg]; exact Nat.ne_of_gt (blk_lt BK166.out) : gb243 ≠ gb166))
                  have n19_ := Aside0.mk ((by rw [hg]; exact Nat.ne_of_lt (blk_lt BK167.out) : gb167 ≠ gb243))
                  have n20_ := Aside0.mk ((by rw [hg]; exact Nat.ne_of_gt (blk_lt BK167.out) : gb243 ≠ gb167))
                  have n21_ := Aside0.mk ((by rw [hg]; exact Nat.ne_of_lt (blk_lt BK186.out) : gb186 ≠ gb243))
                  have n22_ := Aside0.mk ((by rw [hg]; exact Nat.ne_of_gt (blk_lt BK186.out) : gb243 ≠ gb186))
                  have n23_ := Aside0.mk ((by rw [hg]; exact Nat.ne_of_lt (blk_lt BK192.out) : gb192 ≠ gb243))
                  have n24_ := Aside0.mk ((by rw [hg]; exact Nat.ne_of_gt (blk_lt BK192.out) : gb243 ≠ gb192))
                  have n25_ := Aside0.mk ((by rw [hg]; exact Nat.ne_of_lt (blk_lt BK198.out) : gb198 ≠ gb243))
                  have n26_ := Aside0.mk ((by rw [hg]; exact Nat.ne_of_gt (blk_lt BK198.out) : gb243 ≠ gb198))
                  have n27_ := Aside0.mk ((by rw [hg]; exact Nat.ne_of_lt (blk_lt BK205.out) : gb205 ≠ gb243))
                  have n28_ := Aside0.mk ((by rw [hg]; exact Nat.ne_of_gt (blk_lt BK205.out) : gb243 ≠ gb205))
                  clear HO_187003
                  clear HO_193002
                  clear HO_199002
                  clear HO_206003
                  clear HO231
                  clear HO236
                  clear HO242
                  clear BK166
                  clear BK167
                  clear BK186
                  clear BK192
                  clear BK198
                  clear BK205
                  clear HB
                  have HO_187003 := n0_
                  have HO_193002 := n1_
                  have HO_199002 := n2_
                  have HO_206003 := n3_
                  have HO231 := n4_
                  have HO236 := n5_
                  have HO242 := n6_
                  have BK166 := n7_
                  have BK167 := n8_
                  have BK186 := n9_
                  have BK192 := n10_
                  have BK198 := n11_
                  have BK205 := n12_
                  have HB := n13_
                  have BK243 := n14_
                  have GW243 := n15_
                  have GE243 := n16_
                  have NB166_243 := n17_
                  have NB243_166 := n18_
                  have NB167_243 := n19_
                  have NB243_167 := n20_
                  have NB186_243 := n21_
                  have NB243_186 := n22_
                  have NB192_243 := n23_
                  have NB243_192 := n24_
                  have NB198_243 := n25_
                  have NB243_198 := n26_
                  have NB205_243 := n27_
                  have NB243_205 := n28_
                  clear n0_ n1_ n2_ n3_ n4_ n5_ n6_ n7_ n8_ n9_ n10_ n11_ n12_ n13_ n14_ n15_ n16_ n17_ n18_ n19_ n20_ n21_ n22_ n23_ n24_ n25_ n26_ n27_ n28_
                  clear hb hbox hg
                  refine hK.out _ _ ⟨(blk_cell BK166.out 0).trans rfl, (blk_cell BK166.out 1).trans rfl, (blk_cell BK166.out 2).trans rfl, (blk_cell BK167.out 0).trans rfl, (blk_cell BK167.out 1).trans rfl, (blk_cell BK167.out 2).trans rfl⟩ (fun hHeld => ?_)
                  clear hK K
                  refine norm_ (a' := ?_) ?_ ?_
                  rotate_left
                  ·show Act.put _ (some 13) _ = _
                   simp only [Act.put, List.setIfInBounds_toArray, List.set_cons_zero, List.set_cons_succ, i64_w, i32_w]
                   rfl
                  exact norm_ (by simp only [putAll, Act.put, List.setIfInBounds_toArray, List.set_cons_zero, List.set_cons_succ]) (hCont (.slice Ao184 t229.length co184, .slice Ao185 t234.length co185, v241, gb243) _ ⟨hHeld, (by (with_reducible repeat (first | apply Kd.R_alloc | apply Kd.R_drewN | apply Kd.R_drew)); exact Kd.R_mono HO231.out (fun _ hk => ⟨hk.1.2, ⟨hk.2, ⟨hk.1.1.1.1.1.2, ⟨hk.1.1.1.1.2, ⟨hk.1.1.1.2, hk.1.1.2⟩⟩⟩⟩⟩)), (by (with_reducible repeat (first | apply Kd.R_alloc | apply Kd.R_drewN | apply Kd.R_drew)); exact Kd.R_mono HO236.out (fun _ hk => ⟨hk.1.2, ⟨hk.2, ⟨hk.1.1.1.1.1.2, ⟨hk.1.1.1.1.2, ⟨hk.1.1.1.2, hk.1.1.2⟩⟩⟩⟩⟩)), (by (with_reducible repeat (first | apply Kd.R_alloc | apply Kd.R_drewN | apply Kd.R_drew)); exact Kd.R_mono HO242.out (fun _ hk => ⟨hk.1.2, ⟨hk.2, ⟨hk.1.1.1.1.1.2, ⟨hk.1.1.1.1.2, ⟨hk.1.1.1.2, hk.1.1.2⟩⟩⟩⟩⟩)), (by (with_reducible repeat (first | apply Kd.R_alloc | apply Kd.R_drewN | apply Kd.R_drew)); exact Kd.R_mono HO_187003.out (fun _ hk => ⟨hk.1.1.2, ⟨hk.1.2, ⟨hk.2, ⟨hk.1.1.1.1, ⟨hk.1.1.1.2.1, hk.1.1.1.2.2⟩⟩⟩⟩⟩)), (by (with_reducible repeat (first | apply Kd.R_alloc | apply Kd.R_drewN | apply Kd.R_drew)); exact Kd.R_mono HO_193002.out (fun _ hk => ⟨hk.1.1.2, ⟨hk.1.2, ⟨hk.2, ⟨hk.1.1.1.1, ⟨hk.1.1.1.2.1, hk.1.1.1.2.2⟩⟩⟩⟩⟩)), (by (with_reducible repeat (first | apply Kd.R_alloc | apply Kd.R_drewN | apply Kd.R_drew)); exact Kd.R_mono HO_199002.out (fun _ hk => ⟨hk.1.1.2, ⟨hk.1.2, ⟨hk.2, ⟨hk.1.1.1.1, ⟨hk.1.1.1.2.1, hk.1.1.1.2.2⟩⟩⟩⟩⟩)), (by (with_reducible repeat (first | apply Kd.R_alloc | apply Kd.R_drewN | apply Kd.R_drew)); exact Kd.R_mono HO_206003.out (fun _ hk => ⟨hk.1.1.2, ⟨hk.1.2, ⟨hk.2, ⟨hk.1.1.1.1, ⟨hk.1.1.1.2.1, hk.1.1.1.2.2⟩⟩⟩⟩⟩)), BK166.out, BK167.out, BK186.out, BK192.out, BK198.out, BK205.out, BK243.out, GW243.out, GE243.out, NB166_243.out, NB243_166.out, NB167_243.out, NB243_167.out, NB186_243.out, NB243_186.out, NB192_243.out, NB243_192.out, NB198_243.out, NB243_198.out, NB205_243.out, NB243_205.out, HB.out⟩)
                 ·skip
                  refine box_step ?hg (N := 13) ?hd (cs := #[.int .i64 0, .int .i64 0, .int .i64 0, .slice none 0 0]) (t := 36) ?hr ?_; (case hd => rfl); (case hg => rfl); (case hr => first | (go_simp; done) | (go_simp; rfl))
                  intro gb243 hg w184 hbox hb
                  have n0_ := Aside0.mk (Kd.R_below HO_187003.out hb)
                  have n1_ := Aside0.mk (Kd.R_below HO_193002.out hb)
                  have n2_ := Aside0.mk (Kd.R_below HO_199002.out hb)
                  have n3_ := Aside0.mk (Kd.R_below HO_206003.out hb)
                  have n4_ := Aside0.mk (Kd.R_below HO231.out hb)
                  have n5_ := Aside0.mk (Kd.R_below HO236.out hb)
                  have n6_ := Aside0.mk (blk_below BK166.out hb)
                  have n7_ := Aside0.mk (blk_below BK167.out hb)
                  have n8_ := Aside0.mk (blk_below BK186.out hb)
                  have n9_ := Aside0.mk (blk_below BK192.out hb)
                  have n10_ := Aside0.mk (blk_below BK198.out hb)
                  have n11_ := Aside0.mk (blk_below BK205.out hb)
                  have n12_ := Aside0.mk (below_step HB.out hb)
                  have n13_ := Aside0.mk (hbox)
                  have n14_ := Aside0.mk ((by rw [hg]; exact (below_size HB.out) : w.heap.size ≤ gb243))
                  have n15_ := Aside0.mk ((by rw [hg]; exact (below_size HB.out) : w.heap.size ≤ gb243))
                  have n16_ := Aside0.mk ((by rw [hg]; exact Nat.ne_of_lt (blk_lt BK166.out) : gb166 ≠ gb243))
                  have n17_ := Aside0.mk ((by rw [hg]; exact Nat.ne_of_gt (blk_lt BK166.out) : gb243 ≠ gb166))
                  have n18_ := Aside0.mk ((by rw [hg]; exact Nat.ne_of_lt (blk_lt BK167.out) : gb167 ≠ gb243))
                  have n19_ := Aside0.mk ((by rw [hg]; exact Nat.ne_of_gt (blk_lt BK167.out) : gb243 ≠ gb167))
                  have n20_ := Aside0.mk ((by rw [hg]; exact Nat.ne_of_lt (blk_lt BK186.out) : gb186 ≠ gb243))
                  have n21_ := Aside0.mk ((by rw [hg]; exact Nat.ne_of_gt (blk_lt BK186.out) : gb243 ≠ gb186))
                  have n22_ := Aside0.mk ((by rw [hg]; exact Nat.ne_of_lt (blk_lt BK192.out) : gb192 ≠ gb243))
                  have n23_ := Aside0.mk ((by rw [hg]; exact Nat.ne_of_gt (blk_lt BK192.out) : gb243 ≠ gb192))
                  have n24_ := Aside0.mk ((by rw [hg]; exact Nat.ne_of_lt (blk_lt BK198.out) : gb198 ≠ gb243))
                  have n25_ := Aside0.mk ((by rw [hg]; exact Nat.ne_of_gt (blk_lt BK198.out) : gb243 ≠ gb198))
                  have n26_ := Aside0.mk ((by rw [hg]; exact Nat.ne_of_lt (blk_lt BK205.out) : gb205 ≠ gb243))
                  have n27_ := Aside0.mk ((by rw [hg]; exact Nat.ne_of_gt (blk_lt BK205.out) : gb243 ≠ gb205))
                  clear HO_187003
                  clear HO_193002
                  clear HO_199002
                  clear HO_206003
                  clear HO231
                  clear HO236
                  clear BK166
                  clear BK167
                  clear BK186
                  clear BK192
                  clear BK198
                  clear BK205
                  clear HB
                  have HO_187003 := n0_
                  have HO_193002 := n1_
                  have HO_199002 := n2_
                  have HO_206003 := n3_
                  have HO231 := n4_
                  have HO236 := n5_
                  have BK166 := n6_
                  have BK167 := n7_
                  have BK186 := n8_
                  have BK192 := n9_
                  have BK198 := n10_
                  have BK205 := n11_
                  have HB := n12_
                  have BK243 := n13_
                  have GW243 := n14_
                  have GE243 := n15_
                  have NB166_243 := n16_
                  have NB243_166 := n17_
                  have NB167_243 := n18_
                  have NB243_167 := n19_
                  have NB186_243 := n20_
                  have NB243_186 := n21_
                  have NB192_243 := n22_
                  have NB243_192 := n23_
                  have NB198_243 := n24_
                  have NB243_198 := n25_
                  have NB205_243 := n26_
                  have NB243_205 := n27_
                  clear n0_ n1_ n2_ n3_ n4_ n5_ n6_ n7_ n8_ n9_ n10_ n11_ n12_ n13_ n14_ n15_ n16_ n17_ n18_ n19_ n20_ n21_ n22_ n23_ n24_ n25_ n26_ n27_
                  clear hb hbox hg
                  obtain ⟨Ao185, co185, eo185⟩ := Kd.R_slice HO231.out
                  (first | subst eo185 | (injection eo185 with f1_ f2_ f3_; have f4_ := f1_.symm; have f5_ := f3_.symm; clear f1_ f2_ f3_; subst f4_; subst f5_))
                  obtain ⟨Ao186, co186, eo186⟩ := Kd.R_slice HO236.out
                  (first | subst eo186 | (injection eo186 with f1_ f2_ f3_; have f4_ := f1_.symm; have f5_ := f3_.symm; clear f1_ f2_ f3_; subst f4_; subst f5_))
                  refine hK.out _ _ ⟨(blk_cell BK166.out 0).trans rfl, (blk_cell BK166.out 1).trans rfl, (blk_cell BK166.out 2).trans rfl, (blk_cell BK167.out 0).trans rfl, (blk_cell BK167.out 1).trans rfl, (blk_cell BK167.out 2).trans rfl⟩ (fun hHeld => ?_)
                  clear hK K
                  refine norm_ (a' := ?_) ?_ ?_
                  rotate_left
                  ·show Act.put _ (some 13) _ = _
                   simp only [Act.put, List.setIfInBounds_toArray, List.set_cons_zero, List.set_cons_succ, i64_w, i32_w]
                   rfl
                  refine one_ (i := 4) (N := some 79) #[true, true, true, true, true, true, false] rfl rfl (by kernel_rfl) (by decide) (fun K hK => ?_)
                  refine goes_ Try.func20 (by kernel_rfl) rfl #[.agg #[.int .i64 t227, .int .i64 t228, .slice Ao185 t229.length co185], .agg #[.int .i64 t232, .int .i64 t233, .slice Ao186 t234.length co186]] (by rfl) rfl rfl (by (try simp only [List.map_toArray, List.map_cons, List.map_nil]); first | done | rfl) ?_
                  with_reducible refine (impl_MatMul.calls kj34 t227 t228 _ _ t229 t232 t233 _ _ t234 t237 t238 t239 t240 _ ?side1 ?side2 ?side3 ?side4 A129.out).mono ?_
                  (case side1 => repeat (first | exact (Kd.R_reads' HO231.out).2.2 | (with_reducible refine Kd.C_alloc ?_ _) | (with_reducible refine Kd.C_drewN ?_ _) | (with_reducible refine Kd.C_drew ?_)))
                  (case side2 => exact (Kd.R_reads' HO231.out).2.1)
                  (case side3 => repeat (first | exact (Kd.R_reads' HO236.out).2.2 | (with_reducible refine Kd.C_alloc ?_ _) | (with_reducible refine Kd.C_drewN ?_ _) | (with_reducible refine Kd.C_drew ?_)))
                  (case side4 => exact (Kd.R_reads' HO236.out).2.1)
                  rintro e w187 ⟨v241, rfl, ho0, hb⟩
                  refine ⟨_, rfl, ?_⟩
                  have n0_ := Aside0.mk (Kd.R_elder' HO_187003.out (Kd.R_base ho0) hb)
                  have n1_ := Aside0.mk (Kd.R_elder' HO_193002.out (Kd.R_base ho0) hb)
                  have n2_ := Aside0.mk (Kd.R_elder' HO_199002.out (Kd.R_base ho0) hb)
                  have n3_ := Aside0.mk (Kd.R_elder' HO_206003.out (Kd.R_base ho0) hb)
                  have n4_ := Aside0.mk (Kd.R_elder' HO231.out (Kd.R_base ho0) hb)
                  have n5_ := Aside0.mk (Kd.R_elder' HO236.out (Kd.R_base ho0) hb)
                  have n6_ := Aside0.mk (Kd.R_lower (Kd.R_new' (Kd.R_new' (Kd.R_new' (Kd.R_new' (Kd.R_new' (Kd.R_new' ho0 (Kd.R_lt HO_187003.out)) (Kd.R_lt HO_193002.out)) (Kd.R_lt HO_199002.out)) (Kd.R_lt HO_206003.out)) (Kd.R_lt HO231.out)) (Kd.R_lt HO236.out)) (below_size HB.out))
                  have n7_ := Aside0.mk (blk_below BK166.out hb)
                  have n8_ := Aside0.mk (blk_below BK167.out hb)
                  have n9_ := Aside0.mk (blk_below BK186.out hb)
                  have n10_ := Aside0.mk (blk_below BK192.out hb)
                  have n11_ := Aside0.mk (blk_below BK198.out hb)
                  have n12_ := Aside0.mk (blk_below BK205.out hb)
                  have n13_ := Aside0.mk (blk_below BK243.out hb)
                  have n14_ := Aside0.mk (below_step HB.out hb)
                  clear HO_187003
                  clear HO_193002
                  clear HO_199002
                  clear HO_206003
                  clear HO231
                  clear HO236
                  clear BK166
                  clear BK167
                  clear BK186
                  clear BK192
                  clear BK198
                  clear BK205
                  clear BK243
                  clear HB
                  have HO_187003 := n0_
                  have HO_193002 := n1_
                  have HO_199002 := n2_
                  have HO_206003 := n3_
                  have HO231 := n4_
                  have HO236 := n5_
                  have HO242 := n6_
                  have BK166 := n7_
                  have BK167 := n8_
                  have BK186 := n9_
                  have BK192 := n10_
                  have BK198 := n11_
                  have BK205 := n12_
                  have BK243 := n13_
                  have HB := n14_
                  clear n0_ n1_ n2_ n3_ n4_ n5_ n6_ n7_ n8_ n9_ n10_ n11_ n12_ n13_ n14_
                  (try clear hb)
                  (try clear hb2)
                  (try clear hk)
                  (try clear hi)
                  (try clear ho0)
                  refine hK.out _ _ ⟨(blk_cell BK166.out 0).trans rfl, (blk_cell BK166.out 1).trans rfl, (blk_cell BK166.out 2).trans rfl, (blk_cell BK167.out 0).trans rfl, (blk_cell BK167.out 1).trans rfl, (blk_cell BK167.out 2).trans rfl⟩ (fun hHeld => ?_)
                  clear hK K
                  refine norm_ (a' := ?_) ?_ ?_
                  rotate_left
                  ·show Act.put _ (some 79) _ = _
                   simp only [Act.put, List.setIfInBounds_toArray, List.set_cons_zero, List.set_cons_succ, i64_w, i32_w]
                   rfl
                  exact norm_ (by simp only [putAll, Act.put, List.setIfInBounds_toArray, List.set_cons_zero, List.set_cons_succ]) (hCont (.slice Ao185 t229.length co185, .slice Ao186 t234.length co186, v241, gb243) _ ⟨hHeld, (by (with_reducible repeat (first | apply Kd.R_alloc | apply Kd.R_drewN | apply Kd.R_drew)); exact Kd.R_mono HO231.out (fun _ hk => ⟨hk.1.2, ⟨hk.2, ⟨hk.1.1.1.1.1.2, ⟨hk.1.1.1.1.2, ⟨hk.1.1.1.2, hk.1.1.2⟩⟩⟩⟩⟩)), (by (with_reducible repeat (first | apply Kd.R_alloc | apply Kd.R_drewN | apply Kd.R_drew)); exact Kd.R_mono HO236.out (fun _ hk => ⟨hk.1.2, ⟨hk.2, ⟨hk.1.1.1.1.1.2, ⟨hk.1.1.1.1.2, ⟨hk.1.1.1.2, hk.1.1.2⟩⟩⟩⟩⟩)), (by (with_reducible repeat (first | apply Kd.R_alloc | apply Kd.R_drewN | apply Kd.R_drew)); exact Kd.R_mono HO242.out (fun _ hk => ⟨hk.1.2, ⟨hk.2, ⟨hk.1.1.1.1.1.2, ⟨hk.1.1.1.1.2, ⟨hk.1.1.1.2, hk.1.1.2⟩⟩⟩⟩⟩)), (by (with_reducible repeat (first | apply Kd.R_alloc | apply Kd.R_drewN | apply Kd.R_drew)); exact Kd.R_mono HO_187003.out (fun _ hk => ⟨hk.1.1.2, ⟨hk.1.2, ⟨hk.2, ⟨hk.1.1.1.1, ⟨hk.1.1.1.2.1, hk.1.1.1.2.2⟩⟩⟩⟩⟩)), (by (with_reducible repeat (first | apply Kd.R_alloc | apply Kd.R_drewN | apply Kd.R_drew)); exact Kd.R_mono HO_193002.out (fun _ hk => ⟨hk.1.1.2, ⟨hk.1.2, ⟨hk.2, ⟨hk.1.1.1.1, ⟨hk.1.1.1.2.1, hk.1.1.1.2.2⟩⟩⟩⟩⟩)), (by (with_reducible repeat (first | apply Kd.R_alloc | apply Kd.R_drewN | apply Kd.R_drew)); exact Kd.R_mono HO_199002.out (fun _ hk => ⟨hk.1.1.2, ⟨hk.1.2, ⟨hk.2, ⟨hk.1.1.1.1, ⟨hk.1.1.1.2.1, hk.1.1.1.2.2⟩⟩⟩⟩⟩)), (by (with_reducible repeat (first | apply Kd.R_alloc | apply Kd.R_drewN | apply Kd.R_drew)); exact Kd.R_mono HO_206003.out (fun _ hk => ⟨hk.1.1.2, ⟨hk.1.2, ⟨hk.2, ⟨hk.1.1.1.1, ⟨hk.1.1.1.2.1, hk.1.1.1.2.2⟩⟩⟩⟩⟩)), BK166.out, BK167.out, BK186.out, BK192.out, BK198.out, BK205.out, BK243.out, GW243.out, GE243.out, NB166_243.out, NB243_166.out, NB167_243.out, NB243_167.out, NB186_243.out, NB243_186.out, NB192_243.out, NB243_192.out, NB198_243.out, NB243_198.out, NB205_243.out, NB243_205.out, HB.out⟩)
                ·skip
                 refine box_step ?hg (N := 13) ?hd (cs := #[.int .i64 0, .int .i64 0, .int .i64 0, .slice none 0 0]) (t := 36) ?hr ?_; (case hd => rfl); (case hg => rfl); (case hr => first | (go_simp; done) | (go_simp; rfl))
                 intro gb243 hg w183 hbox hb
                 have n0_ := Aside0.mk (Kd.R_below HO_187003.out hb)
                 have n1_ := Aside0.mk (Kd.R_below HO_193002.out hb)
                 have n2_ := Aside0.mk (Kd.R_below HO_199002.out hb)
                 have n3_ := Aside0.mk (Kd.R_below HO_206003.out hb)
                 have n4_ := Aside0.mk (Kd.R_below HO231.out hb)
                 have n5_ := Aside0.mk (blk_below BK166.out hb)
                 have n6_ := Aside0.mk (blk_below BK167.out hb)
                 have n7_ := Aside0.mk (blk_below BK186.out hb)
                 have n8_ := Aside0.mk (blk_below BK192.out hb)
                 have n9_ := Aside0.mk (blk_below BK198.out hb)
                 have n10_ := Aside0.mk (blk_below BK205.out hb)
                 have n11_ := Aside0.mk (below_step HB.out hb)
                 have n12_ := Aside0.mk (hbox)
                 have n13_ := Aside0.mk ((by rw [hg]; exact (below_size HB.out) : w.heap.size ≤ gb243))
                 have n14_ := Aside0.mk ((by rw [hg]; exact (below_size HB.out) : w.heap.size ≤ gb243))
                 have n15_ := Aside0.mk ((by rw [hg]; exact Nat.ne_of_lt (blk_lt BK166.out) : gb166 ≠ gb243))
                 have n16_ := Aside0.mk ((by rw [hg]; exact Nat.ne_of_gt (blk_lt BK166.out) : gb243 ≠ gb166))
                 have n17_ := Aside0.mk ((by rw [hg]; exact Nat.ne_of_lt (blk_lt BK167.out) : gb167 ≠ gb243))
                 have n18_ := Aside0.mk ((by rw [hg]; exact Nat.ne_of_gt (blk_lt BK167.out) : gb243 ≠ gb167))
                 have n19_ := Aside0.mk ((by rw [hg]; exact Nat.ne_of_lt (blk_lt BK186.out) : gb186 ≠ gb243))
                 have n20_ := Aside0.mk ((by rw [hg]; exact Nat.ne_of_gt (blk_lt BK186.out) : gb243 ≠ gb186))
                 have n21_ := Aside0.mk ((by rw [hg]; exact Nat.ne_of_lt (blk_lt BK192.out) : gb192 ≠ gb243))
                 have n22_ := Aside0.mk ((by rw [hg]; exact Nat.ne_of_gt (blk_lt BK192.out) : gb243 ≠ gb192))
                 have n23_ := Aside0.mk ((by rw [hg]; exact Nat.ne_of_lt (blk_lt BK198.out) : gb198 ≠ gb243))
                 have n24_ := Aside0.mk ((by rw [hg]; exact Nat.ne_of_gt (blk_lt BK198.out) : gb243 ≠ gb198))
                 have n25_ := Aside0.mk ((by rw [hg]; exact Nat.ne_of_lt (blk_lt BK205.out) : gb205 ≠ gb243))
                 have n26_ := Aside0.mk ((by rw [hg]; exact Nat.ne_of_gt (blk_lt BK205.out) : gb243 ≠ gb205))
                 clear HO_187003
                 clear HO_193002
                 clear HO_199002
                 clear HO_206003
                 clear HO231
                 clear BK166
                 clear BK167
                 clear BK186
                 clear BK192
                 clear BK198
                 clear BK205
                 clear HB
                 have HO_187003 := n0_
                 have HO_193002 := n1_
                 have HO_199002 := n2_
                 have HO_206003 := n3_
                 have HO231 := n4_
                 have BK166 := n5_
                 have BK167 := n6_
                 have BK186 := n7_
                 have BK192 := n8_
                 have BK198 := n9_
                 have BK205 := n10_
                 have HB := n11_
                 have BK243 := n12_
                 have GW243 := n13_
                 have GE243 := n14_
                 have NB166_243 := n15_
                 have NB243_166 := n16_
                 have NB167_243 := n17_
                 have NB243_167 := n18_
                 have NB186_243 := n19_
                 have NB243_186 := n20_
                 have NB192_243 := n21_
                 have NB243_192 := n22_
                 have NB198_243 := n23_
                 have NB243_198 := n24_
                 have NB205_243 := n25_
                 have NB243_205 := n26_
                 clear n0_ n1_ n2_ n3_ n4_ n5_ n6_ n7_ n8_ n9_ n10_ n11_ n12_ n13_ n14_ n15_ n16_ n17_ n18_ n19_ n20_ n21_ n22_ n23_ n24_ n25_ n26_
                 clear hb hbox hg
                 refine hK.out _ _ ⟨(blk_cell BK166.out 0).trans rfl, (blk_cell BK166.out 1).trans rfl, (blk_cell BK166.out 2).trans rfl, (blk_cell BK167.out 0).trans rfl, (blk_cell BK167.out 1).trans rfl, (blk_cell BK167.out 2).trans rfl⟩ (fun hHeld => ?_)
                 clear hK K
                 refine norm_ (a' := ?_) ?_ ?_
                 rotate_left
                 ·show Act.put _ (some 13) _ = _
                  simp only [Act.put, List.setIfInBounds_toArray, List.set_cons_zero, List.set_cons_succ, i64_w, i32_w]
                  rfl
                 refine one_ (i := 3) (N := some 78) #[true, true, true, true, false, true, false] rfl rfl (by kernel_rfl) (by decide) (fun K hK => ?_)
                 refine goes_ Try.func19 (by kernel_rfl) rfl #[.agg #[.int .i64 a1_0, .int .i64 a1_1, .slice A1_2 l1_2.length c1_2]] (by rfl) rfl rfl (by (try simp only [List.map_toArray, List.map_cons, List.map_nil]); first | done | rfl) ?_
                 with_reducible refine (laws_toMatrix.calls kj34 a1_0 a1_1 _ _ l1_2 t232 t233 t234 _ ?side1 ?side2 A128.out).mono ?_
                 (case side1 => repeat (first | exact (Kd.C_below HR1_2.out HB.out) | (with_reducible refine Kd.C_alloc ?_ _) | (with_reducible refine Kd.C_drewN ?_ _) | (with_reducible refine Kd.C_drew ?_)))
                 (case side2 => exact HC1_2.out)
                 rintro e w184 ⟨v235, rfl, ho0, hb⟩
                 refine ⟨_, rfl, ?_⟩
                 have n0_ := Aside0.mk (Kd.R_elder' HO_187003.out (Kd.R_base ho0) hb)
                 have n1_ := Aside0.mk (Kd.R_elder' HO_193002.out (Kd.R_base ho0) hb)
                 have n2_ := Aside0.mk (Kd.R_elder' HO_199002.out (Kd.R_base ho0) hb)
                 have n3_ := Aside0.mk (Kd.R_elder' HO_206003.out (Kd.R_base ho0) hb)
                 have n4_ := Aside0.mk (Kd.R_elder' HO231.out (Kd.R_base ho0) hb)
                 have n5_ := Aside0.mk (Kd.R_lower (Kd.R_new' (Kd.R_new' (Kd.R_new' (Kd.R_new' (Kd.R_new' ho0 (Kd.R_lt HO_187003.out)) (Kd.R_lt HO_193002.out)) (Kd.R_lt HO_199002.out)) (Kd.R_lt HO_206003.out)) (Kd.R_lt HO231.out)) (below_size HB.out))
                 have n6_ := Aside0.mk (blk_below BK166.out hb)
                 have n7_ := Aside0.mk (blk_below BK167.out hb)
                 have n8_ := Aside0.mk (blk_below BK186.out hb)
                 have n9_ := Aside0.mk (blk_below BK192.out hb)
                 have n10_ := Aside0.mk (blk_below BK198.out hb)
                 have n11_ := Aside0.mk (blk_below BK205.out hb)
                 have n12_ := Aside0.mk (blk_below BK243.out hb)
                 have n13_ := Aside0.mk (below_step HB.out hb)
                 clear HO_187003
                 clear HO_193002
                 clear HO_199002
                 clear HO_206003
                 clear HO231
                 clear BK166
                 clear BK167
                 clear BK186
                 clear BK192
                 clear BK198
                 clear BK205
                 clear BK243
                 clear HB
                 have HO_187003 := n0_
                 have HO_193002 := n1_
                 have HO_199002 := n2_
                 have HO_206003 := n3_
                 have HO231 := n4_
                 have HO236 := n5_
                 have BK166 := n6_
                 have BK167 := n7_
                 have BK186 := n8_
                 have BK192 := n9_
                 have BK198 := n10_
                 have BK205 := n11_
                 have BK243 := n12_
                 have HB := n13_
                 clear n0_ n1_ n2_ n3_ n4_ n5_ n6_ n7_ n8_ n9_ n10_ n11_ n12_ n13_
                 (try clear hb)
                 (try clear hb2)
                 (try clear hk)
                 (try clear hi)
                 (try clear ho0)
                 obtain ⟨Ao185, co185, eo185⟩ := Kd.R_slice HO231.out
                 (first | subst eo185 | (injection eo185 with f1_ f2_ f3_; have f4_ := f1_.symm; have f5_ := f3_.symm; clear f1_ f2_ f3_; subst f4_; subst f5_))
                 obtain ⟨Ao186, co186, eo186⟩ := Kd.R_slice HO236.out
                 (first | subst eo186 | (injection eo186 with f1_ f2_ f3_; have f4_ := f1_.symm; have f5_ := f3_.symm; clear f1_ f2_ f3_; subst f4_; subst f5_))
                 refine hK.out _ _ ⟨(blk_cell BK166.out 0).trans rfl, (blk_cell BK166.out 1).trans rfl, (blk_cell BK166.out 2).trans rfl, (blk_cell BK167.out 0).trans rfl, (blk_cell BK167.out 1).trans rfl, (blk_cell BK167.out 2).trans rfl⟩ (fun hHeld => ?_)
                 clear hK K
                 refine norm_ (a' := ?_) ?_ ?_
                 rotate_left
                 ·show Act.put _ (some 78) _ = _
                  simp only [Act.put, List.setIfInBounds_toArray, List.set_cons_zero, List.set_cons_succ, i64_w, i32_w]
                  rfl
                 refine one_ (i := 4) (N := some 79) #[true, true, true, true, true, true, false] rfl rfl (by kernel_rfl) (by decide) (fun K hK => ?_)
                 refine goes_ Try.func20 (by kernel_rfl) rfl #[.agg #[.int .i64 t227, .int .i64 t228, .slice Ao185 t229.length co185], .agg #[.int .i64 t232, .int .i64 t233, .slice Ao186 t234.length co186]] (by rfl) rfl rfl (by (try simp only [List.map_toArray, List.map_cons, List.map_nil]); first | done | rfl) ?_
                 with_reducible refine (impl_MatMul.calls kj34 t227 t228 _ _ t229 t232 t233 _ _ t234 t237 t238 t239 t240 _ ?side1 ?side2 ?side3 ?side4 A129.out).mono ?_
                 (case side1 => repeat (first | exact (Kd.R_reads' HO231.out).2.2 | (with_reducible refine Kd.C_alloc ?_ _) | (with_reducible refine Kd.C_drewN ?_ _) | (with_reducible refine Kd.C_drew ?_)))
                 (case side2 => exact (Kd.R_reads' HO231.out).2.1)
                 (case side3 => repeat (first | exact (Kd.R_reads' HO236.out).2.2 | (with_reducible refine Kd.C_alloc ?_ _) | (with_reducible refine Kd.C_drewN ?_ _) | (with_reducible refine Kd.C_drew ?_)))
                 (case side4 => exact (Kd.R_reads' HO236.out).2.1)
                 rintro e w187 ⟨v241, rfl, ho0, hb⟩
                 refine ⟨_, rfl, ?_⟩
                 have n0_ := Aside0.mk (Kd.R_elder' HO_187003.out (Kd.R_base ho0) hb)
                 have n1_ := Aside0.mk (Kd.R_elder' HO_193002.out (Kd.R_base ho0) hb)
                 have n2_ := Aside0.mk (Kd.R_elder' HO_199002.out (Kd.R_base ho0) hb)
                 have n3_ := Aside0.mk (Kd.R_elder' HO_206003.out (Kd.R_base ho0) hb)
                 have n4_ := Aside0.mk (Kd.R_elder' HO231.out (Kd.R_base ho0) hb)
                 have n5_ := Aside0.mk (Kd.R_elder' HO236.out (Kd.R_base ho0) hb)
                 have n6_ := Aside0.mk (Kd.R_lower (Kd.R_new' (Kd.R_new' (Kd.R_new' (Kd.R_new' (Kd.R_new' (Kd.R_new' ho0 (Kd.R_lt HO_187003.out)) (Kd.R_lt HO_193002.out)) (Kd.R_lt HO_199002.out)) (Kd.R_lt HO_206003.out)) (Kd.R_lt HO231.out)) (Kd.R_lt HO236.out)) (below_size HB.out))
                 have n7_ := Aside0.mk (blk_below BK166.out hb)
                 have n8_ := Aside0.mk (blk_below BK167.out hb)
                 have n9_ := Aside0.mk (blk_below BK186.out hb)
                 have n10_ := Aside0.mk (blk_below BK192.out hb)
                 have n11_ := Aside0.mk (blk_below BK198.out hb)
                 have n12_ := Aside0.mk (blk_below BK205.out hb)
                 have n13_ := Aside0.mk (blk_below BK243.out hb)
                 have n14_ := Aside0.mk (below_step HB.out hb)
                 clear HO_187003
                 clear HO_193002
                 clear HO_199002
                 clear HO_206003
                 clear HO231
                 clear HO236
                 clear BK166
                 clear BK167
                 clear BK186
                 clear BK192
                 clear BK198
                 clear BK205
                 clear BK243
                 clear HB
                 have HO_187003 := n0_
                 have HO_193002 := n1_
                 have HO_199002 := n2_
                 have HO_206003 := n3_
                 have HO231 := n4_
                 have HO236 := n5_
                 have HO242 := n6_
                 have BK166 := n7_
                 have BK167 := n8_
                 have BK186 := n9_
                 have BK192 := n10_
                 have BK198 := n11_
                 have BK205 := n12_
                 have BK243 := n13_
                 have HB := n14_
                 clear n0_ n1_ n2_ n3_ n4_ n5_ n6_ n7_ n8_ n9_ n10_ n11_ n12_ n13_ n14_
                 (try clear hb)
                 (try clear hb2)
                 (try clear hk)
                 (try clear hi)
                 (try clear ho0)
                 refine hK.out _ _ ⟨(blk_cell BK166.out 0).trans rfl, (blk_cell BK166.out 1).trans rfl, (blk_cell BK166.out 2).trans rfl, (blk_cell BK167.out 0).trans rfl, (blk_cell BK167.out 1).trans rfl, (blk_cell BK167.out 2).trans rfl⟩ (fun hHeld => ?_)
                 clear hK K
                 refine norm_ (a' := ?_) ?_ ?_
                 rotate_left
                 ·show Act.put _ (some 79) _ = _
                  simp only [Act.put, List.setIfInBounds_toArray, List.set_cons_zero, List.set_cons_succ, i64_w, i32_w]
                  rfl
                 exact norm_ (by simp only [putAll, Act.put, List.setIfInBounds_toArray, List.set_cons_zero, List.set_cons_succ]) (hCont (.slice Ao185 t229.length co185, .slice Ao186 t234.length co186, v241, gb243) _ ⟨hHeld, (by (with_reducible repeat (first | apply Kd.R_alloc | apply Kd.R_drewN | apply Kd.R_drew)); exact Kd.R_mono HO231.out (fun _ hk => ⟨hk.1.2, ⟨hk.2, ⟨hk.1.1.1.1.1.2, ⟨hk.1.1.1.1.2, ⟨hk.1.1.1.2, hk.1.1.2⟩⟩⟩⟩⟩)), (by (with_reducible repeat (first | apply Kd.R_alloc | apply Kd.R_drewN | apply Kd.R_drew)); exact Kd.R_mono HO236.out (fun _ hk => ⟨hk.1.2, ⟨hk.2, ⟨hk.1.1.1.1.1.2, ⟨hk.1.1.1.1.2, ⟨hk.1.1.1.2, hk.1.1.2⟩⟩⟩⟩⟩)), (by (with_reducible repeat (first | apply Kd.R_alloc | apply Kd.R_drewN | apply Kd.R_drew)); exact Kd.R_mono HO242.out (fun _ hk => ⟨hk.1.2, ⟨hk.2, ⟨hk.1.1.1.1.1.2, ⟨hk.1.1.1.1.2, ⟨hk.1.1.1.2, hk.1.1.2⟩⟩⟩⟩⟩)), (by (with_reducible repeat (first | apply Kd.R_alloc | apply Kd.R_drewN | apply Kd.R_drew)); exact Kd.R_mono HO_187003.out (fun _ hk => ⟨hk.1.1.2, ⟨hk.1.2, ⟨hk.2, ⟨hk.1.1.1.1, ⟨hk.1.1.1.2.1, hk.1.1.1.2.2⟩⟩⟩⟩⟩)), (by (with_reducible repeat (first | apply Kd.R_alloc | apply Kd.R_drewN | apply Kd.R_drew)); exact Kd.R_mono HO_193002.out (fun _ hk => ⟨hk.1.1.2, ⟨hk.1.2, ⟨hk.2, ⟨hk.1.1.1.1, ⟨hk.1.1.1.2.1, hk.1.1.1.2.2⟩⟩⟩⟩⟩)), (by (with_reducible repeat (first | apply Kd.R_alloc | apply Kd.R_drewN | apply Kd.R_drew)); exact Kd.R_mono HO_199002.out (fun _ hk => ⟨hk.1.1.2, ⟨hk.1.2, ⟨hk.2, ⟨hk.1.1.1.1, ⟨hk.1.1.1.2.1, hk.1.1.1.2.2⟩⟩⟩⟩⟩)), (by (with_reducible repeat (first | apply Kd.R_alloc | apply Kd.R_drewN | apply Kd.R_drew)); exact Kd.R_mono HO_206003.out (fun _ hk => ⟨hk.1.1.2, ⟨hk.1.2, ⟨hk.2, ⟨hk.1.1.1.1, ⟨hk.1.1.1.2.1, hk.1.1.1.2.2⟩⟩⟩⟩⟩)), BK166.out, BK167.out, BK186.out, BK192.out, BK198.out, BK205.out, BK243.out, GW243.out, GE243.out, NB166_243.out, NB243_166.out, NB167_243.out, NB243_167.out, NB186_243.out, NB243_186.out, NB192_243.out, NB243_192.out, NB198_243.out, NB243_198.out, NB205_243.out, NB243_205.out, HB.out⟩)
               ·skip
                refine box_step ?hg (N := 13) ?hd (cs := #[.int .i64 0, .int .i64 0, .int .i64 0, .slice none 0 0]) (t := 36) ?hr ?_; (case hd => rfl); (case hg => rfl); (case hr => first | (go_simp; done) | (go_simp; rfl))
                intro gb243 hg w182 hbox hb
                have n0_ := Aside0.mk (Kd.R_below HO_187003.out hb)
                have n1_ := Aside0.mk (Kd.R_below HO_193002.out hb)
                have n2_ := Aside0.mk (Kd.R_below HO_199002.out hb)
                have n3_ := Aside0.mk (Kd.R_below HO_206003.out hb)
                have n4_ := Aside0.mk (blk_below BK166.out hb)
                have n5_ := Aside0.mk (blk_below BK167.out hb)
                have n6_ := Aside0.mk (blk_below BK186.out hb)
                have n7_ := Aside0.mk (blk_below BK192.out hb)
                have n8_ := Aside0.mk (blk_below BK198.out hb)
                have n9_ := Aside0.mk (blk_below BK205.out hb)
                have n10_ := Aside0.mk (below_step HB.out hb)
                have n11_ := Aside0.mk (hbox)
                have n12_ := Aside0.mk ((by rw [hg]; exact (below_size HB.out) : w.heap.size ≤ gb243))
                have n13_ := Aside0.mk ((by rw [hg]; exact (below_size HB.out) : w.heap.size ≤ gb243))
                have n14_ := Aside0.mk ((by rw [hg]; exact Nat.ne_of_lt (blk_lt BK166.out) : gb166 ≠ gb243))
                have n15_ := Aside0.mk ((by rw [hg]; exact Nat.ne_of_gt (blk_lt BK166.out) : gb243 ≠ gb166))
                have n16_ := Aside0.mk ((by rw [hg]; exact Nat.ne_of_lt (blk_lt BK167.out) : gb167 ≠ gb243))
                have n17_ := Aside0.mk ((by rw [hg]; exact Nat.ne_of_gt (blk_lt BK167.out) : gb243 ≠ gb167))
                have n18_ := Aside0.mk ((by rw [hg]; exact Nat.ne_of_lt (blk_lt BK186.out) : gb186 ≠ gb243))
                have n19_ := Aside0.mk ((by rw [hg]; exact Nat.ne_of_gt (blk_lt BK186.out) : gb243 ≠ gb186))
                have n20_ := Aside0.mk ((by rw [hg]; exact Nat.ne_of_lt (blk_lt BK192.out) : gb192 ≠ gb243))
                have n21_ := Aside0.mk ((by rw [hg]; exact Nat.ne_of_gt (blk_lt BK192.out) : gb243 ≠ gb192))
                have n22_ := Aside0.mk ((by rw [hg]; exact Nat.ne_of_lt (blk_lt BK198.out) : gb198 ≠ gb243))
                have n23_ := Aside0.mk ((by rw [hg]; exact Nat.ne_of_gt (blk_lt BK198.out) : gb243 ≠ gb198))
                have n24_ := Aside0.mk ((by rw [hg]; exact Nat.ne_of_lt (blk_lt BK205.out) : gb205 ≠ gb243))
                have n25_ := Aside0.mk ((by rw [hg]; exact Nat.ne_of_gt (blk_lt BK205.out) : gb243 ≠ gb205))
                clear HO_187003
                clear HO_193002
                clear HO_199002
                clear HO_206003
                clear BK166
                clear BK167
                clear BK186
                clear BK192
                clear BK198
                clear BK205
                clear HB
                have HO_187003 := n0_
                have HO_193002 := n1_
                have HO_199002 := n2_
                have HO_206003 := n3_
                have BK166 := n4_
                have BK167 := n5_
                have BK186 := n6_
                have BK192 := n7_
                have BK198 := n8_
                have BK205 := n9_
                have HB := n10_
                have BK243 := n11_
                have GW243 := n12_
                have GE243 := n13_
                have NB166_243 := n14_
                have NB243_166 := n15_
                have NB167_243 := n16_
                have NB243_167 := n17_
                have NB186_243 := n18_
                have NB243_186 := n19_
                have NB192_243 := n20_
                have NB243_192 := n21_
                have NB198_243 := n22_
                have NB243_198 := n23_
                have NB205_243 := n24_
                have NB243_205 := n25_
                clear n0_ n1_ n2_ n3_ n4_ n5_ n6_ n7_ n8_ n9_ n10_ n11_ n12_ n13_ n14_ n15_ n16_ n17_ n18_ n19_ n20_ n21_ n22_ n23_ n24_ n25_
                clear hb hbox hg
                refine hK.out _ _ ⟨(blk_cell BK166.out 0).trans rfl, (blk_cell BK166.out 1).trans rfl, (blk_cell BK166.out 2).trans rfl, (blk_cell BK167.out 0).trans rfl, (blk_cell BK167.out 1).trans rfl, (blk_cell BK167.out 2).trans rfl⟩ (fun hHeld => ?_)
                clear hK K
                refine norm_ (a' := ?_) ?_ ?_
                rotate_left
                ·show Act.put _ (some 13) _ = _
                 simp only [Act.put, List.setIfInBounds_toArray, List.set_cons_zero, List.set_cons_succ, i64_w, i32_w]
                 rfl
                refine one_ (i := 1) (N := some 76) #[true, true, true, false, false, true, false] rfl rfl (by kernel_rfl) (by decide) (fun K hK => ?_)
                refine goes_ Try.func19 (by kernel_rfl) rfl #[.agg #[.int .i64 a0_0, .int .i64 a0_1, .slice A0_2 l0_2.length c0_2]] (by rfl) rfl rfl (by (try simp only [List.map_toArray, List.map_cons, List.map_nil]); first | done | rfl) ?_
                with_reducible refine (laws_toMatrix.calls kj34 a0_0 a0_1 _ _ l0_2 t227 t228 t229 _ ?side1 ?side2 A127.out).mono ?_
                (case side1 => repeat (first | exact (Kd.C_below HR0_2.out HB.out) | (with_reducible refine Kd.C_alloc ?_ _) | (with_reducible refine Kd.C_drewN ?_ _) | (with_reducible refine Kd.C_drew ?_)))
                (case side2 => exact HC0_2.out)
                rintro e w183 ⟨v230, rfl, ho0, hb⟩
                refine ⟨_, rfl, ?_⟩
                have n0_ := Aside0.mk (Kd.R_elder' HO_187003.out (Kd.R_base ho0) hb)
                have n1_ := Aside0.mk (Kd.R_elder' HO_193002.out (Kd.R_base ho0) hb)
                have n2_ := Aside0.mk (Kd.R_elder' HO_199002.out (Kd.R_base ho0) hb)
                have n3_ := Aside0.mk (Kd.R_elder' HO_206003.out (Kd.R_base ho0) hb)
                have n4_ := Aside0.mk (Kd.R_lower (Kd.R_new' (Kd.R_new' (Kd.R_new' (Kd.R_new' ho0 (Kd.R_lt HO_187003.out)) (Kd.R_lt HO_193002.out)) (Kd.R_lt HO_199002.out)) (Kd.R_lt HO_206003.out)) (below_size HB.out))
                have n5_ := Aside0.mk (blk_below BK166.out hb)
                have n6_ := Aside0.mk (blk_below BK167.out hb)
                have n7_ := Aside0.mk (blk_below BK186.out hb)
                have n8_ := Aside0.mk (blk_below BK192.out hb)
                have n9_ := Aside0.mk (blk_below BK198.out hb)
                have n10_ := Aside0.mk (blk_below BK205.out hb)
                have n11_ := Aside0.mk (blk_below BK243.out hb)
                have n12_ := Aside0.mk (below_step HB.out hb)
                clear HO_187003
                clear HO_193002
                clear HO_199002
                clear HO_206003
                clear BK166
                clear BK167
                clear BK186
                clear BK192
                clear BK198
                clear BK205
                clear BK243
                clear HB
                have HO_187003 := n0_
                have HO_193002 := n1_
                have HO_199002 := n2_
                have HO_206003 := n3_
                have HO231 := n4_
                have BK166 := n5_
                have BK167 := n6_
                have BK186 := n7_
                have BK192 := n8_
                have BK198 := n9_
                have BK205 := n10_
                have BK243 := n11_
                have HB := n12_
                clear n0_ n1_ n2_ n3_ n4_ n5_ n6_ n7_ n8_ n9_ n10_ n11_ n12_
                (try clear hb)
                (try clear hb2)
                (try clear hk)
                (try clear hi)
                (try clear ho0)
                refine hK.out _ _ ⟨(blk_cell BK166.out 0).trans rfl, (blk_cell BK166.out 1).trans rfl, (blk_cell BK166.out 2).trans rfl, (blk_cell BK167.out 0).trans rfl, (blk_cell BK167.out 1).trans rfl, (blk_cell BK167.out 2).trans rfl⟩ (fun hHeld => ?_)
                clear hK K
                refine norm_ (a' := ?_) ?_ ?_
                rotate_left
                ·show Act.put _ (some 76) _ = _
                 simp only [Act.put, List.setIfInBounds_toArray, List.set_cons_zero, List.set_cons_succ, i64_w, i32_w]
                 rfl
                refine one_ (i := 3) (N := some 78) #[true, true, true, true, false, true, false] rfl rfl (by kernel_rfl) (by decide) (fun K hK => ?_)
                refine goes_ Try.func19 (by kernel_rfl) rfl #[.agg #[.int .i64 a1_0, .int .i64 a1_1, .slice A1_2 l1_2.length c1_2]] (by rfl) rfl rfl (by (try simp only [List.map_toArray, List.map_cons, List.map_nil]); first | done | rfl) ?_
                with_reducible refine (laws_toMatrix.calls kj34 a1_0 a1_1 _ _ l1_2 t232 t233 t234 _ ?side1 ?side2 A128.out).mono ?_
                (case side1 => repeat (first | exact (Kd.C_below HR1_2.out HB.out) | (with_reducible refine Kd.C_alloc ?_ _) | (with_reducible refine Kd.C_drewN ?_ _) | (with_reducible refine Kd.C_drew ?_)))
                (case side2 => exact HC1_2.out)
                rintro e w184 ⟨v235, rfl, ho0, hb⟩
                refine ⟨_, rfl, ?_⟩
                have n0_ := Aside0.mk (Kd.R_elder' HO_187003.out (Kd.R_base ho0) hb)
                have n1_ := Aside0.mk (Kd.R_elder' HO_193002.out (Kd.R_base ho0) hb)
                have n2_ := Aside0.mk (Kd.R_elder' HO_199002.out (Kd.R_base ho0) hb)
                have n3_ := Aside0.mk (Kd.R_elder' HO_206003.out (Kd.R_base ho0) hb)
                have n4_ := Aside0.mk (Kd.R_elder' HO231.out (Kd.R_base ho0) hb)
                have n5_ := Aside0.mk (Kd.R_lower (Kd.R_new' (Kd.R_new' (Kd.R_new' (Kd.R_new' (Kd.R_new' ho0 (Kd.R_lt HO_187003.out)) (Kd.R_lt HO_193002.out)) (Kd.R_lt HO_199002.out)) (Kd.R_lt HO_206003.out)) (Kd.R_lt HO231.out)) (below_size HB.out))
                have n6_ := Aside0.mk (blk_below BK166.out hb)
                have n7_ := Aside0.mk (blk_below BK167.out hb)
                have n8_ := Aside0.mk (blk_below BK186.out hb)
                have n9_ := Aside0.mk (blk_below BK192.out hb)
                have n10_ := Aside0.mk (blk_below BK198.out hb)
                have n11_ := Aside0.mk (blk_below BK205.out hb)
                have n12_ := Aside0.mk (blk_below BK243.out hb)
                have n13_ := Aside0.mk (below_step HB.out hb)
                clear HO_187003
                clear HO_193002
                clear HO_199002
                clear HO_206003
                clear HO231
                clear BK166
                clear BK167
                clear BK186
                clear BK192
                clear BK198
                clear BK205
                clear BK243
                clear HB
                have HO_187003 := n0_
                have HO_193002 := n1_
                have HO_199002 := n2_
                have HO_206003 := n3_
                have HO231 := n4_
                have HO236 := n5_
                have BK166 := n6_
                have BK167 := n7_
                have BK186 := n8_
                have BK192 := n9_
                have BK198 := n10_
                have BK205 := n11_
                have BK243 := n12_
                have HB := n13_
                clear n0_ n1_ n2_ n3_ n4_ n5_ n6_ n7_ n8_ n9_ n10_ n11_ n12_ n13_
                (try clear hb)
                (try clear hb2)
                (try clear hk)
                (try clear hi)
                (try clear ho0)
                obtain ⟨Ao185, co185, eo185⟩ := Kd.R_slice HO231.out
                (first | subst eo185 | (injection eo185 with f1_ f2_ f3_; have f4_ := f1_.symm; have f5_ := f3_.symm; clear f1_ f2_ f3_; subst f4_; subst f5_))
                obtain ⟨Ao186, co186, eo186⟩ := Kd.R_slice HO236.out
                (first | subst eo186 | (injection eo186 with f1_ f2_ f3_; have f4_ := f1_.symm; have f5_ := f3_.symm; clear f1_ f2_ f3_; subst f4_; subst f5_))
                refine hK.out _ _ ⟨(blk_cell BK166.out 0).trans rfl, (blk_cell BK166.out 1).trans rfl, (blk_cell BK166.out 2).trans rfl, (blk_cell BK167.out 0).trans rfl, (blk_cell BK167.out 1).trans rfl, (blk_cell BK167.out 2).trans rfl⟩ (fun hHeld => ?_)
                clear hK K
                refine norm_ (a' := ?_) ?_ ?_
                rotate_left
                ·show Act.put _ (some 78) _ = _
                 simp only [Act.put, List.setIfInBounds_toArray, List.set_cons_zero, List.set_cons_succ, i64_w, i32_w]
                 rfl
                refine one_ (i := 4) (N := some 79) #[true, true, true, true, true, true, false] rfl rfl (by kernel_rfl) (by decide) (fun K hK => ?_)
                refine goes_ Try.func20 (by kernel_rfl) rfl #[.agg #[.int .i64 t227, .int .i64 t228, .slice Ao185 t229.length co185], .agg #[.int .i64 t232, .int .i64 t233, .slice Ao186 t234.length co186]] (by rfl) rfl rfl (by (try simp only [List.map_toArray, List.map_cons, List.map_nil]); first | done | rfl) ?_
                with_reducible refine (impl_MatMul.calls kj34 t227 t228 _ _ t229 t232 t233 _ _ t234 t237 t238 t239 t240 _ ?side1 ?side2 ?side3 ?side4 A129.out).mono ?_
                (case side1 => repeat (first | exact (Kd.R_reads' HO231.out).2.2 | (with_reducible refine Kd.C_alloc ?_ _) | (with_reducible refine Kd.C_drewN ?_ _) | (with_reducible refine Kd.C_drew ?_)))
                (case side2 => exact (Kd.R_reads' HO231.out).2.1)
                (case side3 => repeat (first | exact (Kd.R_reads' HO236.out).2.2 | (with_reducible refine Kd.C_alloc ?_ _) | (with_reducible refine Kd.C_drewN ?_ _) | (with_reducible refine Kd.C_drew ?_)))
                (case side4 => exact (Kd.R_reads' HO236.out).2.1)
                rintro e w187 ⟨v241, rfl, ho0, hb⟩
                refine ⟨_, rfl, ?_⟩
                have n0_ := Aside0.mk (Kd.R_elder' HO_187003.out (Kd.R_base ho0) hb)
                have n1_ := Aside0.mk (Kd.R_elder' HO_193002.out (Kd.R_base ho0) hb)
                have n2_ := Aside0.mk (Kd.R_elder' HO_199002.out (Kd.R_base ho0) hb)
                have n3_ := Aside0.mk (Kd.R_elder' HO_206003.out (Kd.R_base ho0) hb)
                have n4_ := Aside0.mk (Kd.R_elder' HO231.out (Kd.R_base ho0) hb)
                have n5_ := Aside0.mk (Kd.R_elder' HO236.out (Kd.R_base ho0) hb)
                have n6_ := Aside0.mk (Kd.R_lower (Kd.R_new' (Kd.R_new' (Kd.R_new' (Kd.R_new' (Kd.R_new' (Kd.R_new' ho0 (Kd.R_lt HO_187003.out)) (Kd.R_lt HO_193002.out)) (Kd.R_lt HO_199002.out)) (Kd.R_lt HO_206003.out)) (Kd.R_lt HO231.out)) (Kd.R_lt HO236.out)) (below_size HB.out))
                have n7_ := Aside0.mk (blk_below BK166.out hb)
                have n8_ := Aside0.mk (blk_below BK167.out hb)
                have n9_ := Aside0.mk (blk_below BK186.out hb)
                have n10_ := Aside0.mk (blk_below BK192.out hb)
                have n11_ := Aside0.mk (blk_below BK198.out hb)
                have n12_ := Aside0.mk (blk_below BK205.out hb)
                have n13_ := Aside0.mk (blk_below BK243.out hb)
                have n14_ := Aside0.mk (below_step HB.out hb)
                clear HO_187003
                clear HO_193002
                clear HO_199002
                clear HO_206003
                clear HO231
                clear HO236
                clear BK166
                clear BK167
                clear BK186
                clear BK192
                clear BK198
                clear BK205
                clear BK243
                clear HB
                have HO_187003 := n0_
                have HO_193002 := n1_
                have HO_199002 := n2_
                have HO_206003 := n3_
                have HO231 := n4_
                have HO236 := n5_
                have HO242 := n6_
                have BK166 := n7_
                have BK167 := n8_
                have BK186 := n9_
                have BK192 := n10_
                have BK198 := n11_
                have BK205 := n12_
                have BK243 := n13_
                have HB := n14_
                clear n0_ n1_ n2_ n3_ n4_ n5_ n6_ n7_ n8_ n9_ n10_ n11_ n12_ n13_ n14_
                (try clear hb)
                (try clear hb2)
                (try clear hk)
                (try clear hi)
                (try clear ho0)
                refine hK.out _ _ ⟨(blk_cell BK166.out 0).trans rfl, (blk_cell BK166.out 1).trans rfl, (blk_cell BK166.out 2).trans rfl, (blk_cell BK167.out 0).trans rfl, (blk_cell BK167.out 1).trans rfl, (blk_cell BK167.out 2).trans rfl⟩ (fun hHeld => ?_)
                clear hK K
                refine norm_ (a' := ?_) ?_ ?_
                rotate_left
                ·show Act.put _ (some 79) _ = _
                 simp only [Act.put, List.setIfInBounds_toArray, List.set_cons_zero, List.set_cons_succ, i64_w, i32_w]
                 rfl
                exact norm_ (by simp only [putAll, Act.put, List.setIfInBounds_toArray, List.set_cons_zero, List.set_cons_succ]) (hCont (.slice Ao185 t229.length co185, .slice Ao186 t234.length co186, v241, gb243) _ ⟨hHeld, (by (with_reducible repeat (first | apply Kd.R_alloc | apply Kd.R_drewN | apply Kd.R_drew)); exact Kd.R_mono HO231.out (fun _ hk => ⟨hk.1.2, ⟨hk.2, ⟨hk.1.1.1.1.1.2, ⟨hk.1.1.1.1.2, ⟨hk.1.1.1.2, hk.1.1.2⟩⟩⟩⟩⟩)), (by (with_reducible repeat (first | apply Kd.R_alloc | apply Kd.R_drewN | apply Kd.R_drew)); exact Kd.R_mono HO236.out (fun _ hk => ⟨hk.1.2, ⟨hk.2, ⟨hk.1.1.1.1.1.2, ⟨hk.1.1.1.1.2, ⟨hk.1.1.1.2, hk.1.1.2⟩⟩⟩⟩⟩)), (by (with_reducible repeat (first | apply Kd.R_alloc | apply Kd.R_drewN | apply Kd.R_drew)); exact Kd.R_mono HO242.out (fun _ hk => ⟨hk.1.2, ⟨hk.2, ⟨hk.1.1.1.1.1.2, ⟨hk.1.1.1.1.2, ⟨hk.1.1.1.2, hk.1.1.2⟩⟩⟩⟩⟩)), (by (with_reducible repeat (first | apply Kd.R_alloc | apply Kd.R_drewN | apply Kd.R_drew)); exact Kd.R_mono HO_187003.out (fun _ hk => ⟨hk.1.1.2, ⟨hk.1.2, ⟨hk.2, ⟨hk.1.1.1.1, ⟨hk.1.1.1.2.1, hk.1.1.1.2.2⟩⟩⟩⟩⟩)), (by (with_reducible repeat (first | apply Kd.R_alloc | apply Kd.R_drewN | apply Kd.R_drew)); exact Kd.R_mono HO_193002.out (fun _ hk => ⟨hk.1.1.2, ⟨hk.1.2, ⟨hk.2, ⟨hk.1.1.1.1, ⟨hk.1.1.1.2.1, hk.1.1.1.2.2⟩⟩⟩⟩⟩)), (by (with_reducible repeat (first | apply Kd.R_alloc | apply Kd.R_drewN | apply Kd.R_drew)); exact Kd.R_mono HO_199002.out (fun _ hk => ⟨hk.1.1.2, ⟨hk.1.2, ⟨hk.2, ⟨hk.1.1.1.1, ⟨hk.1.1.1.2.1, hk.1.1.1.2.2⟩⟩⟩⟩⟩)), (by (with_reducible repeat (first | apply Kd.R_alloc | apply Kd.R_drewN | apply Kd.R_drew)); exact Kd.R_mono HO_206003.out (fun _ hk => ⟨hk.1.1.2, ⟨hk.1.2, ⟨hk.2, ⟨hk.1.1.1.1, ⟨hk.1.1.1.2.1, hk.1.1.1.2.2⟩⟩⟩⟩⟩)), BK166.out, BK167.out, BK186.out, BK192.out, BK198.out, BK205.out, BK243.out, GW243.out, GE243.out, NB166_243.out, NB243_166.out, NB167_243.out, NB243_167.out, NB186_243.out, NB243_186.out, NB192_243.out, NB243_192.out, NB198_243.out, NB243_198.out, NB205_243.out, NB243_205.out, HB.out⟩)
              rintro ⟨v230, v235, v241, gb243⟩ w188 ⟨hS_, h0_, h1_, h2_, h3_, h4_, h5_, h6_, h7_, h8_, h9_, h10_, h11_, h12_, h13_, h14_, h15_, h16_, h17_, h18_, h19_, h20_, h21_, h22_, h23_, h24_, h25_, h26_, h27_, h28_⟩
              have n0_ : Aside0 (Kd.R (Kd.int .i64) 2 w188 w.heap.size (fun k_ => some k_ ≠ (v235 : Value).ownBlock ∧ some k_ ≠ (v241 : Value).ownBlock ∧ some k_ ≠ (.slice Ao54 t183.length co54 : Value).ownBlock ∧ some k_ ≠ (.slice Ao64 t220.length co64 : Value).ownBlock ∧ some k_ ≠ (.slice Ao74 t222.length co74 : Value).ownBlock ∧ some k_ ≠ (.slice Ao84 t202.length co84 : Value).ownBlock) v230 t229) := ⟨h0_⟩
              have n1_ : Aside0 (Kd.R (Kd.int .i64) 2 w188 w.heap.size (fun k_ => some k_ ≠ (v230 : Value).ownBlock ∧ some k_ ≠ (v241 : Value).ownBlock ∧ some k_ ≠ (.slice Ao54 t183.length co54 : Value).ownBlock ∧ some k_ ≠ (.slice Ao64 t220.length co64 : Value).ownBlock ∧ some k_ ≠ (.slice Ao74 t222.length co74 : Value).ownBlock ∧ some k_ ≠ (.slice Ao84 t202.length co84 : Value).ownBlock) v235 t234) := ⟨h1_⟩
              have n2_ : Aside0 (Kd.R (Kd.int .i64) 2 w188 w.heap.size (fun k_ => some k_ ≠ (v230 : Value).ownBlock ∧ some k_ ≠ (v235 : Value).ownBlock ∧ some k_ ≠ (.slice Ao54 t183.length co54 : Value).ownBlock ∧ some k_ ≠ (.slice Ao64 t220.length co64 : Value).ownBlock ∧ some k_ ≠ (.slice Ao74 t222.length co74 : Value).ownBlock ∧ some k_ ≠ (.slice Ao84 t202.length co84 : Value).ownBlock) v241 t240) := ⟨h2_⟩
              have n3_ : Aside0 (Kd.R (Kd.int .i64) 2 w188 w.heap.size (fun k_ => some k_ ≠ (v230 : Value).ownBlock ∧ some k_ ≠ (v235 : Value).ownBlock ∧ some k_ ≠ (v241 : Value).ownBlock ∧ some k_ ≠ (.slice Ao64 t220.length co64 : Value).ownBlock ∧ some k_ ≠ (.slice Ao74 t222.length co74 : Value).ownBlock ∧ some k_ ≠ (.slice Ao84 t202.length co84 : Value).ownBlock) (.slice Ao54 t183.length co54) t183) := ⟨h3_⟩
              have n4_ : Aside0 (Kd.R (Kd.int .i64) 2 w188 w.heap.size (fun k_ => some k_ ≠ (v230 : Value).ownBlock ∧ some k_ ≠ (v235 : Value).ownBlock ∧ some k_ ≠ (v241 : Value).ownBlock ∧ some k_ ≠ (.slice Ao54 t183.length co54 : Value).ownBlock ∧ some k_ ≠ (.slice Ao74 t222.length co74 : Value).ownBlock ∧ some k_ ≠ (.slice Ao84 t202.length co84 : Value).ownBlock) (.slice Ao64 t220.length co64) t220) := ⟨h4_⟩
              have n5_ : Aside0 (Kd.R (Kd.int .i64) 2 w188 w.heap.size (fun k_ => some k_ ≠ (v230 : Value).ownBlock ∧ some k_ ≠ (v235 : Value).ownBlock ∧ some k_ ≠ (v241 : Value).ownBlock ∧ some k_ ≠ (.slice Ao54 t183.length co54 : Value).ownBlock ∧ some k_ ≠ (.slice Ao64 t220.length co64 : Value).ownBlock ∧ some k_ ≠ (.slice Ao84 t202.length co84 : Value).ownBlock) (.slice Ao74 t222.length co74) t222) := ⟨h5_⟩
              have n6_ : Aside0 (Kd.R (Kd.int .i64) 2 w188 w.heap.size (fun k_ => some k_ ≠ (v230 : Value).ownBlock ∧ some k_ ≠ (v235 : Value).ownBlock ∧ some k_ ≠ (v241 : Value).ownBlock ∧ some k_ ≠ (.slice Ao54 t183.length co54 : Value).ownBlock ∧ some k_ ≠ (.slice Ao64 t220.length co64 : Value).ownBlock ∧ some k_ ≠ (.slice Ao74 t222.length co74 : Value).ownBlock) (.slice Ao84 t202.length co84) t225) := ⟨h6_⟩
              have n7_ : Aside0 (w188.heap[gb166]? = some (.cells #[.int .i64 a0_0, .int .i64 a0_1, .slice A0_2 l0_2.length c0_2] 32 (0, 0))) := ⟨h7_⟩
              have n8_ : Aside0 (w188.heap[gb167]? = some (.cells #[.int .i64 a1_0, .int .i64 a1_1, .slice A1_2 l1_2.length c1_2] 32 (0, 0))) := ⟨h8_⟩
              have n9_ : Aside0 (w188.heap[gb186]? = some (.cells #[.int .i64 t180, .int .i64 t181, .int .i64 t182, .slice Ao54 t183.length co54] 36 (0, 0))) := ⟨h9_⟩
              have n10_ : Aside0 (w188.heap[gb192]? = some (.cells #[.int .i64 t187, .int .i64 t188, .slice Ao64 t220.length co64] 34 (0, 0))) := ⟨h10_⟩
              have n11_ : Aside0 (w188.heap[gb198]? = some (.cells #[.int .i64 t193, .int .i64 t194, .slice Ao74 t222.length co74] 34 (0, 0))) := ⟨h11_⟩
              have n12_ : Aside0 (w188.heap[gb205]? = some (.cells #[.int .i64 t199, .int .i64 t200, .int .i64 t201, .slice Ao84 t202.length co84] 36 (0, 0))) := ⟨h12_⟩
              have n13_ : Aside0 (w188.heap[gb243]? = some (.cells #[.int .i64 0, .int .i64 0, .int .i64 0, .slice none 0 0] 36 (0, 0))) := ⟨h13_⟩
              have n14_ : Aside0 (w.heap.size ≤ gb243) := ⟨h14_⟩
              have n15_ : Aside0 (w.heap.size ≤ gb243) := ⟨h15_⟩
              have n16_ : Aside0 (gb166 ≠ gb243) := ⟨h16_⟩
              have n17_ : Aside0 (gb243 ≠ gb166) := ⟨h17_⟩
              have n18_ : Aside0 (gb167 ≠ gb243) := ⟨h18_⟩
              have n19_ : Aside0 (gb243 ≠ gb167) := ⟨h19_⟩
              have n20_ : Aside0 (gb186 ≠ gb243) := ⟨h20_⟩
              have n21_ : Aside0 (gb243 ≠ gb186) := ⟨h21_⟩
              have n22_ : Aside0 (gb192 ≠ gb243) := ⟨h22_⟩
              have n23_ : Aside0 (gb243 ≠ gb192) := ⟨h23_⟩
              have n24_ : Aside0 (gb198 ≠ gb243) := ⟨h24_⟩
              have n25_ : Aside0 (gb243 ≠ gb198) := ⟨h25_⟩
              have n26_ : Aside0 (gb205 ≠ gb243) := ⟨h26_⟩
              have n27_ : Aside0 (gb243 ≠ gb205) := ⟨h27_⟩
              have n28_ : Aside0 (Below w.heap.size w w188) := ⟨h28_⟩
              clear HO_187003
              clear HO_193002
              clear HO_199002
              clear HO_206003
              clear BK166
              clear BK167
              clear BK186
              clear BK192
              clear BK198
              clear BK205
              clear HB
              clear h0_ h1_ h2_ h3_ h4_ h5_ h6_ h7_ h8_ h9_ h10_ h11_ h12_ h13_ h14_ h15_ h16_ h17_ h18_ h19_ h20_ h21_ h22_ h23_ h24_ h25_ h26_ h27_ h28_
              have HO231 := n0_
              have HO236 := n1_
              have HO242 := n2_
              have HO_187003 := n3_
              have HO_193002 := n4_
              have HO_199002 := n5_
              have HO_206003 := n6_
              have BK166 := n7_
              have BK167 := n8_
              have BK186 := n9_
              have BK192 := n10_
              have BK198 := n11_
              have BK205 := n12_
              have BK243 := n13_
              have GW243 := n14_
              have GE243 := n15_
              have NB166_243 := n16_
              have NB243_166 := n17_
              have NB167_243 := n18_
              have NB243_167 := n19_
              have NB186_243 := n20_
              have NB243_186 := n21_
              have NB192_243 := n22_
              have NB243_192 := n23_
              have NB198_243 := n24_
              have NB243_198 := n25_
              have NB205_243 := n26_
              have NB243_205 := n27_
              have HB := n28_
              clear n0_ n1_ n2_ n3_ n4_ n5_ n6_ n7_ n8_ n9_ n10_ n11_ n12_ n13_ n14_ n15_ n16_ n17_ n18_ n19_ n20_ n21_ n22_ n23_ n24_ n25_ n26_ n27_ n28_
              have hHeld : w188.cell? ⟨gb166, 0, none⟩ = some (.int .i64 a0_0) ∧ w188.cell? ⟨gb166, 1, none⟩ = some (.int .i64 a0_1) ∧ w188.cell? ⟨gb166, 2, none⟩ = some (.slice A0_2 l0_2.length c0_2) ∧ w188.cell? ⟨gb167, 0, none⟩ = some (.int .i64 a1_0) ∧ w188.cell? ⟨gb167, 1, none⟩ = some (.int .i64 a1_1) ∧ w188.cell? ⟨gb167, 2, none⟩ = some (.slice A1_2 l1_2.length c1_2) := hS_
              obtain ⟨Ao192, co192, eo192⟩ := Kd.R_slice HO242.out
              (first | subst eo192 | (injection eo192 with f1_ f2_ f3_; have f4_ := f1_.symm; have f5_ := f3_.symm; clear f1_ f2_ f3_; subst f4_; subst f5_))
              refine norm_ (a' := ?_) ?_ ?_
              rotate_left
              ·simp only [putAll, Act.put, List.setIfInBounds_toArray, List.set_cons_zero, List.set_cons_succ]
               rfl
              refine one_ (i := 6) (N := none) #[true, true, true, true, true, true, true] rfl rfl (by kernel_rfl) (by decide) (fun K hK => ?_)
              have hs189 : w188.cell? ⟨gb243, 0, none⟩ = some (.int .i64 0) := (blk_cell BK243.out 0).trans rfl
              have hfs189 := blk_frozen BK243.out 0
              have hns189_0 := NB166_243.out
              have hns189_1 := NB167_243.out
              have hns189_2 := NB186_243.out
              have hns189_3 := NB192_243.out
              have hns189_4 := NB198_243.out
              have hns189_5 := NB205_243.out
              have hms189_0 := NB243_166.out
              have hms189_1 := NB243_167.out
              have hms189_2 := NB243_186.out
              have hms189_3 := NB243_192.out
              have hms189_4 := NB243_198.out
              have hms189_5 := NB243_205.out
              have hs190 : w188.cell? ⟨gb243, 1, none⟩ = some (.int .i64 0) := (blk_cell BK243.out 1).trans rfl
              have hfs190 := blk_frozen BK243.out 1
              have hns190_0 := NB166_243.out
              have hns190_1 := NB167_243.out
              have hns190_2 := NB186_243.out
              have hns190_3 := NB192_243.out
              have hns190_4 := NB198_243.out
              have hns190_5 := NB205_243.out
              have hms190_0 := NB243_166.out
              have hms190_1 := NB243_167.out
              have hms190_2 := NB243_186.out
              have hms190_3 := NB243_192.out
              have hms190_4 := NB243_198.out
              have hms190_5 := NB243_205.out
              have hs191 : w188.cell? ⟨gb243, 2, none⟩ = some (.int .i64 0) := (blk_cell BK243.out 2).trans rfl
              have hfs191 := blk_frozen BK243.out 2
              have hns191_0 := NB166_243.out
              have hns191_1 := NB167_243.out
              have hns191_2 := NB186_243.out
              have hns191_3 := NB192_243.out
              have hns191_4 := NB198_243.out
              have hns191_5 := NB205_243.out
              have hms191_0 := NB243_166.out
              have hms191_1 := NB243_167.out
              have hms191_2 := NB243_186.out
              have hms191_3 := NB243_192.out
              have hms191_4 := NB243_198.out
              have hms191_5 := NB243_205.out
              have hs193 : w188.cell? ⟨gb243, 3, none⟩ = some (.slice none 0 0) := (blk_cell BK243.out 3).trans rfl
              have hfs193 := blk_frozen BK243.out 3
              have hns193_0 := NB166_243.out
              have hns193_1 := NB167_243.out
              have hns193_2 := NB186_243.out
              have hns193_3 := NB192_243.out
              have hns193_4 := NB198_243.out
              have hns193_5 := NB205_243.out
              have hms193_0 := NB243_166.out
              have hms193_1 := NB243_167.out
              have hms193_2 := NB243_186.out
              have hms193_3 := NB243_192.out
              have hms193_4 := NB243_198.out
              have hms193_5 := NB243_205.out
              refine skip_ (w1 := ?_) (by rfl) rfl ?_ ?_
              rotate_left
              ·go_simp
               rfl
              refine hK.out _ _ ⟨((cell_far (p := ⟨gb243, _, none⟩) NB166_243.out _).trans (((cell_far (p := ⟨gb243, _, none⟩) NB166_243.out _).trans (((cell_far (p := ⟨gb243, _, none⟩) NB166_243.out _).trans (((cell_far (p := ⟨gb243, _, none⟩) NB166_243.out _).trans (hHeld.1)))))))), ((cell_far (p := ⟨gb243, _, none⟩) NB166_243.out _).trans (((cell_far (p := ⟨gb243, _, none⟩) NB166_243.out _).trans (((cell_far (p := ⟨gb243, _, none⟩) NB166_243.out _).trans (((cell_far (p := ⟨gb243, _, none⟩) NB166_243.out _).trans (hHeld.2.1)))))))), ((cell_far (p := ⟨gb243, _, none⟩) NB166_243.out _).trans (((cell_far (p := ⟨gb243, _, none⟩) NB166_243.out _).trans (((cell_far (p := ⟨gb243, _, none⟩) NB166_243.out _).trans (((cell_far (p := ⟨gb243, _, none⟩) NB166_243.out _).trans (hHeld.2.2.1)))))))), ((cell_far (p := ⟨gb243, _, none⟩) NB167_243.out _).trans (((cell_far (p := ⟨gb243, _, none⟩) NB167_243.out _).trans (((cell_far (p := ⟨gb243, _, none⟩) NB167_243.out _).trans (((cell_far (p := ⟨gb243, _, none⟩) NB167_243.out _).trans (hHeld.2.2.2.1)))))))), ((cell_far (p := ⟨gb243, _, none⟩) NB167_243.out _).trans (((cell_far (p := ⟨gb243, _, none⟩) NB167_243.out _).trans (((cell_far (p := ⟨gb243, _, none⟩) NB167_243.out _).trans (((cell_far (p := ⟨gb243, _, none⟩) NB167_243.out _).trans (hHeld.2.2.2.2.1)))))))), ((cell_far (p := ⟨gb243, _, none⟩) NB167_243.out _).trans (((cell_far (p := ⟨gb243, _, none⟩) NB167_243.out _).trans (((cell_far (p := ⟨gb243, _, none⟩) NB167_243.out _).trans (((cell_far (p := ⟨gb243, _, none⟩) NB167_243.out _).trans (hHeld.2.2.2.2.2))))))))⟩ (fun hHeld => ?_)
              clear hK K
              refine done_ (by kernel_rfl) ?_
              have hnb194 := NB243_166.out
              have hnc194 := NB166_243.out
              have hnb195 := NB243_167.out
              have hnc195 := NB167_243.out
              have hnb196 := NB243_186.out
              have hnc196 := NB186_243.out
              have hnb197 := NB243_192.out
              have hnc197 := NB192_243.out
              have hnb198 := NB243_198.out
              have hnc198 := NB198_243.out
              have hnb199 := NB243_205.out
              have hnc199 := NB205_243.out
              have hcz200_0 : w188.cell? ⟨gb243, 0, none⟩ = some (.int .i64 0) := (blk_cell BK243.out 0).trans rfl
              have hcz200_1 : w188.cell? ⟨gb243, 1, none⟩ = some (.int .i64 0) := (blk_cell BK243.out 1).trans rfl
              have hcz200_2 : w188.cell? ⟨gb243, 2, none⟩ = some (.int .i64 0) := (blk_cell BK243.out 2).trans rfl
              have hcz200_3 : w188.cell? ⟨gb243, 3, none⟩ = some (.slice none 0 0) := (blk_cell BK243.out 3).trans rfl
              have hfz200_0 := blk_frozen BK243.out 0
              have hfz200_1 := blk_frozen BK243.out 1
              have hfz200_2 := blk_frozen BK243.out 2
              have hfz200_3 := blk_frozen BK243.out 3
              have hnb201 := NB186_166.out
              have hnc201 := NB166_186.out
              have hnb202 := NB186_167.out
              have hnc202 := NB167_186.out
              have hnb203 := NB186_192.out
              have hnc203 := NB192_186.out
              have hnb204 := NB186_198.out
              have hnc204 := NB198_186.out
              have hcz205_0 : w188.cell? ⟨gb186, 0, none⟩ = some (.int .i64 t180) := (blk_cell BK186.out 0).trans rfl
              have hcz205_1 : w188.cell? ⟨gb186, 1, none⟩ = some (.int .i64 t181) := (blk_cell BK186.out 1).trans rfl
              have hcz205_2 : w188.cell? ⟨gb186, 2, none⟩ = some (.int .i64 t182) := (blk_cell BK186.out 2).trans rfl
              have hcz205_3 : w188.cell? ⟨gb186, 3, none⟩ = some (.slice Ao54 t183.length co54) := (blk_cell BK186.out 3).trans rfl
              have hfz205_0 := blk_frozen BK186.out 0
              have hfz205_1 := blk_frozen BK186.out 1
              have hfz205_2 := blk_frozen BK186.out 2
              have hfz205_3 := blk_frozen BK186.out 3
              try go_wp2_with (first | ((with_reducible refine gate_callee (f := 21) rfl ?_); refine goesL_ (some 82) rfl rfl Try.func21 (by kernel_rfl) rfl #[.agg #[.int .i64 t237, .int .i64 t238, .int .i64 t239, .slice Ao192 t240.length co192], .agg #[.int .i64 t180, .int .i64 t181, .int .i64 t182, .slice Ao54 t183.length co54]] rfl (by (try simp only [List.map_toArray, List.map_cons, List.map_nil]); first | done | rfl | (simp only [List.length_drop, List.length_take]; rfl)) ?_; (with_reducible refine (laws_eqMatrixResult.calls kj34 t237 t238 t239 _ _ t240 t180 t181 t182 _ _ t183 true _ ?side1 ?side2 ?side3 ?side4 A130.out).mono ?_); (case side1 => refine (Kd.R_reads' (e := 2) (base := w.heap.size) (ok := fun k_ => (some k_ ≠ (v230 : Value).ownBlock ∧ (some k_ ≠ (v235 : Value).ownBlock ∧ (some k_ ≠ (.slice Ao54 t183.length co54 : Value).ownBlock ∧ (some k_ ≠ (.slice Ao64 t220.length co64 : Value).ownBlock ∧ (some k_ ≠ (.slice Ao74 t222.length co74 : Value).ownBlock ∧ some k_ ≠ (.slice Ao84 t202.length co84 : Value).ownBlock)))))) (n := t240.length) (c := co192) ?_).2.2; exact (by (with_reducible repeat (first | apply Kd.R_alloc | apply Kd.R_drewN | apply Kd.R_drew)); exact (Kd.R_mono (Kd.R_far (p := ⟨gb243, 3, none⟩) (Kd.R_far (p := ⟨gb243, 2, none⟩) (Kd.R_far (p := ⟨gb243, 1, none⟩) (Kd.R_far (p := ⟨gb243, 0, none⟩) (Kd.R_types HO242.out BK243.out (by decide)) (fun _ hk => hk.2) (.int .i64 t237)) (fun _ hk => hk.2) (.int .i64 t238)) (fun _ hk => hk.2) (.int .i64 t239)) (fun _ hk => hk.2) (.slice Ao192 t240.length co192)) (fun _ h_ => h_.1)))); (case side2 => exact (Kd.R_reads' HO242.out).2.1); (case side3 => refine (Kd.R_reads' (e := 2) (base := w.heap.size) (ok := fun k_ => (some k_ ≠ (v230 : Value).ownBlock ∧ (some k_ ≠ (v235 : Value).ownBlock ∧ (some k_ ≠ (.slice Ao192 t240.length co192 : Value).ownBlock ∧ (some k_ ≠ (.slice Ao64 t220.length co64 : Value).ownBlock ∧ (some k_ ≠ (.slice Ao74 t222.length co74 : Value).ownBlock ∧ some k_ ≠ (.slice Ao84 t202.length co84 : Value).ownBlock)))))) (n := t183.length) (c := co54) ?_).2.2; exact (by (with_reducible repeat (first | apply Kd.R_alloc | apply Kd.R_drewN | apply Kd.R_drew)); exact (Kd.R_mono (Kd.R_far (p := ⟨gb243, 3, none⟩) (Kd.R_far (p := ⟨gb243, 2, none⟩) (Kd.R_far (p := ⟨gb243, 1, none⟩) (Kd.R_far (p := ⟨gb243, 0, none⟩) (Kd.R_types HO_187003.out BK243.out (by decide)) (fun _ hk => hk.2) (.int .i64 t237)) (fun _ hk => hk.2) (.int .i64 t238)) (fun _ hk => hk.2) (.int .i64 t239)) (fun _ hk => hk.2) (.slice Ao192 t240.length co192)) (fun _ h_ => h_.1)))); (case side4 => exact (Kd.R_reads' HO_187003.out).2.1); rintro e w206 ⟨rfl, hb⟩; refine ⟨_, rfl, ?_⟩; have n0_ := Aside0.mk (Kd.R_below (by (with_reducible repeat (first | apply Kd.R_alloc | apply Kd.R_drewN | apply Kd.R_drew)); exact (Kd.R_mono (Kd.R_far (p := ⟨gb243, 3, none⟩) (Kd.R_far (p := ⟨gb243, 2, none⟩) (Kd.R_far (p := ⟨gb243, 1, none⟩) (Kd.R_far (p := ⟨gb243, 0, none⟩) (Kd.R_types HO_187003.out BK243.out (by decide)) (fun _ hk => hk.2) (.int .i64 t237)) (fun _ hk => hk.2) (.int .i64 t238)) (fun _ hk => hk.2) (.int .i64 t239)) (fun _ hk => hk.2) (.slice Ao192 t240.length co192)) (fun _ h_ => h_.1))) hb); have n1_ := Aside0.mk (Kd.R_below (by (with_reducible repeat (first | apply Kd.R_alloc | apply Kd.R_drewN | apply Kd.R_drew)); exact (Kd.R_mono (Kd.R_far (p := ⟨gb243, 3, none⟩) (Kd.R_far (p := ⟨gb243, 2, none⟩) (Kd.R_far (p := ⟨gb243, 1, none⟩) (Kd.R_far (p := ⟨gb243, 0, none⟩) (Kd.R_types HO_193002.out BK243.out (by decide)) (fun _ hk => hk.2) (.int .i64 t237)) (fun _ hk => hk.2) (.int .i64 t238)) (fun _ hk => hk.2) (.int .i64 t239)) (fun _ hk => hk.2) (.slice Ao192 t240.length co192)) (fun _ h_ => h_.1))) hb); have n2_ := Aside0.mk (Kd.R_below (by (with_reducible repeat (first | apply Kd.R_alloc | apply Kd.R_drewN | apply Kd.R_drew)); exact (Kd.R_mono (Kd.R_far (p := ⟨gb243, 3, none⟩) (Kd.R_far (p := ⟨gb243, 2, none⟩) (Kd.R_far (p := ⟨gb243, 1, none⟩) (Kd.R_far (p := ⟨gb243, 0, none⟩) (Kd.R_types HO_199002.out BK243.out (by decide)) (fun _ hk => hk.2) (.int .i64 t237)) (fun _ hk => hk.2) (.int .i64 t238)) (fun _ hk => hk.2) (.int .i64 t239)) (fun _ hk => hk.2) (.slice Ao192 t240.length co192)) (fun _ h_ => h_.1))) hb); have n3_ := Aside0.mk (Kd.R_below (by (with_reducible repeat (first | apply Kd.R_alloc | apply Kd.R_drewN | apply Kd.R_drew)); exact (Kd.R_mono (Kd.R_far (p := ⟨gb243, 3, none⟩) (Kd.R_far (p := ⟨gb243, 2, none⟩) (Kd.R_far (p := ⟨gb243, 1, none⟩) (Kd.R_far (p := ⟨gb243, 0, none⟩) (Kd.R_types HO_206003.out BK243.out (by decide)) (fun _ hk => hk.2) (.int .i64 t237)) (fun _ hk => hk.2) (.int .i64 t238)) (fun _ hk => hk.2) (.int .i64 t239)) (fun _ hk => hk.2) (.slice Ao192 t240.length co192)) (fun _ h_ => h_.1))) hb); have n4_ := Aside0.mk (Kd.R_below (by (with_reducible repeat (first | apply Kd.R_alloc | apply Kd.R_drewN | apply Kd.R_drew)); exact (Kd.R_mono (Kd.R_far (p := ⟨gb243, 3, none⟩) (Kd.R_far (p := ⟨gb243, 2, none⟩) (Kd.R_far (p := ⟨gb243, 1, none⟩) (Kd.R_far (p := ⟨gb243, 0, none⟩) (Kd.R_types HO231.out BK243.out (by decide)) (fun _ hk => hk.2) (.int .i64 t237)) (fun _ hk => hk.2) (.int .i64 t238)) (fun _ hk => hk.2) (.int .i64 t239)) (fun _ hk => hk.2) (.slice Ao192 t240.length co192)) (fun _ h_ => h_.1))) hb); have n5_ := Aside0.mk (Kd.R_below (by (with_reducible repeat (first | apply Kd.R_alloc | apply Kd.R_drewN | apply Kd.R_drew)); exact (Kd.R_mono (Kd.R_far (p := ⟨gb243, 3, none⟩) (Kd.R_far (p := ⟨gb243, 2, none⟩) (Kd.R_far (p := ⟨gb243, 1, none⟩) (Kd.R_far (p := ⟨gb243, 0, none⟩) (Kd.R_types HO236.out BK243.out (by decide)) (fun _ hk => hk.2) (.int .i64 t237)) (fun _ hk => hk.2) (.int .i64 t238)) (fun _ hk => hk.2) (.int .i64 t239)) (fun _ hk => hk.2) (.slice Ao192 t240.length co192)) (fun _ h_ => h_.1))) hb); have n6_ := Aside0.mk (Kd.R_below (by (with_reducible repeat (first | apply Kd.R_alloc | apply Kd.R_drewN | apply Kd.R_drew)); exact (Kd.R_mono (Kd.R_far (p := ⟨gb243, 3, none⟩) (Kd.R_far (p := ⟨gb243, 2, none⟩) (Kd.R_far (p := ⟨gb243, 1, none⟩) (Kd.R_far (p := ⟨gb243, 0, none⟩) (Kd.R_types HO242.out BK243.out (by decide)) (fun _ hk => hk.2) (.int .i64 t237)) (fun _ hk => hk.2) (.int .i64 t238)) (fun _ hk => hk.2) (.int .i64 t239)) (fun _ hk => hk.2) (.slice Ao192 t240.length co192)) (fun _ h_ => h_.1))) hb); have n7_ := Aside0.mk (blk_below (g := gb166) (o := .cells #[.int .i64 a0_0, .int .i64 a0_1, .slice A0_2 l0_2.length c0_2] 32 (0, 0)) (by (with_reducible repeat (first | refine blk_drewN ?_ _ | refine blk_drew ?_ | refine blk_alloc ?_ _)); refine blk_far ?_ NB166_243.out _; (with_reducible repeat (first | refine blk_drewN ?_ _ | refine blk_drew ?_ | refine blk_alloc ?_ _)); refine blk_far ?_ NB166_243.out _; (with_reducible repeat (first | refine blk_drewN ?_ _ | refine blk_drew ?_ | refine blk_alloc ?_ _)); refine blk_far ?_ NB166_243.out _; (with_reducible repeat (first | refine blk_drewN ?_ _ | refine blk_drew ?_ | refine blk_alloc ?_ _)); refine blk_far ?_ NB166_243.out _; (with_reducible repeat (first | refine blk_drewN ?_ _ | refine blk_drew ?_ | refine blk_alloc ?_ _)); exact BK166.out) hb); have n8_ := Aside0.mk (blk_below (g := gb167) (o := .cells #[.int .i64 a1_0, .int .i64 a1_1, .slice A1_2 l1_2.length c1_2] 32 (0, 0)) (by (with_reducible repeat (first | refine blk_drewN ?_ _ | refine blk_drew ?_ | refine blk_alloc ?_ _)); refine blk_far ?_ NB167_243.out _; (with_reducible repeat (first | refine blk_drewN ?_ _ | refine blk_drew ?_ | refine blk_alloc ?_ _)); refine blk_far ?_ NB167_243.out _; (with_reducible repeat (first | refine blk_drewN ?_ _ | refine blk_drew ?_ | refine blk_alloc ?_ _)); refine blk_far ?_ NB167_243.out _; (with_reducible repeat (first | refine blk_drewN ?_ _ | refine blk_drew ?_ | refine blk_alloc ?_ _)); refine blk_far ?_ NB167_243.out _; (with_reducible repeat (first | refine blk_drewN ?_ _ | refine blk_drew ?_ | refine blk_alloc ?_ _)); exact BK167.out) hb); have n9_ := Aside0.mk (blk_below (g := gb186) (o := .cells #[.int .i64 t180, .int .i64 t181, .int .i64 t182, .slice Ao54 t183.length co54] 36 (0, 0)) (by (with_reducible repeat (first | refine blk_drewN ?_ _ | refine blk_drew ?_ | refine blk_alloc ?_ _)); refine blk_far ?_ NB186_243.out _; (with_reducible repeat (first | refine blk_drewN ?_ _ | refine blk_drew ?_ | refine blk_alloc ?_ _)); refine blk_far ?_ NB186_243.out _; (with_reducible repeat (first | refine blk_drewN ?_ _ | refine blk_drew ?_ | refine blk_alloc ?_ _)); refine blk_far ?_ NB186_243.out _; (with_reducible repeat (first | refine blk_drewN ?_ _ | refine blk_drew ?_ | refine blk_alloc ?_ _)); refine blk_far ?_ NB186_243.out _; (with_reducible repeat (first | refine blk_drewN ?_ _ | refine blk_drew ?_ | refine blk_alloc ?_ _)); exact BK186.out) hb); have n10_ := Aside0.mk (blk_below (g := gb192) (o := .cells #[.int .i64 t187, .int .i64 t188, .slice Ao64 t220.length co64] 34 (0, 0)) (by (with_reducible repeat (first | refine blk_drewN ?_ _ | refine blk_drew ?_ | refine blk_alloc ?_ _)); refine blk_far ?_ NB192_243.out _; (with_reducible repeat (first | refine blk_drewN ?_ _ | refine blk_drew ?_ | refine blk_alloc ?_ _)); refine blk_far ?_ NB192_243.out _; (with_reducible repeat (first | refine blk_drewN ?_ _ | refine blk_drew ?_ | refine blk_alloc ?_ _)); refine blk_far ?_ NB192_243.out _; (with_reducible repeat (first | refine blk_drewN ?_ _ | refine blk_drew ?_ | refine blk_alloc ?_ _)); refine blk_far ?_ NB192_243.out _; (with_reducible repeat (first | refine blk_drewN ?_ _ | refine blk_drew ?_ | refine blk_alloc ?_ _)); exact BK192.out) hb); have n11_ := Aside0.mk (blk_below (g := gb198) (o := .cells #[.int .i64 t193, .int .i64 t194, .slice Ao74 t222.length co74] 34 (0, 0)) (by (with_reducible repeat (first | refine blk_drewN ?_ _ | refine blk_drew ?_ | refine blk_alloc ?_ _)); refine blk_far ?_ NB198_243.out _; (with_reducible repeat (first | refine blk_drewN ?_ _ | refine blk_drew ?_ | refine blk_alloc ?_ _)); refine blk_far ?_ NB198_243.out _; (with_reducible repeat (first | refine blk_drewN ?_ _ | refine blk_drew ?_ | refine blk_alloc ?_ _)); refine blk_far ?_ NB198_243.out _; (with_reducible repeat (first | refine blk_drewN ?_ _ | refine blk_drew ?_ | refine blk_alloc ?_ _)); refine blk_far ?_ NB198_243.out _; (with_reducible repeat (first | refine blk_drewN ?_ _ | refine blk_drew ?_ | refine blk_alloc ?_ _)); exact BK198.out) hb); have n12_ := Aside0.mk (blk_below (g := gb205) (o := .cells #[.int .i64 t199, .int .i64 t200, .int .i64 t201, .slice Ao84 t202.length co84] 36 (0, 0)) (by (with_reducible repeat (first | refine blk_drewN ?_ _ | refine blk_drew ?_ | refine blk_alloc ?_ _)); refine blk_far ?_ NB205_243.out _; (with_reducible repeat (first | refine blk_drewN ?_ _ | refine blk_drew ?_ | refine blk_alloc ?_ _)); refine blk_far ?_ NB205_243.out _; (with_reducible repeat (first | refine blk_drewN ?_ _ | refine blk_drew ?_ | refine blk_alloc ?_ _)); refine blk_far ?_ NB205_243.out _; (with_reducible repeat (first | refine blk_drewN ?_ _ | refine blk_drew ?_ | refine blk_alloc ?_ _)); refine blk_far ?_ NB205_243.out _; (with_reducible repeat (first | refine blk_drewN ?_ _ | refine blk_drew ?_ | refine blk_alloc ?_ _)); exact BK205.out) hb); have n13_ := Aside0.mk (blk_below (g := gb243) (o := .cells #[.int .i64 t237, .int .i64 t238, .int .i64 t239, .slice Ao192 t240.length co192] 36 (0, 0)) (by (with_reducible repeat (first | refine blk_drewN ?_ _ | refine blk_drew ?_ | refine blk_alloc ?_ _)); refine blk_put (cs := #[.int .i64 t237, .int .i64 t238, .int .i64 t239, .slice none 0 0]) ?_ 3 _ rfl; (with_reducible repeat (first | refine blk_drewN ?_ _ | refine blk_drew ?_ | refine blk_alloc ?_ _)); refine blk_put (cs := #[.int .i64 t237, .int .i64 t238, .int .i64 0, .slice none 0 0]) ?_ 2 _ rfl; (with_reducible repeat (first | refine blk_drewN ?_ _ | refine blk_drew ?_ | refine blk_alloc ?_ _)); refine blk_put (cs := #[.int .i64 t237, .int .i64 0, .int .i64 0, .slice none 0 0]) ?_ 1 _ rfl; (with_reducible repeat (first | refine blk_drewN ?_ _ | refine blk_drew ?_ | refine blk_alloc ?_ _)); refine blk_put (cs := #[.int .i64 0, .int .i64 0, .int .i64 0, .slice none 0 0]) ?_ 0 _ rfl; (with_reducible repeat (first | refine blk_drewN ?_ _ | refine blk_drew ?_ | refine blk_alloc ?_ _)); exact BK243.out) hb); have n14_ := Aside0.mk (below_step (by repeat (first | (with_reducible first | exact HB.out | apply below_alloc | apply pw_below_drewN | apply below_drew1 | refine below_set ?_ GE166.out | refine below_set ?_ GE167.out | refine below_set ?_ GE186.out | refine below_set ?_ GE192.out | refine below_set ?_ GE198.out | refine below_set ?_ GE205.out | refine below_set ?_ GE243.out) | exact HB.out)) hb); clear HO_187003; clear HO_193002; clear HO_199002; clear HO_206003; clear HO231; clear HO236; clear HO242; clear BK166; clear BK167; clear BK186; clear BK192; clear BK198; clear BK205; clear BK243; clear HB; have HO_187003 := n0_; have HO_193002 := n1_; have HO_199002 := n2_; have HO_206003 := n3_; have HO231 := n4_; have HO236 := n5_; have HO242 := n6_; have BK166 := n7_; have BK167 := n8_; have BK186 := n9_; have BK192 := n10_; have BK198 := n11_; have BK205 := n12_; have BK243 := n13_; have HB := n14_; clear n0_ n1_ n2_ n3_ n4_ n5_ n6_ n7_ n8_ n9_ n10_ n11_ n12_ n13_ n14_; (try clear hb); (try clear hb2); (try clear hk); (try clear hi); have hcz207_0 : w206.cell? ⟨gb205, 0, none⟩ = some (.int .i64 t199) := (blk_cell BK205.out 0).trans rfl; have hcz207_1 : w206.cell? ⟨gb205, 1, none⟩ = some (.int .i64 t200) := (blk_cell BK205.out 1).trans rfl; have hcz207_2 : w206.cell? ⟨gb205, 2, none⟩ = some (.int .i64 t201) := (blk_cell BK205.out 2).trans rfl; have hcz207_3 : w206.cell? ⟨gb205, 3, none⟩ = some (.slice Ao84 t202.length co84) := (blk_cell BK205.out 3).trans rfl; have hfz207_0 := blk_frozen BK205.out 0; have hfz207_1 := blk_frozen BK205.out 1; have hfz207_2 := blk_frozen BK205.out 2; have hfz207_3 := blk_frozen BK205.out 3) | ((with_reducible refine gate_callee (f := 25) rfl ?_); refine goesL_ (some 86) rfl rfl Try.func25 (by kernel_rfl) rfl #[.agg #[.int .i64 t199, .int .i64 t200, .int .i64 t201, .slice Ao84 t225.length co84], .int .i64 1] rfl (by (try simp only [List.map_toArray, List.map_cons, List.map_nil]); first | done | (rw [show t225.length = t202.length from (Kd.R_reads' HO_206003.out).1.symm] <;> rfl) | rfl | (simp only [List.length_drop, List.length_take]; rfl)) ?_; (with_reducible refine (laws_heldMatrixResult.calls kj34 t199 t200 t201 _ _ t225 1 t226 _ ?side1 ?side2 A132.out).mono ?_); (case side1 => repeat (first | exact (Kd.R_reads' HO_206003.out).2.2 | (with_reducible refine Kd.C_alloc ?_ _) | (with_reducible refine Kd.C_drewN ?_ _) | (with_reducible refine Kd.C_drew ?_))); (case side2 => rw [show t225.length = t202.length from (Kd.R_reads' HO_206003.out).1.symm]; exact (Kd.R_reads' HO_206003.out).2.1); rintro e w208 ⟨rfl, hb⟩; refine ⟨_, rfl, ?_⟩; have n0_ := Aside0.mk (Kd.R_below HO_187003.out hb); have n1_ := Aside0.mk (Kd.R_below HO_193002.out hb); have n2_ := Aside0.mk (Kd.R_below HO_199002.out hb); have n3_ := Aside0.mk (Kd.R_below HO_206003.out hb); have n4_ := Aside0.mk (Kd.R_below HO231.out hb); have n5_ := Aside0.mk (Kd.R_below HO236.out hb); have n6_ := Aside0.mk (Kd.R_below HO242.out hb); have n7_ := Aside0.mk (blk_below BK166.out hb); have n8_ := Aside0.mk (blk_below BK167.out hb); have n9_ := Aside0.mk (blk_below BK186.out hb); have n10_ := Aside0.mk (blk_below BK192.out hb); have n11_ := Aside0.mk (blk_below BK198.out hb); have n12_ := Aside0.mk (blk_below BK205.out hb); have n13_ := Aside0.mk (blk_below BK243.out hb); have n14_ := Aside0.mk (below_step HB.out hb); clear HO_187003; clear HO_193002; clear HO_199002; clear HO_206003; clear HO231; clear HO236; clear HO242; clear BK166; clear BK167; clear BK186; clear BK192; clear BK198; clear BK205; clear BK243; clear HB; have HO_187003 := n0_; have HO_193002 := n1_; have HO_199002 := n2_; have HO_206003 := n3_; have HO231 := n4_; have HO236 := n5_; have HO242 := n6_; have BK166 := n7_; have BK167 := n8_; have BK186 := n9_; have BK192 := n10_; have BK198 := n11_; have BK205 := n12_; have BK243 := n13_; have HB := n14_; clear n0_ n1_ n2_ n3_ n4_ n5_ n6_ n7_ n8_ n9_ n10_ n11_ n12_ n13_ n14_; (try clear hb); (try clear hb2); (try clear hk); (try clear hi)))
              go_ret
              exact ⟨by first | rfl | (simp [errW_none, errW_some] <;> rfl) | (simp [*, errW_none, errW_some] <;> rfl), by repeat (first | (with_reducible first | exact HB.out | apply below_alloc | apply pw_below_drewN | apply below_drew1 | refine below_set ?_ GE166.out | refine below_set ?_ GE167.out | refine below_set ?_ GE186.out | refine below_set ?_ GE192.out | refine below_set ?_ GE198.out | refine below_set ?_ GE205.out | refine below_set ?_ GE243.out) | exact HB.out)⟩
             ·exact absurd (beq_iff_eq.mp c126b0) c171
           ·replace c131 := Bool.eq_false_iff.mpr c131
            subst c131
            have H1 : (some false) = some true := by rw [if_neg (show ¬ (false = true) by decide)] at H; exact H
            clear H
            have H := H1
            clear H1
            exact absurd (Option.some.inj H) (by decide)
          ·rw [if_neg c126] at H
           have c126b0 : (t226 == t224) = false := beq_eq_false_iff_ne.mpr c126
           have c126b1 : (t226 != t224) = true := bne_iff_ne.mpr c126
           exact absurd (Option.some.inj H) (by decide)
     ·replace c32 := Bool.eq_false_iff.mpr c32
      subst c32
      have H1 : (some false) = some true := by rw [if_neg (show ¬ (false = true) by decide)] at H; exact H
      clear H
      have H := H1
      clear H1
      exact absurd (Option.some.inj H) (by decide)
    ·replace c29 := Bool.eq_false_iff.mpr c29
     subst c29
     have H1 : (some false) = some true := by rw [if_neg (show ¬ (false = true) by decide)] at H; exact H
     clear H
     have H := H1
     clear H1
     exact absurd (Option.some.inj H) (by decide)
   ·replace c26 := Bool.eq_false_iff.mpr c26
    subst c26
    have H1 : (some false) = some true := by rw [if_neg (show ¬ (false = true) by decide)] at H; exact H
    clear H
    have H := H1
    clear H1
    exact absurd (Option.some.inj H) (by decide)
end Go.Proofs.Ytcpmlelejlmpdaa.QFnExactMatMul
