-- A text of this session, printed by a program of its own (wip/tools: xpatch.py, xprint.sh, mkq.py). No condition.
import Derived.Test.YtepnjhmdcaolkaaDoorQFnExactWritePolicyx0
import Derived.Test.YtepnjhmdcaolkaaDoorQFnExactWritePolicyx1
import Derived.Test.YtepnjhmdcaolkaaDoorQFnExactWritePolicyx5
import Derived.Test.YtepnjhmdcaolkaaDoorQFnExactWritePolicyx6
import Derived.Test.YtepnjhmdcaolkaaDoorQFnExactWritePolicyx9
import Derived.Test.YtepnjhmdcaolkaaDoorQFnExactWritePolicyx10
namespace Go.Proofs.YtepnjhmdcaolkaaDoor.QFnExactWritePolicy
open Go.RowKit Go.Proofs.YtepnjhmdcaolkaaDoorW.PrintWords Go.Proofs.YtepnjhmdcaolkaaDoorW.PrintLast Go.Proofs.YtepnjhmdcaolkaaDoorW.PrintMore
attribute [local go_sem] max2_int min2_int max_two min_two max_three min_three max_four min_four   -- for this text's walks alone
set_option linter.unusedVariables false
set_option linter.unusedSimpArgs false

/-! ### laws_eqStatementS: function 15 -/
def laws_eqStatementS.l0 : Nat → List (S58) → List (S58) → Int → Option (Bool)
  | 0, _, _, _ => none
  | k + 1, x0, x1, x5 => if x5 < (x0.length : Int) then (if 0 ≤ x5 then (if x5 < (x1.length : Int) then ((laws_eqStatement.f k ((rd_T58 x0 x5).f0) ((rd_T58 x0 x5).f1) ((rd_T58 x0 x5).f2) ((rd_T58 x0 x5).f3) ((rd_T58 x0 x5).f4) ((rd_T58 x1 x5).f0) ((rd_T58 x1 x5).f1) ((rd_T58 x1 x5).f2) ((rd_T58 x1 x5).f3) ((rd_T58 x1 x5).f4)).bind fun t251 => (if t251 = true then (laws_eqStatementS.l0 k x0 x1 (wrap64 (x5 + 1))) else (some false))) else (none)) else (none)) else (some true)
def laws_eqStatementS.f (k : Nat) (l0 : List (S58)) (l1 : List (S58)) : Option (Bool) := if (l0.length : Int) = (l1.length : Int) then (laws_eqStatementS.l0 k l0 l1 0) else (some false)
theorem laws_eqStatementS.mono_l : ∀ k, (∀ y0 y1 y2, LeO (laws_eqStatementS.l0 k y0 y1 y2) (laws_eqStatementS.l0 (k + 1) y0 y1 y2))
  | 0 => fun _ _ _ r h => by simp [laws_eqStatementS.l0] at h
  | k + 1 => by
    have ih0 := laws_eqStatementS.mono_l k
    · intro y0 y1 y2
      unfold laws_eqStatementS.l0
      repeat' first
      | (with_reducible exact ih0 _ _ _)
      | (with_reducible exact laws_eqStatement.mono _ _ _ _ _ _ _ _ _ _ _)
      | (with_reducible exact LeO.refl _)
      | (with_reducible exact LeO.none _)
      | (with_reducible refine LeO.ite ?_ ?_)
      | (with_reducible refine LeO.bind ?_ (fun _ => ?_))
      | exact ih0 _ _ _
      | exact laws_eqStatement.mono _ _ _ _ _ _ _ _ _ _ _
      | exact LeO.none _
      | refine LeO.ite ?_ ?_
      | refine LeO.bind ?_ (fun _ => ?_)
theorem laws_eqStatementS.mono : ∀ a0 a1 k, LeO (laws_eqStatementS.f k a0 a1) (laws_eqStatementS.f (k + 1) a0 a1) := by
  intro a0 a1 k
  have ih0 := laws_eqStatementS.mono_l k
  unfold laws_eqStatementS.f
  repeat' first
      | (with_reducible exact ih0 _ _ _)
      | (with_reducible exact laws_eqStatement.mono _ _ _ _ _ _ _ _ _ _ _)
      | (with_reducible exact LeO.refl _)
      | (with_reducible exact LeO.none _)
      | (with_reducible refine LeO.ite ?_ ?_)
      | (with_reducible refine LeO.bind ?_ (fun _ => ?_))
      | exact ih0 _ _ _
      | exact laws_eqStatement.mono _ _ _ _ _ _ _ _ _ _ _
      | exact LeO.none _
      | refine LeO.ite ?_ ?_
      | refine LeO.bind ?_ (fun _ => ?_)
def laws_eqStatementS.T6 : Bool × List (List Nat × List Nat) := (true, [([], []), ([], []), ([0, 1], [0, 1]), ([2], [2]), ([], []), ([], []), ([4, 5], [4, 5]), ([6], [6]), ([3, 7], [3, 7]), ([8], [8])])
def laws_eqStatementS.B6 : List Nat := [0, 0, 3, 7, 0, 0, 48, 112, 255, 511]
theorem laws_eqStatementS.tab6 : rtab .any (opsOf Tryd.f15 6) = laws_eqStatementS.T6 := by kernel_rfl
theorem laws_eqStatementS.bits6 : waitsOk laws_eqStatementS.T6.2 laws_eqStatementS.B6 = true := by kernel_rfl
set_option maxHeartbeats 8000000 in
set_option maxRecDepth 100000 in
theorem laws_eqStatementS.calls (k : Nat) (A0 : Option Addr) (c0 : Nat) (l0 : List (S58)) (A1 : Option Addr) (c1 : Nat) (l1 : List (S58)) (r : Bool) (w : World) (hr0 : Kd.C k58 w A0 l0.length l0) (hc0 : l0.length ≤ c0) (hr1 : Kd.C k58 w A1 l1.length l1) (hc1 : l1.length ≤ c1) (h : laws_eqStatementS.f k l0 l1 = some r) :
  Calls Tryd.prog 15 #[.slice A0 l0.length c0, .slice A1 l1.length c1] w fun e w' => e = .returned (.bool r) ∧ Below w.heap.size w w' := by
 have hu58 := Tryd.underlying58
 have HR0 := Aside0.mk hr0
 have HC0 := Aside0.mk hc0
 clear hr0 hc0
 have HR1 := Aside0.mk hr1
 have HC1 := Aside0.mk hc1
 clear hr1 hc1
 have HB := Aside0.mk (Below.refl w.heap.size w)
 have H : (if (l0.length : Int) = (l1.length : Int) then (laws_eqStatementS.l0 k l0 l1 0) else (some false)) = some r := h
 clear h
 by_cases c3 : (l0.length : Int) = (l1.length : Int)
 rotate_left
 ·
  rw [if_neg c3] at H
  have c3b0 : ((l0.length : Int) == (l1.length : Int)) = false := beq_eq_false_iff_ne.mpr c3
  have c3b1 : ((l0.length : Int) != (l1.length : Int)) = true := bne_iff_ne.mpr c3
  have c3b2 : (l0.length == l1.length) = false := by first | simpa using c3 | (simp at c3 ⊢; omega)
  obtain rfl := Option.some.inj H
  go_enter Tryd.func15, Tryd.ntmps15
  go_wp2
  go_ret
  exact ⟨by first | rfl | (simp [errW_none, errW_some] <;> rfl) | (simp [*, errW_none, errW_some] <;> rfl), by first | exact Grow.bl HB.out | exact HB.out⟩
 rw [if_pos c3] at H
 have c3b0 : ((l0.length : Int) == (l1.length : Int)) = true := beq_iff_eq.mpr c3
 have c3b1 : ((l0.length : Int) != (l1.length : Int)) = false := bne_eq_false_iff_eq.mpr c3
 have c3b2 : (l0.length == l1.length) = true := by first | simpa using c3 | (simp at c3 ⊢; omega)
 clear c3
 have H' := Aside0.mk H
 clear H
 go_enter Tryd.func15, Tryd.ntmps15
 go_wp2
 go_loopg [5] k (fun kq v5 w' => ∃ (x5_1 : Int), v5 = .int .i64 x5_1 ∧ Aside0 (laws_eqStatementS.l0 kq l0 l1 x5_1 = some r) ∧ Aside0 (kq ≤ k) ∧ Aside0 (Below w.heap.size w w'))
 case atStart => exact ⟨(0), (by first | rfl | (simp; done) | (simp [*]; done)), H', ⟨Nat.le_refl _⟩, ⟨by first | exact Grow.bl HB.out | exact HB.out⟩⟩
 case round =>
  clear H'
  try clear c1
  try clear p2
  try clear c3
  try clear c3b0
  try clear c3b1
  try clear c3b2
  obtain ⟨x5_1, rfl, HA, HK1, HB⟩ := hrel
  cases gk with
  | zero => exact absurd HA.out (by simp [laws_eqStatementS.l0])
  | succ k1 =>
   have H := HA.out
   clear HA
   simp only [laws_eqStatementS.l0] at H
   by_cases c4 : x5_1 < (l0.length : Int)
   rotate_left
   ·
    rw [if_neg c4] at H
    have c4b0 : decide (x5_1 < (l0.length : Int)) = false := decide_eq_false c4
    clear c4
    obtain rfl := Option.some.inj H
    go_wp2
    go_ret
    exact ⟨by first | rfl | (simp [errW_none, errW_some] <;> rfl) | (simp [*, errW_none, errW_some] <;> rfl), by first | exact Grow.bl HB.out | exact HB.out⟩
   rw [if_pos c4] at H
   have c4b0 : decide (x5_1 < (l0.length : Int)) = true := decide_eq_true c4
   clear c4
   by_cases c5 : 0 ≤ x5_1
   rotate_left
   ·
    rw [if_neg c5] at H
    exact absurd H (by simp)
   rw [if_pos c5] at H
   have c5b0 : decide (0 ≤ x5_1) = true := decide_eq_true c5
   clear c5
   by_cases c6 : x5_1 < (l1.length : Int)
   rotate_left
   ·
    rw [if_neg c6] at H
    exact absurd H (by simp)
   rw [if_pos c6] at H
   have c6b0 : decide (x5_1 < (l1.length : Int)) = true := decide_eq_true c6
   clear c6
   replace H := Option.bind_eq_some_iff.mp H
   obtain ⟨t251, A70, H⟩ := H
   replace H : (if t251 = true then (laws_eqStatementS.l0 k1 l0 l1 (wrap64 (x5_1 + 1))) else (some false)) = some r := H
   have A7 := Aside0.mk A70
   clear A70
   by_cases c8 : t251 = true
   rotate_left
   ·
    replace c8 := Bool.eq_false_iff.mpr c8
    subst c8
    have H1 : (some false) = some r := by rw [if_neg (show ¬ (false = true) by decide)] at H; exact H
    clear H
    have H := H1
    clear H1
    obtain rfl := Option.some.inj H
    try go_wp2
    have n0_ := Aside0.mk (below_drew1 HB.out)
    clear HB
    have HB := n0_
    clear n0_
    have p249 : 0 ≤ (x5_1 : Int) := of_decide_eq_true (by first | (with_reducible assumption) | assumption)
    have q249 : x5_1 < (l0.length : Int) := of_decide_eq_true (by first | (with_reducible assumption) | assumption)
    obtain ⟨ad249, A249_1, c249_1, A249_2, c249_2, A249_3, c249_3, A249_4, c249_4, e249, hx249_0, hx249_1, hx249_2, hx249_3, hx249_4, hl249_1, hi249_1, hl249_2, hi249_2, hl249_3, hi249_3, hl249_4, hi249_4⟩ := at_T58 HR0.out x5_1 p249 q249
    have hw249_4 := hx249_4
    have hw249_3 := hx249_3
    have hw249_2 := hx249_2
    have hw249_1 := hx249_1
    have hw249_0 := hx249_0
    cases e249
    replace hx249_0 := Grow.bc HB.out hx249_0
    replace hx249_1 := Grow.bc HB.out hx249_1
    replace hx249_2 := Grow.bc HB.out hx249_2
    replace hx249_3 := Grow.bc HB.out hx249_3
    replace hx249_4 := Grow.bc HB.out hx249_4
    have HR249_1 := Aside0.mk hi249_1
    have HC249_1 := Aside0.mk hl249_1
    clear hi249_1 hl249_1
    have HR249_2 := Aside0.mk hi249_2
    have HC249_2 := Aside0.mk hl249_2
    clear hi249_2 hl249_2
    have HR249_3 := Aside0.mk hi249_3
    have HC249_3 := Aside0.mk hl249_3
    clear hi249_3 hl249_3
    have HR249_4 := Aside0.mk hi249_4
    have HC249_4 := Aside0.mk hl249_4
    clear hi249_4 hl249_4
    replace p249 := eq_true p249
    replace q249 := eq_true q249
    have p250 : 0 ≤ (x5_1 : Int) := of_decide_eq_true (by first | (with_reducible assumption) | assumption)
    have q250 : x5_1 < (l1.length : Int) := of_decide_eq_true (by first | (with_reducible assumption) | assumption)
    obtain ⟨ad250, A250_1, c250_1, A250_2, c250_2, A250_3, c250_3, A250_4, c250_4, e250, hx250_0, hx250_1, hx250_2, hx250_3, hx250_4, hl250_1, hi250_1, hl250_2, hi250_2, hl250_3, hi250_3, hl250_4, hi250_4⟩ := at_T58 HR1.out x5_1 p250 q250
    have hw250_4 := hx250_4
    have hw250_3 := hx250_3
    have hw250_2 := hx250_2
    have hw250_1 := hx250_1
    have hw250_0 := hx250_0
    cases e250
    replace hx250_0 := Grow.bc HB.out hx250_0
    replace hx250_1 := Grow.bc HB.out hx250_1
    replace hx250_2 := Grow.bc HB.out hx250_2
    replace hx250_3 := Grow.bc HB.out hx250_3
    replace hx250_4 := Grow.bc HB.out hx250_4
    have HR250_1 := Aside0.mk hi250_1
    have HC250_1 := Aside0.mk hl250_1
    clear hi250_1 hl250_1
    have HR250_2 := Aside0.mk hi250_2
    have HC250_2 := Aside0.mk hl250_2
    clear hi250_2 hl250_2
    have HR250_3 := Aside0.mk hi250_3
    have HC250_3 := Aside0.mk hl250_3
    clear hi250_3 hl250_3
    have HR250_4 := Aside0.mk hi250_4
    have HC250_4 := Aside0.mk hl250_4
    clear hi250_4 hl250_4
    replace p250 := eq_true p250
    replace q250 := eq_true q250
    refine start_ (n := 10) (S := fun w' => w'.cell? (ad249.add ((x5_1).toNat * 5)) = some (.int .i64 ((rd_T58 l0 x5_1).f0)) ∧ w'.cell? ⟨(ad249.add ((x5_1).toNat * 5)).block, (ad249.add ((x5_1).toNat * 5)).off + 1, none⟩ = some (.slice A249_1 ((rd_T58 l0 x5_1).f1).length c249_1) ∧ w'.cell? ⟨(ad249.add ((x5_1).toNat * 5)).block, (ad249.add ((x5_1).toNat * 5)).off + 2, none⟩ = some (.slice A249_2 ((rd_T58 l0 x5_1).f2).length c249_2) ∧ w'.cell? ⟨(ad249.add ((x5_1).toNat * 5)).block, (ad249.add ((x5_1).toNat * 5)).off + 3, none⟩ = some (.slice A249_3 ((rd_T58 l0 x5_1).f3).length c249_3) ∧ w'.cell? ⟨(ad249.add ((x5_1).toNat * 5)).block, (ad249.add ((x5_1).toNat * 5)).off + 4, none⟩ = some (.slice A249_4 ((rd_T58 l0 x5_1).f4).length c249_4) ∧ w'.cell? (ad250.add ((x5_1).toNat * 5)) = some (.int .i64 ((rd_T58 l1 x5_1).f0)) ∧ w'.cell? ⟨(ad250.add ((x5_1).toNat * 5)).block, (ad250.add ((x5_1).toNat * 5)).off + 1, none⟩ = some (.slice A250_1 ((rd_T58 l1 x5_1).f1).length c250_1) ∧ w'.cell? ⟨(ad250.add ((x5_1).toNat * 5)).block, (ad250.add ((x5_1).toNat * 5)).off + 2, none⟩ = some (.slice A250_2 ((rd_T58 l1 x5_1).f2).length c250_2) ∧ w'.cell? ⟨(ad250.add ((x5_1).toNat * 5)).block, (ad250.add ((x5_1).toNat * 5)).off + 3, none⟩ = some (.slice A250_3 ((rd_T58 l1 x5_1).f3).length c250_3) ∧ w'.cell? ⟨(ad250.add ((x5_1).toNat * 5)).block, (ad250.add ((x5_1).toNat * 5)).off + 4, none⟩ = some (.slice A250_4 ((rd_T58 l1 x5_1).f4).length c250_4)) (ds := []) zf0 (by kernel_rfl) rfl rfl ⟨((HB.out.cell (World.block_lt_of_cell? w _ hw249_0)).trans hw249_0), ((HB.out.cell (World.block_lt_of_cell? w _ hw249_1)).trans hw249_1), ((HB.out.cell (World.block_lt_of_cell? w _ hw249_2)).trans hw249_2), ((HB.out.cell (World.block_lt_of_cell? w _ hw249_3)).trans hw249_3), ((HB.out.cell (World.block_lt_of_cell? w _ hw249_4)).trans hw249_4), ((HB.out.cell (World.block_lt_of_cell? w _ hw250_0)).trans hw250_0), ((HB.out.cell (World.block_lt_of_cell? w _ hw250_1)).trans hw250_1), ((HB.out.cell (World.block_lt_of_cell? w _ hw250_2)).trans hw250_2), ((HB.out.cell (World.block_lt_of_cell? w _ hw250_3)).trans hw250_3), ((HB.out.cell (World.block_lt_of_cell? w _ hw250_4)).trans hw250_4)⟩ (fun hHeld => ?_); refine with_tabW laws_eqStatementS.tab6 laws_eqStatementS.bits6 (fun HT_ HW_ => ?_)
    generalize wr.drew = w11 at HB HR249_1 HR249_2 HR249_3 HR249_4 HR250_1 HR250_2 HR250_3 HR250_4 hx249_0 hx249_1 hx249_2 hx249_3 hx249_4 hx250_0 hx250_1 hx250_2 hx250_3 hx250_4 hHeld ⊢
    refine Cap.pu (v := ?_) (a' := ?_) 0 (some 17) zf1 HT_ rfl rfl (by kernel_rfl) (fun _ _ _ h => h) (Or.inl ⟨by rfl, ?_⟩) ?_ ?_; rotate_left; intro w'; go_simp; with_reducible rfl; rotate_left; simp only [Cap.pz]; rfl
    refine Cap.pu (v := ?_) (a' := ?_) 1 (some 18) zf2 HT_ rfl rfl (by kernel_rfl) (fun _ _ _ h => h) (Or.inl ⟨by rfl, ?_⟩) ?_ ?_; rotate_left; intro w'; go_simp; with_reducible rfl; rotate_left; simp only [Cap.pz]; rfl
    refine Cap.pu (v := ?_) (a' := ?_) 2 (some 19) zf3 HT_ rfl rfl (by kernel_rfl) (fun _ _ _ h => h) (Or.inl ⟨by rfl, ?_⟩) ?_ ?_; rotate_left; intro w'; go_simp; with_reducible rfl; rotate_left; simp only [Cap.pz]; rfl
    refine Cap.pu (v := ?_) (a' := ?_) 4 (some 21) zf4 HT_ rfl rfl (by kernel_rfl) (fun _ _ _ h => h) (Or.inl ⟨by rfl, ?_⟩) ?_ ?_; rotate_left; intro w'; go_simp; with_reducible rfl; rotate_left; simp only [Cap.pz]; rfl
    refine Cap.pu (v := ?_) (a' := ?_) 5 (some 22) zf5 HT_ rfl rfl (by kernel_rfl) (fun _ _ _ h => h) (Or.inl ⟨by rfl, ?_⟩) ?_ ?_; rotate_left; intro w'; go_simp; with_reducible rfl; rotate_left; simp only [Cap.pz]; rfl
    refine Cap.pu (v := ?_) (a' := ?_) 6 (some 23) zf6 HT_ rfl rfl (by kernel_rfl) (fun _ _ _ h => h) (Or.inl ⟨by rfl, ?_⟩) ?_ ?_; rotate_left; intro w'; go_simp; with_reducible rfl; rotate_left; simp only [Cap.pz]; rfl
    refine take_ (i := 3) (N := some 20) (v := ?_) (a' := ?_) zf7 rfl rfl (take_ofW HT_.out HW_.out (by kernel_rfl)) (fun _ _ _ h => h) (Or.inl ⟨by rfl, ?_⟩) hHeld ?_ ?_; rotate_left; rintro w' ⟨s0, s1, s2, s3, s4, s5, s6, s7, s8, s9⟩; go_simp; with_reducible rfl; rotate_left; simp only [Cap.pz]; rfl
    refine take_ (i := 7) (N := some 24) (v := ?_) (a' := ?_) zf8 rfl rfl (take_ofW HT_.out HW_.out (by kernel_rfl)) (fun _ _ _ h => h) (Or.inl ⟨by rfl, ?_⟩) hHeld ?_ ?_; rotate_left; rintro w' ⟨s0, s1, s2, s3, s4, s5, s6, s7, s8, s9⟩; go_simp; with_reducible rfl; rotate_left; simp only [Cap.pz]; rfl
    refine one_ (i := 8) (N := some 25) zf9 rfl rfl (one_of HT_.out (by kernel_rfl)) (by decide) (fun K hK => ?_)
    refine goes_ Tryd.func38 (by kernel_rfl) rfl #[.agg #[.int .i64 ((rd_T58 l0 x5_1).f0), .slice A249_1 ((rd_T58 l0 x5_1).f1).length c249_1, .slice A249_2 ((rd_T58 l0 x5_1).f2).length c249_2, .slice A249_3 ((rd_T58 l0 x5_1).f3).length c249_3, .slice A249_4 ((rd_T58 l0 x5_1).f4).length c249_4], .agg #[.int .i64 ((rd_T58 l1 x5_1).f0), .slice A250_1 ((rd_T58 l1 x5_1).f1).length c250_1, .slice A250_2 ((rd_T58 l1 x5_1).f2).length c250_2, .slice A250_3 ((rd_T58 l1 x5_1).f3).length c250_3, .slice A250_4 ((rd_T58 l1 x5_1).f4).length c250_4]] (by rfl) rfl rfl (by (try simp only [List.map_toArray, List.map_cons, List.map_nil]); first | done | rfl | (simp only [List.length_drop, List.length_take]; rfl)) ?_
    with_reducible refine (laws_eqStatement.calls k1 ((rd_T58 l0 x5_1).f0) _ _ ((rd_T58 l0 x5_1).f1) _ _ ((rd_T58 l0 x5_1).f2) _ _ ((rd_T58 l0 x5_1).f3) _ _ ((rd_T58 l0 x5_1).f4) ((rd_T58 l1 x5_1).f0) _ _ ((rd_T58 l1 x5_1).f1) _ _ ((rd_T58 l1 x5_1).f2) _ _ ((rd_T58 l1 x5_1).f3) _ _ ((rd_T58 l1 x5_1).f4) false _ ?side1 ?side2 ?side3 ?side4 ?side5 ?side6 ?side7 ?side8 ?side9 ?side10 ?side11 ?side12 ?side13 ?side14 ?side15 ?side16 A7.out).mono ?_
    (case side1 => first | exact Grow.cb HR249_1.out HB.out | exact Kd.C_below HR249_1.out HB.out)
    (case side2 => exact HC249_1.out)
    (case side3 => first | exact Grow.cb HR249_2.out HB.out | exact Kd.C_below HR249_2.out HB.out)
    (case side4 => exact HC249_2.out)
    (case side5 => first | exact Grow.cb HR249_3.out HB.out | exact Kd.C_below HR249_3.out HB.out)
    (case side6 => exact HC249_3.out)
    (case side7 => first | exact Grow.cb HR249_4.out HB.out | exact Kd.C_below HR249_4.out HB.out)
    (case side8 => exact HC249_4.out)
    (case side9 => first | exact Grow.cb HR250_1.out HB.out | exact Kd.C_below HR250_1.out HB.out)
    (case side10 => exact HC250_1.out)
    (case side11 => first | exact Grow.cb HR250_2.out HB.out | exact Kd.C_below HR250_2.out HB.out)
    (case side12 => exact HC250_2.out)
    (case side13 => first | exact Grow.cb HR250_3.out HB.out | exact Kd.C_below HR250_3.out HB.out)
    (case side14 => exact HC250_3.out)
    (case side15 => first | exact Grow.cb HR250_4.out HB.out | exact Kd.C_below HR250_4.out HB.out)
    (case side16 => exact HC250_4.out)
    rintro e w12 ⟨rfl, hb⟩
    refine ⟨_, rfl, ?_⟩
    have n0_ := Aside0.mk (below_step (by first | exact Grow.bl HB.out | exact HB.out) hb)
    clear HB
    have HB := n0_
    clear n0_
    (try clear hb)
    (try clear hb2)
    (try clear hk)
    (try clear hi)
    refine hK.out _ _ ⟨((HB.out.cell (World.block_lt_of_cell? w _ hw249_0)).trans hw249_0), ((HB.out.cell (World.block_lt_of_cell? w _ hw249_1)).trans hw249_1), ((HB.out.cell (World.block_lt_of_cell? w _ hw249_2)).trans hw249_2), ((HB.out.cell (World.block_lt_of_cell? w _ hw249_3)).trans hw249_3), ((HB.out.cell (World.block_lt_of_cell? w _ hw249_4)).trans hw249_4), ((HB.out.cell (World.block_lt_of_cell? w _ hw250_0)).trans hw250_0), ((HB.out.cell (World.block_lt_of_cell? w _ hw250_1)).trans hw250_1), ((HB.out.cell (World.block_lt_of_cell? w _ hw250_2)).trans hw250_2), ((HB.out.cell (World.block_lt_of_cell? w _ hw250_3)).trans hw250_3), ((HB.out.cell (World.block_lt_of_cell? w _ hw250_4)).trans hw250_4)⟩ (fun hHeld => ?_)
    clear hK K
    refine norm_ (a' := ?_) ?_ ?_; rotate_left; show Act.put _ (some 25) _ = _; simp only [Cap.pz]; rfl
    refine Cap.pu (v := ?_) (a' := ?_) 9 (some 26) zf10 HT_ rfl rfl (by kernel_rfl) (fun _ _ _ h => h) (Or.inl ⟨by rfl, ?_⟩) ?_ ?_; rotate_left; intro w'; go_simp; with_reducible rfl; rotate_left; simp only [Cap.pz]; rfl
    refine done_ (done_of HT_.out (by kernel_rfl)) ?_
    try go_wp2
    go_ret
    exact ⟨by first | rfl | (simp [errW_none, errW_some] <;> rfl) | (simp [*, errW_none, errW_some] <;> rfl), by first | exact Grow.bl HB.out | exact HB.out⟩
   subst c8
   have H1 : (laws_eqStatementS.l0 k1 l0 l1 (wrap64 (x5_1 + 1))) = some r := by rw [if_pos rfl] at H; exact H
   clear H
   have H := H1
   clear H1
   have H' := Aside0.mk H
   clear H
   try go_wp2
   have n0_ := Aside0.mk (below_drew1 HB.out)
   clear HB
   have HB := n0_
   clear n0_
   have p249 : 0 ≤ (x5_1 : Int) := of_decide_eq_true (by first | (with_reducible assumption) | assumption)
   have q249 : x5_1 < (l0.length : Int) := of_decide_eq_true (by first | (with_reducible assumption) | assumption)
   obtain ⟨ad249, A249_1, c249_1, A249_2, c249_2, A249_3, c249_3, A249_4, c249_4, e249, hx249_0, hx249_1, hx249_2, hx249_3, hx249_4, hl249_1, hi249_1, hl249_2, hi249_2, hl249_3, hi249_3, hl249_4, hi249_4⟩ := at_T58 HR0.out x5_1 p249 q249
   have hw249_4 := hx249_4
   have hw249_3 := hx249_3
   have hw249_2 := hx249_2
   have hw249_1 := hx249_1
   have hw249_0 := hx249_0
   cases e249
   replace hx249_0 := Grow.bc HB.out hx249_0
   replace hx249_1 := Grow.bc HB.out hx249_1
   replace hx249_2 := Grow.bc HB.out hx249_2
   replace hx249_3 := Grow.bc HB.out hx249_3
   replace hx249_4 := Grow.bc HB.out hx249_4
   have HR249_1 := Aside0.mk hi249_1
   have HC249_1 := Aside0.mk hl249_1
   clear hi249_1 hl249_1
   have HR249_2 := Aside0.mk hi249_2
   have HC249_2 := Aside0.mk hl249_2
   clear hi249_2 hl249_2
   have HR249_3 := Aside0.mk hi249_3
   have HC249_3 := Aside0.mk hl249_3
   clear hi249_3 hl249_3
   have HR249_4 := Aside0.mk hi249_4
   have HC249_4 := Aside0.mk hl249_4
   clear hi249_4 hl249_4
   replace p249 := eq_true p249
   replace q249 := eq_true q249
   have p250 : 0 ≤ (x5_1 : Int) := of_decide_eq_true (by first | (with_reducible assumption) | assumption)
   have q250 : x5_1 < (l1.length : Int) := of_decide_eq_true (by first | (with_reducible assumption) | assumption)
   obtain ⟨ad250, A250_1, c250_1, A250_2, c250_2, A250_3, c250_3, A250_4, c250_4, e250, hx250_0, hx250_1, hx250_2, hx250_3, hx250_4, hl250_1, hi250_1, hl250_2, hi250_2, hl250_3, hi250_3, hl250_4, hi250_4⟩ := at_T58 HR1.out x5_1 p250 q250
   have hw250_4 := hx250_4
   have hw250_3 := hx250_3
   have hw250_2 := hx250_2
   have hw250_1 := hx250_1
   have hw250_0 := hx250_0
   cases e250
   replace hx250_0 := Grow.bc HB.out hx250_0
   replace hx250_1 := Grow.bc HB.out hx250_1
   replace hx250_2 := Grow.bc HB.out hx250_2
   replace hx250_3 := Grow.bc HB.out hx250_3
   replace hx250_4 := Grow.bc HB.out hx250_4
   have HR250_1 := Aside0.mk hi250_1
   have HC250_1 := Aside0.mk hl250_1
   clear hi250_1 hl250_1
   have HR250_2 := Aside0.mk hi250_2
   have HC250_2 := Aside0.mk hl250_2
   clear hi250_2 hl250_2
   have HR250_3 := Aside0.mk hi250_3
   have HC250_3 := Aside0.mk hl250_3
   clear hi250_3 hl250_3
   have HR250_4 := Aside0.mk hi250_4
   have HC250_4 := Aside0.mk hl250_4
   clear hi250_4 hl250_4
   replace p250 := eq_true p250
   replace q250 := eq_true q250
   refine start_ (n := 10) (S := fun w' => w'.cell? (ad249.add ((x5_1).toNat * 5)) = some (.int .i64 ((rd_T58 l0 x5_1).f0)) ∧ w'.cell? ⟨(ad249.add ((x5_1).toNat * 5)).block, (ad249.add ((x5_1).toNat * 5)).off + 1, none⟩ = some (.slice A249_1 ((rd_T58 l0 x5_1).f1).length c249_1) ∧ w'.cell? ⟨(ad249.add ((x5_1).toNat * 5)).block, (ad249.add ((x5_1).toNat * 5)).off + 2, none⟩ = some (.slice A249_2 ((rd_T58 l0 x5_1).f2).length c249_2) ∧ w'.cell? ⟨(ad249.add ((x5_1).toNat * 5)).block, (ad249.add ((x5_1).toNat * 5)).off + 3, none⟩ = some (.slice A249_3 ((rd_T58 l0 x5_1).f3).length c249_3) ∧ w'.cell? ⟨(ad249.add ((x5_1).toNat * 5)).block, (ad249.add ((x5_1).toNat * 5)).off + 4, none⟩ = some (.slice A249_4 ((rd_T58 l0 x5_1).f4).length c249_4) ∧ w'.cell? (ad250.add ((x5_1).toNat * 5)) = some (.int .i64 ((rd_T58 l1 x5_1).f0)) ∧ w'.cell? ⟨(ad250.add ((x5_1).toNat * 5)).block, (ad250.add ((x5_1).toNat * 5)).off + 1, none⟩ = some (.slice A250_1 ((rd_T58 l1 x5_1).f1).length c250_1) ∧ w'.cell? ⟨(ad250.add ((x5_1).toNat * 5)).block, (ad250.add ((x5_1).toNat * 5)).off + 2, none⟩ = some (.slice A250_2 ((rd_T58 l1 x5_1).f2).length c250_2) ∧ w'.cell? ⟨(ad250.add ((x5_1).toNat * 5)).block, (ad250.add ((x5_1).toNat * 5)).off + 3, none⟩ = some (.slice A250_3 ((rd_T58 l1 x5_1).f3).length c250_3) ∧ w'.cell? ⟨(ad250.add ((x5_1).toNat * 5)).block, (ad250.add ((x5_1).toNat * 5)).off + 4, none⟩ = some (.slice A250_4 ((rd_T58 l1 x5_1).f4).length c250_4)) (ds := []) zf0 (by kernel_rfl) rfl rfl ⟨((HB.out.cell (World.block_lt_of_cell? w _ hw249_0)).trans hw249_0), ((HB.out.cell (World.block_lt_of_cell? w _ hw249_1)).trans hw249_1), ((HB.out.cell (World.block_lt_of_cell? w _ hw249_2)).trans hw249_2), ((HB.out.cell (World.block_lt_of_cell? w _ hw249_3)).trans hw249_3), ((HB.out.cell (World.block_lt_of_cell? w _ hw249_4)).trans hw249_4), ((HB.out.cell (World.block_lt_of_cell? w _ hw250_0)).trans hw250_0), ((HB.out.cell (World.block_lt_of_cell? w _ hw250_1)).trans hw250_1), ((HB.out.cell (World.block_lt_of_cell? w _ hw250_2)).trans hw250_2), ((HB.out.cell (World.block_lt_of_cell? w _ hw250_3)).trans hw250_3), ((HB.out.cell (World.block_lt_of_cell? w _ hw250_4)).trans hw250_4)⟩ (fun hHeld => ?_); refine with_tabW laws_eqStatementS.tab6 laws_eqStatementS.bits6 (fun HT_ HW_ => ?_)
   generalize wr.drew = w9 at HB HR249_1 HR249_2 HR249_3 HR249_4 HR250_1 HR250_2 HR250_3 HR250_4 hx249_0 hx249_1 hx249_2 hx249_3 hx249_4 hx250_0 hx250_1 hx250_2 hx250_3 hx250_4 hHeld ⊢
   refine Cap.pu (v := ?_) (a' := ?_) 0 (some 17) zf1 HT_ rfl rfl (by kernel_rfl) (fun _ _ _ h => h) (Or.inl ⟨by rfl, ?_⟩) ?_ ?_; rotate_left; intro w'; go_simp; with_reducible rfl; rotate_left; simp only [Cap.pz]; rfl
   refine Cap.pu (v := ?_) (a' := ?_) 1 (some 18) zf2 HT_ rfl rfl (by kernel_rfl) (fun _ _ _ h => h) (Or.inl ⟨by rfl, ?_⟩) ?_ ?_; rotate_left; intro w'; go_simp; with_reducible rfl; rotate_left; simp only [Cap.pz]; rfl
   refine Cap.pu (v := ?_) (a' := ?_) 2 (some 19) zf3 HT_ rfl rfl (by kernel_rfl) (fun _ _ _ h => h) (Or.inl ⟨by rfl, ?_⟩) ?_ ?_; rotate_left; intro w'; go_simp; with_reducible rfl; rotate_left; simp only [Cap.pz]; rfl
   refine Cap.pu (v := ?_) (a' := ?_) 4 (some 21) zf4 HT_ rfl rfl (by kernel_rfl) (fun _ _ _ h => h) (Or.inl ⟨by rfl, ?_⟩) ?_ ?_; rotate_left; intro w'; go_simp; with_reducible rfl; rotate_left; simp only [Cap.pz]; rfl
   refine Cap.pu (v := ?_) (a' := ?_) 5 (some 22) zf5 HT_ rfl rfl (by kernel_rfl) (fun _ _ _ h => h) (Or.inl ⟨by rfl, ?_⟩) ?_ ?_; rotate_left; intro w'; go_simp; with_reducible rfl; rotate_left; simp only [Cap.pz]; rfl
   refine Cap.pu (v := ?_) (a' := ?_) 6 (some 23) zf6 HT_ rfl rfl (by kernel_rfl) (fun _ _ _ h => h) (Or.inl ⟨by rfl, ?_⟩) ?_ ?_; rotate_left; intro w'; go_simp; with_reducible rfl; rotate_left; simp only [Cap.pz]; rfl
   refine take_ (i := 3) (N := some 20) (v := ?_) (a' := ?_) zf7 rfl rfl (take_ofW HT_.out HW_.out (by kernel_rfl)) (fun _ _ _ h => h) (Or.inl ⟨by rfl, ?_⟩) hHeld ?_ ?_; rotate_left; rintro w' ⟨s0, s1, s2, s3, s4, s5, s6, s7, s8, s9⟩; go_simp; with_reducible rfl; rotate_left; simp only [Cap.pz]; rfl
   refine take_ (i := 7) (N := some 24) (v := ?_) (a' := ?_) zf8 rfl rfl (take_ofW HT_.out HW_.out (by kernel_rfl)) (fun _ _ _ h => h) (Or.inl ⟨by rfl, ?_⟩) hHeld ?_ ?_; rotate_left; rintro w' ⟨s0, s1, s2, s3, s4, s5, s6, s7, s8, s9⟩; go_simp; with_reducible rfl; rotate_left; simp only [Cap.pz]; rfl
   refine one_ (i := 8) (N := some 25) zf9 rfl rfl (one_of HT_.out (by kernel_rfl)) (by decide) (fun K hK => ?_)
   refine goes_ Tryd.func38 (by kernel_rfl) rfl #[.agg #[.int .i64 ((rd_T58 l0 x5_1).f0), .slice A249_1 ((rd_T58 l0 x5_1).f1).length c249_1, .slice A249_2 ((rd_T58 l0 x5_1).f2).length c249_2, .slice A249_3 ((rd_T58 l0 x5_1).f3).length c249_3, .slice A249_4 ((rd_T58 l0 x5_1).f4).length c249_4], .agg #[.int .i64 ((rd_T58 l1 x5_1).f0), .slice A250_1 ((rd_T58 l1 x5_1).f1).length c250_1, .slice A250_2 ((rd_T58 l1 x5_1).f2).length c250_2, .slice A250_3 ((rd_T58 l1 x5_1).f3).length c250_3, .slice A250_4 ((rd_T58 l1 x5_1).f4).length c250_4]] (by rfl) rfl rfl (by (try simp only [List.map_toArray, List.map_cons, List.map_nil]); first | done | rfl | (simp only [List.length_drop, List.length_take]; rfl)) ?_
   with_reducible refine (laws_eqStatement.calls k1 ((rd_T58 l0 x5_1).f0) _ _ ((rd_T58 l0 x5_1).f1) _ _ ((rd_T58 l0 x5_1).f2) _ _ ((rd_T58 l0 x5_1).f3) _ _ ((rd_T58 l0 x5_1).f4) ((rd_T58 l1 x5_1).f0) _ _ ((rd_T58 l1 x5_1).f1) _ _ ((rd_T58 l1 x5_1).f2) _ _ ((rd_T58 l1 x5_1).f3) _ _ ((rd_T58 l1 x5_1).f4) true _ ?side1 ?side2 ?side3 ?side4 ?side5 ?side6 ?side7 ?side8 ?side9 ?side10 ?side11 ?side12 ?side13 ?side14 ?side15 ?side16 A7.out).mono ?_
   (case side1 => first | exact Grow.cb HR249_1.out HB.out | exact Kd.C_below HR249_1.out HB.out)
   (case side2 => exact HC249_1.out)
   (case side3 => first | exact Grow.cb HR249_2.out HB.out | exact Kd.C_below HR249_2.out HB.out)
   (case side4 => exact HC249_2.out)
   (case side5 => first | exact Grow.cb HR249_3.out HB.out | exact Kd.C_below HR249_3.out HB.out)
   (case side6 => exact HC249_3.out)
   (case side7 => first | exact Grow.cb HR249_4.out HB.out | exact Kd.C_below HR249_4.out HB.out)
   (case side8 => exact HC249_4.out)
   (case side9 => first | exact Grow.cb HR250_1.out HB.out | exact Kd.C_below HR250_1.out HB.out)
   (case side10 => exact HC250_1.out)
   (case side11 => first | exact Grow.cb HR250_2.out HB.out | exact Kd.C_below HR250_2.out HB.out)
   (case side12 => exact HC250_2.out)
   (case side13 => first | exact Grow.cb HR250_3.out HB.out | exact Kd.C_below HR250_3.out HB.out)
   (case side14 => exact HC250_3.out)
   (case side15 => first | exact Grow.cb HR250_4.out HB.out | exact Kd.C_below HR250_4.out HB.out)
   (case side16 => exact HC250_4.out)
   rintro e w10 ⟨rfl, hb⟩
   refine ⟨_, rfl, ?_⟩
   have n0_ := Aside0.mk (below_step (by first | exact Grow.bl HB.out | exact HB.out) hb)
   clear HB
   have HB := n0_
   clear n0_
   (try clear hb)
   (try clear hb2)
   (try clear hk)
   (try clear hi)
   refine hK.out _ _ ⟨((HB.out.cell (World.block_lt_of_cell? w _ hw249_0)).trans hw249_0), ((HB.out.cell (World.block_lt_of_cell? w _ hw249_1)).trans hw249_1), ((HB.out.cell (World.block_lt_of_cell? w _ hw249_2)).trans hw249_2), ((HB.out.cell (World.block_lt_of_cell? w _ hw249_3)).trans hw249_3), ((HB.out.cell (World.block_lt_of_cell? w _ hw249_4)).trans hw249_4), ((HB.out.cell (World.block_lt_of_cell? w _ hw250_0)).trans hw250_0), ((HB.out.cell (World.block_lt_of_cell? w _ hw250_1)).trans hw250_1), ((HB.out.cell (World.block_lt_of_cell? w _ hw250_2)).trans hw250_2), ((HB.out.cell (World.block_lt_of_cell? w _ hw250_3)).trans hw250_3), ((HB.out.cell (World.block_lt_of_cell? w _ hw250_4)).trans hw250_4)⟩ (fun hHeld => ?_)
   clear hK K
   refine norm_ (a' := ?_) ?_ ?_; rotate_left; show Act.put _ (some 25) _ = _; simp only [Cap.pz]; rfl
   refine Cap.pu (v := ?_) (a' := ?_) 9 (some 26) zf10 HT_ rfl rfl (by kernel_rfl) (fun _ _ _ h => h) (Or.inl ⟨by rfl, ?_⟩) ?_ ?_; rotate_left; intro w'; go_simp; with_reducible rfl; rotate_left; simp only [Cap.pz]; rfl
   refine done_ (done_of HT_.out (by kernel_rfl)) ?_
   try go_wp2
   go_roundg k1
   case measure => have := HK1.out; omega
   case rel => exact ⟨(wrap64 (x5_1 + 1)), (by first | rfl | (simp; done) | (simp [*]; done)), H', ⟨by have := HK1.out; omega⟩, ⟨by first | exact Grow.bl HB.out | exact HB.out⟩⟩

/-! ### laws_FnExactWritePolicy: function 4 -/
def laws_FnExactWritePolicy.f (k : Nat) (l0 : List (S54)) : Option (Bool) := (laws_szStatementS.f k l0 1048576).bind fun t252 => (if t252 < 0 then (some true) else ((laws_toStatementS.f k l0).bind fun t253 => ((spec_WritePolicy.f k t253).bind fun t256 => ((laws_toStatementS.f k l0).bind fun t257 => ((impl_WritePolicy.f k t257).bind fun t260 => (if t260.toList = t256.toList then ((laws_toStatementS.f k l0).bind fun t261 => ((laws_eqStatementS.f k t257 t261).bind fun t264 => (if t264 = true then (some true) else (some false)))) else (some false)))))))
theorem laws_FnExactWritePolicy.mono : ∀ a0 k, LeO (laws_FnExactWritePolicy.f k a0) (laws_FnExactWritePolicy.f (k + 1) a0) := by
  intro a0 k
  unfold laws_FnExactWritePolicy.f
  repeat' first
      | (with_reducible exact impl_WritePolicy.mono _ _)
      | (with_reducible exact laws_eqStatementS.mono _ _ _)
      | (with_reducible exact laws_szStatementS.mono _ _ _)
      | (with_reducible exact laws_toStatementS.mono _ _)
      | (with_reducible exact spec_WritePolicy.mono _ _)
      | (with_reducible exact LeO.refl _)
      | (with_reducible exact LeO.none _)
      | (with_reducible refine LeO.ite ?_ ?_)
      | (with_reducible refine LeO.bind ?_ (fun _ => ?_))
      | exact impl_WritePolicy.mono _ _
      | exact laws_eqStatementS.mono _ _ _
      | exact laws_szStatementS.mono _ _ _
      | exact laws_toStatementS.mono _ _
      | exact spec_WritePolicy.mono _ _
      | exact LeO.none _
      | refine LeO.ite ?_ ?_
      | refine LeO.bind ?_ (fun _ => ?_)
set_option maxHeartbeats 8000000 in
set_option maxRecDepth 100000 in
theorem laws_FnExactWritePolicy.calls (k : Nat) (A0 : Option Addr) (c0 : Nat) (l0 : List (S54)) (w : World) (hr0 : Kd.C k54 w A0 l0.length l0) (hc0 : l0.length ≤ c0) (h : laws_FnExactWritePolicy.f k l0 = some true) (hL : LaidAt w) :
  Calls Tryd.prog 4 #[.slice A0 l0.length c0] w fun e w' => e = .returned (.bool true) ∧ Below w.heap.size w w' := by
 have HL := Aside0.mk hL
 clear hL
 have HR0 := Aside0.mk hr0
 have HC0 := Aside0.mk hc0
 clear hr0 hc0
 have HB := Aside0.mk (Below.refl w.heap.size w)
 have H : ((laws_szStatementS.f k l0 1048576).bind fun t252 => (if t252 < 0 then (some true) else ((laws_toStatementS.f k l0).bind fun t253 => ((spec_WritePolicy.f k t253).bind fun t256 => ((laws_toStatementS.f k l0).bind fun t257 => ((impl_WritePolicy.f k t257).bind fun t260 => (if t260.toList = t256.toList then ((laws_toStatementS.f k l0).bind fun t261 => ((laws_eqStatementS.f k t257 t261).bind fun t264 => (if t264 = true then (some true) else (some false)))) else (some false)))))))) = some true := h
 clear h
 replace H := Option.bind_eq_some_iff.mp H
 obtain ⟨t252, A20, H⟩ := H
 replace H : (if t252 < 0 then (some true) else ((laws_toStatementS.f k l0).bind fun t253 => ((spec_WritePolicy.f k t253).bind fun t256 => ((laws_toStatementS.f k l0).bind fun t257 => ((impl_WritePolicy.f k t257).bind fun t260 => (if t260.toList = t256.toList then ((laws_toStatementS.f k l0).bind fun t261 => ((laws_eqStatementS.f k t257 t261).bind fun t264 => (if t264 = true then (some true) else (some false)))) else (some false))))))) = some true := H
 have A2 := Aside0.mk A20
 clear A20
 by_cases c3 : t252 < 0
 ·
  rw [if_pos c3] at H
  have c3b0 : decide (t252 < 0) = true := decide_eq_true c3
  clear c3
  clear H
  go_enter Tryd.func4, Tryd.ntmps4
  go_wp2_with (first | ((with_reducible refine gate_callee (f := 11) rfl ?_); refine goesL_ (some 9) rfl rfl Tryd.func11 (by kernel_rfl) rfl #[.slice A0 l0.length c0, .int .i64 1048576] rfl (by (try simp only [List.map_toArray, List.map_cons, List.map_nil]); first | done | rfl | (simp only [List.length_drop, List.length_take]; rfl)) ?_; (with_reducible refine (laws_szStatementS.calls k _ _ l0 1048576 t252 _ ?side1 ?side2 A2.out).mono ?_); (case side1 => repeat (first | exact HR0.out | (with_reducible refine Kd.C_alloc ?_ _) | (with_reducible refine Kd.C_drewN ?_ _) | (with_reducible refine Kd.C_drew ?_))); (case side2 => exact HC0.out); rintro e w4 ⟨rfl, hb⟩; refine ⟨_, rfl, ?_⟩; have n0_ := Aside0.mk (below_step (by first | exact Grow.bl HB.out | exact HB.out) hb); clear HB; have HB := n0_; clear n0_; (try clear hb); (try clear hb2); (try clear hk); (try clear hi)))
  go_ret
  exact ⟨by first | rfl | (simp [errW_none, errW_some] <;> rfl) | (simp [*, errW_none, errW_some] <;> rfl), by first | exact Grow.bl HB.out | exact HB.out⟩
 rw [if_neg c3] at H
 have c3b0 : decide (t252 < 0) = false := decide_eq_false c3
 clear c3
 replace H := Option.bind_eq_some_iff.mp H
 obtain ⟨t253, A50, H⟩ := H
 replace H : ((spec_WritePolicy.f k t253).bind fun t256 => ((laws_toStatementS.f k l0).bind fun t257 => ((impl_WritePolicy.f k t257).bind fun t260 => (if t260.toList = t256.toList then ((laws_toStatementS.f k l0).bind fun t261 => ((laws_eqStatementS.f k t257 t261).bind fun t264 => (if t264 = true then (some true) else (some false)))) else (some false))))) = some true := H
 have A5 := Aside0.mk A50
 clear A50
 replace H := Option.bind_eq_some_iff.mp H
 obtain ⟨t256, A60, H⟩ := H
 replace H : ((laws_toStatementS.f k l0).bind fun t257 => ((impl_WritePolicy.f k t257).bind fun t260 => (if t260.toList = t256.toList then ((laws_toStatementS.f k l0).bind fun t261 => ((laws_eqStatementS.f k t257 t261).bind fun t264 => (if t264 = true then (some true) else (some false)))) else (some false)))) = some true := H
 have A6 := Aside0.mk A60
 clear A60
 replace H := Option.bind_eq_some_iff.mp H
 obtain ⟨t257, A70, H⟩ := H
 obtain rfl : t253 = t257 := Option.some.inj (A5.out.symm.trans A70)
 replace H : ((impl_WritePolicy.f k t253).bind fun t260 => (if t260.toList = t256.toList then ((laws_toStatementS.f k l0).bind fun t261 => ((laws_eqStatementS.f k t253 t261).bind fun t264 => (if t264 = true then (some true) else (some false)))) else (some false))) = some true := H
 have A7 := Aside0.mk A70
 clear A70
 replace H := Option.bind_eq_some_iff.mp H
 obtain ⟨t260, A80, H⟩ := H
 replace H : (if t260.toList = t256.toList then ((laws_toStatementS.f k l0).bind fun t261 => ((laws_eqStatementS.f k t253 t261).bind fun t264 => (if t264 = true then (some true) else (some false)))) else (some false)) = some true := H
 have A8 := Aside0.mk A80
 clear A80
 by_cases c9 : t260.toList = t256.toList
 rotate_left
 ·
  rw [if_neg c9] at H
  exact absurd (Option.some.inj H) (by decide)
 rw [if_pos c9] at H
 have c9b0 : (t260.toList == t256.toList) = true := beq_iff_eq.mpr c9
 have c9b1 : (t260.toList != t256.toList) = false := bne_eq_false_iff_eq.mpr c9
 clear c9
 replace H := Option.bind_eq_some_iff.mp H
 obtain ⟨t261, A100, H⟩ := H
 obtain rfl : t253 = t261 := Option.some.inj (A5.out.symm.trans A100)
 replace H : ((laws_eqStatementS.f k t253 t253).bind fun t264 => (if t264 = true then (some true) else (some false))) = some true := H
 have A10 := Aside0.mk A100
 clear A100
 replace H := Option.bind_eq_some_iff.mp H
 obtain ⟨t264, A110, H⟩ := H
 replace H : (if t264 = true then (some true) else (some false)) = some true := H
 have A11 := Aside0.mk A110
 clear A110
 by_cases c12 : t264 = true
 rotate_left
 ·
  replace c12 := Bool.eq_false_iff.mpr c12
  subst c12
  have H1 : (some false) = some true := by rw [if_neg (show ¬ (false = true) by decide)] at H; exact H
  clear H
  have H := H1
  clear H1
  exact absurd (Option.some.inj H) (by decide)
 subst c12
 have H1 := True.intro
 clear H
 have H := H1
 clear H1
 clear H
 go_enter Tryd.func4, Tryd.ntmps4
 go_wp2_with (first | ((with_reducible refine gate_callee (f := 11) rfl ?_); refine goesL_ (some 9) rfl rfl Tryd.func11 (by kernel_rfl) rfl #[.slice A0 l0.length c0, .int .i64 1048576] rfl (by (try simp only [List.map_toArray, List.map_cons, List.map_nil]); first | done | rfl | (simp only [List.length_drop, List.length_take]; rfl)) ?_; (with_reducible refine (laws_szStatementS.calls k _ _ l0 1048576 t252 _ ?side1 ?side2 A2.out).mono ?_); (case side1 => repeat (first | exact HR0.out | (with_reducible refine Kd.C_alloc ?_ _) | (with_reducible refine Kd.C_drewN ?_ _) | (with_reducible refine Kd.C_drew ?_))); (case side2 => exact HC0.out); rintro e w13 ⟨rfl, hb⟩; refine ⟨_, rfl, ?_⟩; have n0_ := Aside0.mk (below_step (by first | exact Grow.bl HB.out | exact HB.out) hb); clear HB; have HB := n0_; clear n0_; (try clear hb); (try clear hb2); (try clear hk); (try clear hi)) | ((with_reducible refine gate_callee (f := 13) rfl ?_); refine goesL_ (some 13) rfl rfl Tryd.func13 (by kernel_rfl) rfl #[.slice A0 l0.length c0] rfl (by (try simp only [List.map_toArray, List.map_cons, List.map_nil]); first | done | rfl | (simp only [List.length_drop, List.length_take]; rfl)) ?_; (with_reducible refine (laws_toStatementS.calls k _ _ l0 t253 _ ?side1 ?side2 A5.out).mono ?_); (case side1 => first | exact Grow.cb HR0.out HB.out | exact Kd.C_below HR0.out HB.out); (case side2 => exact HC0.out); rintro e w14 ⟨v254, rfl, ho0, hb⟩; refine ⟨_, rfl, ?_⟩; have n0_ := Aside0.mk (Kd.S_lower ho0 (below_size (by first | exact Grow.bl HB.out | exact HB.out))); have n1_ := Aside0.mk (below_step (by first | exact Grow.bl HB.out | exact HB.out) hb); clear HB; have HO255 := n0_; have HB := n1_; clear n0_ n1_; (try clear hb); (try clear hb2); (try clear hk); (try clear hi); (try clear ho0); obtain ⟨Ao15, co15, eo15⟩ := Kd.S_slice HO255.out; subst eo15) | ((with_reducible refine gate_callee (f := 12) rfl ?_); refine goesL_ (some 14) rfl rfl Tryd.func12 (by kernel_rfl) rfl #[.slice Ao15 t253.length co15] rfl (by (try simp only [List.map_toArray, List.map_cons, List.map_nil]); first | done | rfl | (simp only [List.length_drop, List.length_take]; rfl)) ?_; (with_reducible refine (spec_WritePolicy.calls k _ _ t253 t256 _ ?side1 ?side2 A6.out).mono ?_); (case side1 => repeat (first | exact (Kd.S_reads' HO255.out).2.2 | (with_reducible refine Kd.C_alloc ?_ _) | (with_reducible refine Kd.C_drewN ?_ _) | (with_reducible refine Kd.C_drew ?_))); (case side2 => exact (Kd.S_reads' HO255.out).2.1); rintro e w16 ⟨rfl, hb⟩; refine ⟨_, rfl, ?_⟩; have n0_ := Aside0.mk (Kd.S_below (by first | exact Grow.sg HO255.out | exact HO255.out) hb); have n1_ := Aside0.mk (below_step (by first | exact Grow.bl HB.out | exact HB.out) hb); clear HO255; clear HB; have HO255 := n0_; have HB := n1_; clear n0_ n1_; (try clear hb); (try clear hb2); (try clear hk); (try clear hi)) | ((with_reducible refine gate_callee (f := 13) rfl ?_); refine goesL_ (some 16) rfl rfl Tryd.func13 (by kernel_rfl) rfl #[.slice A0 l0.length c0] rfl (by (try simp only [List.map_toArray, List.map_cons, List.map_nil]); first | done | rfl | (simp only [List.length_drop, List.length_take]; rfl)) ?_; (with_reducible refine (laws_toStatementS.calls k _ _ l0 t253 _ ?side1 ?side2 A7.out).mono ?_); (case side1 => first | exact Grow.cb HR0.out HB.out | exact Kd.C_below HR0.out HB.out); (case side2 => exact HC0.out); rintro e w17 ⟨v258, rfl, ho0, hb⟩; refine ⟨_, rfl, ?_⟩; have n0_ := Aside0.mk (Kd.S_elder' (by first | exact Grow.sg HO255.out | exact HO255.out) (Kd.S_base ho0) hb); have n1_ := Aside0.mk (Kd.S_lower (Kd.S_new' ho0 (Kd.S_lt (by first | exact Grow.sg HO255.out | exact HO255.out))) (below_size (by first | exact Grow.bl HB.out | exact HB.out))); have n2_ := Aside0.mk (below_step (by first | exact Grow.bl HB.out | exact HB.out) hb); clear HO255; clear HB; have HO255 := n0_; have HO259 := n1_; have HB := n2_; clear n0_ n1_ n2_; (try clear hb); (try clear hb2); (try clear hk); (try clear hi); (try clear ho0); obtain ⟨Ao18, co18, eo18⟩ := Kd.S_slice HO259.out; subst eo18) | ((with_reducible refine gate_callee (f := 14) rfl ?_); refine goesL_ (some 18) rfl rfl Tryd.func14 (by kernel_rfl) rfl #[.slice Ao18 t253.length co18] rfl (by (try simp only [List.map_toArray, List.map_cons, List.map_nil]); first | done | rfl | (simp only [List.length_drop, List.length_take]; rfl)) ?_; (with_reducible refine (impl_WritePolicy.calls k _ _ t253 t260 _ ?side1 ?side2 A8.out (HL.out.below (by first | exact Grow.bl HB.out | exact HB.out))).mono ?_); (case side1 => repeat (first | exact (Kd.S_reads' HO259.out).2.2 | (with_reducible refine Kd.C_alloc ?_ _) | (with_reducible refine Kd.C_drewN ?_ _) | (with_reducible refine Kd.C_drew ?_))); (case side2 => exact (Kd.S_reads' HO259.out).2.1); rintro e w19 ⟨rfl, hb⟩; refine ⟨_, rfl, ?_⟩; have n0_ := Aside0.mk (Kd.S_below (by first | exact Grow.sg HO255.out | exact HO255.out) hb); have n1_ := Aside0.mk (Kd.S_below (by first | exact Grow.sg HO259.out | exact HO259.out) hb); have n2_ := Aside0.mk (below_step (by first | exact Grow.bl HB.out | exact HB.out) hb); clear HO255; clear HO259; clear HB; have HO255 := n0_; have HO259 := n1_; have HB := n2_; clear n0_ n1_ n2_; (try clear hb); (try clear hb2); (try clear hk); (try clear hi)) | ((with_reducible refine gate_callee (f := 13) rfl ?_); refine goesL_ (some 24) rfl rfl Tryd.func13 (by kernel_rfl) rfl #[.slice A0 l0.length c0] rfl (by (try simp only [List.map_toArray, List.map_cons, List.map_nil]); first | done | rfl | (simp only [List.length_drop, List.length_take]; rfl)) ?_; (with_reducible refine (laws_toStatementS.calls k _ _ l0 t253 _ ?side1 ?side2 A10.out).mono ?_); (case side1 => first | exact Grow.cb HR0.out HB.out | exact Kd.C_below HR0.out HB.out); (case side2 => exact HC0.out); rintro e w20 ⟨v262, rfl, ho0, hb⟩; refine ⟨_, rfl, ?_⟩; have n0_ := Aside0.mk (Kd.S_elder' (by first | exact Grow.sg HO255.out | exact HO255.out) (Kd.S_base ho0) hb); have n1_ := Aside0.mk (Kd.S_elder' (by first | exact Grow.sg HO259.out | exact HO259.out) (Kd.S_base ho0) hb); have n2_ := Aside0.mk (Kd.S_lower (Kd.S_new' (Kd.S_new' ho0 (Kd.S_lt (by first | exact Grow.sg HO255.out | exact HO255.out))) (Kd.S_lt (by first | exact Grow.sg HO259.out | exact HO259.out))) (below_size (by first | exact Grow.bl HB.out | exact HB.out))); have n3_ := Aside0.mk (below_step (by first | exact Grow.bl HB.out | exact HB.out) hb); clear HO255; clear HO259; clear HB; have HO255 := n0_; have HO259 := n1_; have HO263 := n2_; have HB := n3_; clear n0_ n1_ n2_ n3_; (try clear hb); (try clear hb2); (try clear hk); (try clear hi); (try clear ho0); obtain ⟨Ao21, co21, eo21⟩ := Kd.S_slice HO263.out; subst eo21) | ((with_reducible refine gate_callee (f := 15) rfl ?_); refine goesL_ (some 25) rfl rfl Tryd.func15 (by kernel_rfl) rfl #[.slice Ao18 t253.length co18, .slice Ao21 t253.length co21] rfl (by (try simp only [List.map_toArray, List.map_cons, List.map_nil]); first | done | rfl | (simp only [List.length_drop, List.length_take]; rfl)) ?_; (with_reducible refine (laws_eqStatementS.calls k _ _ t253 _ _ t253 true _ ?side1 ?side2 ?side3 ?side4 A11.out).mono ?_); (case side1 => repeat (first | exact (Kd.S_reads' HO259.out).2.2 | (with_reducible refine Kd.C_alloc ?_ _) | (with_reducible refine Kd.C_drewN ?_ _) | (with_reducible refine Kd.C_drew ?_))); (case side2 => exact (Kd.S_reads' HO259.out).2.1); (case side3 => repeat (first | exact (Kd.S_reads' HO263.out).2.2 | (with_reducible refine Kd.C_alloc ?_ _) | (with_reducible refine Kd.C_drewN ?_ _) | (with_reducible refine Kd.C_drew ?_))); (case side4 => exact (Kd.S_reads' HO263.out).2.1); rintro e w22 ⟨rfl, hb⟩; refine ⟨_, rfl, ?_⟩; have n0_ := Aside0.mk (Kd.S_below (by first | exact Grow.sg HO255.out | exact HO255.out) hb); have n1_ := Aside0.mk (Kd.S_below (by first | exact Grow.sg HO259.out | exact HO259.out) hb); have n2_ := Aside0.mk (Kd.S_below (by first | exact Grow.sg HO263.out | exact HO263.out) hb); have n3_ := Aside0.mk (below_step (by first | exact Grow.bl HB.out | exact HB.out) hb); clear HO255; clear HO259; clear HO263; clear HB; have HO255 := n0_; have HO259 := n1_; have HO263 := n2_; have HB := n3_; clear n0_ n1_ n2_ n3_; (try clear hb); (try clear hb2); (try clear hk); (try clear hi)))
 go_ret
 exact ⟨by first | rfl | (simp [errW_none, errW_some] <;> rfl) | (simp [*, errW_none, errW_some] <;> rfl), by first | exact Grow.bl HB.out | exact HB.out⟩

end Go.Proofs.YtepnjhmdcaolkaaDoor.QFnExactWritePolicy
