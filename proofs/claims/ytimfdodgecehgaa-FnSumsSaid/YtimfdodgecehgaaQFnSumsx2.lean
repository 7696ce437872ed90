-- A text of this session, printed by a program of its own (wip/tools: xpatch.py, xprint.sh, mkq.py). No condition.
import Derived.Test.YtimfdodgecehgaaQFnSumsx0
import Derived.Test.YtimfdodgecehgaaQFnSumsx1
namespace Go.Proofs.Ytimfdodgecehgaa.QFnSums
open Go.RowKit Go.Proofs.YtimfdodgecehgaaW.PrintWords Go.Proofs.YtimfdodgecehgaaW.PrintLast Go.Proofs.YtimfdodgecehgaaW.PrintMore
attribute [local go_sem] max2_int min2_int max_two min_two max_three min_three max_four min_four   -- for this text's walks alone
set_option linter.unusedVariables false
set_option linter.unusedSimpArgs false

/-! ### spec_DrawSumOf: function 15 -/
def spec_DrawSumOf.f (k : Nat) (l0 : List Int) : Option (ByteArray × Int) := (spec_l01Source.f l0).bind fun bt171 => ((spec_l01Src_long.f k bt171.1 bt171.2.1 bt171.2.2).bind fun bt175 => ((spec_l01Src_n.f bt171.1 bt175.2.1 bt175.2.2 100000).bind fun bt178 => ((some (([0, 1, bt178.1, 2147483647, 9223372036854775807, (-1)] : List Int) : List Int)).bind fun y181 => ((spec_l01Src_n.f bt171.1 bt178.2.1 bt178.2.2 6).bind fun bt184 => (if 0 ≤ bt184.1 then (if bt184.1 < (y181.length : Int) then (some (bt175.1, rd y181 bt184.1)) else (none)) else (none))))))
theorem spec_DrawSumOf.mono : ∀ a0 k, LeO (spec_DrawSumOf.f k a0) (spec_DrawSumOf.f (k + 1) a0) := by
  intro a0 k
  unfold spec_DrawSumOf.f
  repeat' first
      | (with_reducible exact spec_l01Src_long.mono _ _ _ _)
      | (with_reducible exact LeO.refl _)
      | (with_reducible exact LeO.none _)
      | (with_reducible refine LeO.ite ?_ ?_)
      | (with_reducible refine LeO.bind ?_ (fun _ => ?_))
      | exact spec_l01Src_long.mono _ _ _ _
      | exact LeO.none _
      | refine LeO.ite ?_ ?_
      | refine LeO.bind ?_ (fun _ => ?_)
def spec_DrawSumOf.T2 : Bool × List (List Nat × List Nat) := (true, [([], []), ([0], [0]), ([], []), ([2, 1], [2]), ([3], [3]), ([], []), ([5, 3], [5]), ([4, 6], [4, 6]), ([7], [7]), ([1, 6, 0, 1], [1]), ([8, 9, 0, 1, 2, 3, 4, 5, 6, 7, 8, 9], [8])])
def spec_DrawSumOf.B2 : List Nat := [0, 1, 0, 7, 15, 0, 47, 127, 255, 111, 1023]
theorem spec_DrawSumOf.tab2 : rtab .any (opsOf Try.f15 2) = spec_DrawSumOf.T2 := by kernel_rfl
theorem spec_DrawSumOf.bits2 : waitsOk spec_DrawSumOf.T2.2 spec_DrawSumOf.B2 = true := by kernel_rfl
set_option maxHeartbeats 8000000 in
set_option maxRecDepth 100000 in
theorem spec_DrawSumOf.calls (k : Nat) (A0 : Option Addr) (c0 : Nat) (l0 : List Int) (r1 : ByteArray) (r2 : Int) (w : World) (hr0 : Kd.C (Kd.int .u8) w A0 l0.length l0) (hc0 : l0.length ≤ c0) (h : spec_DrawSumOf.f k l0 = some (r1, r2)) :
    Calls Try.prog 15 #[.slice A0 l0.length c0] w fun e w' => e = .returned (.tuple #[.string r1, .int .i64 r2]) ∧ Below w.heap.size w w' := by
  have HR0 := Aside0.mk hr0
  have HC0 := Aside0.mk hc0
  clear hr0 hc0
  have HB := Aside0.mk (Below.refl w.heap.size w)
  have H : ((spec_l01Source.f l0).bind fun bt171 => ((spec_l01Src_long.f k bt171.1 bt171.2.1 bt171.2.2).bind fun bt175 => ((spec_l01Src_n.f bt171.1 bt175.2.1 bt175.2.2 100000).bind fun bt178 => ((some (([0, 1, bt178.1, 2147483647, 9223372036854775807, (-1)] : List Int) : List Int)).bind fun y181 => ((spec_l01Src_n.f bt171.1 bt178.2.1 bt178.2.2 6).bind fun bt184 => (if 0 ≤ bt184.1 then (if bt184.1 < (y181.length : Int) then (some (bt175.1, rd y181 bt184.1)) else (none)) else (none))))))) = some (r1, r2) := h
  clear h
  replace H := Option.bind_eq_some_iff.mp H
  obtain ⟨⟨t171, t172, t173⟩, A20, H⟩ := H
  replace H : ((spec_l01Src_long.f k t171 t172 t173).bind fun bt175 => ((spec_l01Src_n.f t171 bt175.2.1 bt175.2.2 100000).bind fun bt178 => ((some (([0, 1, bt178.1, 2147483647, 9223372036854775807, (-1)] : List Int) : List Int)).bind fun y181 => ((spec_l01Src_n.f t171 bt178.2.1 bt178.2.2 6).bind fun bt184 => (if 0 ≤ bt184.1 then (if bt184.1 < (y181.length : Int) then (some (bt175.1, rd y181 bt184.1)) else (none)) else (none)))))) = some (r1, r2) := H
  have A2 := Aside0.mk A20
  clear A20
  replace H := Option.bind_eq_some_iff.mp H
  obtain ⟨⟨t175, t176, t177⟩, A30, H⟩ := H
  replace H : ((spec_l01Src_n.f t171 t176 t177 100000).bind fun bt178 => ((some (([0, 1, bt178.1, 2147483647, 9223372036854775807, (-1)] : List Int) : List Int)).bind fun y181 => ((spec_l01Src_n.f t171 bt178.2.1 bt178.2.2 6).bind fun bt184 => (if 0 ≤ bt184.1 then (if bt184.1 < (y181.length : Int) then (some (t175, rd y181 bt184.1)) else (none)) else (none))))) = some (r1, r2) := H
  have A3 := Aside0.mk A30
  clear A30
  replace H := Option.bind_eq_some_iff.mp H
  obtain ⟨⟨t178, t179, t180⟩, A40, H⟩ := H
  replace H : ((some (([0, 1, t178, 2147483647, 9223372036854775807, (-1)] : List Int) : List Int)).bind fun y181 => ((spec_l01Src_n.f t171 t179 t180 6).bind fun bt184 => (if 0 ≤ bt184.1 then (if bt184.1 < (y181.length : Int) then (some (t175, rd y181 bt184.1)) else (none)) else (none)))) = some (r1, r2) := H
  have A4 := Aside0.mk A40
  clear A40
  obtain ⟨y181, hy181⟩ : ∃ y_ : List Int, y_ = (([0, 1, t178, 2147483647, 9223372036854775807, (-1)] : List Int)) := ⟨_, rfl⟩
  replace H : ((spec_l01Src_n.f t171 t179 t180 6).bind fun bt184 => (if 0 ≤ bt184.1 then (if bt184.1 < (y181.length : Int) then (some (t175, rd y181 bt184.1)) else (none)) else (none))) = some (r1, r2) := by first | (rw [hy181]; with_reducible exact H) | (have H2_ := (Option.bind_some _ _).symm.trans H; rw [hy181]; with_reducible exact H2_) | (have H2_ := (Option.bind_some _ _).symm.trans H; with_reducible exact H2_) | with_reducible exact H | (rw [hy181]; exact H) | exact H
  have Ny181 := Aside0.mk hy181
  clear hy181
  replace H := Option.bind_eq_some_iff.mp H
  obtain ⟨⟨t184, t185, t186⟩, A50, H⟩ := H
  replace H : (if 0 ≤ t184 then (if t184 < (y181.length : Int) then (some (t175, rd y181 t184)) else (none)) else (none)) = some (r1, r2) := H
  have A5 := Aside0.mk A50
  clear A50
  by_cases c6 : 0 ≤ t184
  · rw [if_pos c6] at H
    have c6b0 : decide (0 ≤ t184) = true := decide_eq_true c6
    clear c6
    by_cases c7 : t184 < (y181.length : Int)
    · rw [if_pos c7] at H
      have c7b0 : decide (t184 < (y181.length : Int)) = true := decide_eq_true c7
      clear c7
      simp only [Option.some.injEq, Prod.mk.injEq] at H
      obtain ⟨rfl, rfl⟩ := H
      go_enter Try.func15, Try.ntmps15
      try go_wp2_with (first | ((with_reducible refine gate_callee (f := 73) rfl ?_); refine goesL_ (some 6) rfl rfl Try.func73 (by kernel_rfl) rfl #[.slice A0 l0.length c0] rfl (by (try simp only [List.map_toArray, List.map_cons, List.map_nil]); first | done | rfl | (simp only [List.length_drop, List.length_take]; rfl)) ?_; (with_reducible refine (spec_l01Source.calls _ _ l0 t171 t172 t173 w _ ?side1 ?side2 ?side3 A2.out).mono ?_); (case side1 => repeat (first | (with_reducible first | exact HB.out | apply below_alloc | apply pw_below_drewN | apply below_drew1) | exact HB.out)); (case side2 => exact HR0.out); (case side3 => exact HC0.out); rintro e w8 ⟨g174, rfl, hi, hb, hb2⟩; refine ⟨_, rfl, ?_⟩; have n0_ := Aside0.mk (hb); have n1_ := Aside0.mk (hi); clear HB; have HB := n0_; have HI174 := n1_; clear n0_ n1_; (try clear hb); (try clear hb2); (try clear hk); (try clear hi)))
      have pi187 : (0 ≤ (t184 : Int)) = True := eq_true (of_decide_eq_true (by first | (with_reducible assumption) | assumption))
      have qi187 : (t184 < (y181.length : Int)) = True := eq_true (of_decide_eq_true (by first | (with_reducible assumption) | assumption))
      have n0_ := Aside0.mk (IsS175.drew HI174.out)
      have n1_ := Aside0.mk (below_drew1 HB.out)
      clear HI174
      clear HB
      have HI174 := n0_
      have HB := n1_
      clear n0_ n1_
      refine start_ (n := 11) (S := fun w' => True) (ds := []) #[false, false, false, false, false, false, false, false, false, false, false] (by kernel_rfl) rfl rfl trivial (fun hHeld => ?_); refine with_tabW spec_DrawSumOf.tab2 spec_DrawSumOf.bits2 (fun HT_ HW_ => ?_)
      generalize w8.drew = w9 at HI174 HB hHeld ⊢
      refine pure_ (i := 0) (N := some 7) (v := ?_) (a' := ?_) #[true, false, false, false, false, false, false, false, false, false, false] rfl rfl (any_of HT_.out (by kernel_rfl)) (fun _ _ _ h => h) (Or.inl ⟨by rfl, ?_⟩) ?_ ?_
      rotate_left
      · intro w'
        go_simp
        with_reducible rfl
      rotate_left
      · simp only [Act.put, List.setIfInBounds_toArray, List.set_cons_zero, List.set_cons_succ, i64_w, i32_w]
        rfl
      refine pure_ (i := 2) (N := some 9) (v := ?_) (a' := ?_) #[true, false, true, false, false, false, false, false, false, false, false] rfl rfl (any_of HT_.out (by kernel_rfl)) (fun _ _ _ h => h) (Or.inl ⟨by rfl, ?_⟩) ?_ ?_
      rotate_left
      · intro w'
        go_simp
        with_reducible rfl
      rotate_left
      · simp only [Act.put, List.setIfInBounds_toArray, List.set_cons_zero, List.set_cons_succ, i64_w, i32_w]
        rfl
      refine pure_ (i := 5) (N := some 12) (v := ?_) (a' := ?_) #[true, false, true, false, false, true, false, false, false, false, false] rfl rfl (any_of HT_.out (by kernel_rfl)) (fun _ _ _ h => h) (Or.inl ⟨by rfl, ?_⟩) ?_ ?_
      rotate_left
      · intro w'
        go_simp
        with_reducible rfl
      rotate_left
      · simp only [Act.put, List.setIfInBounds_toArray, List.set_cons_zero, List.set_cons_succ, i64_w, i32_w]
        rfl
      refine inv_at [1, 3, 4, 6, 7, 8, 9, 10] (fun a0_ b a w' => ∃ (v182 : Value) (adz_v182 : Addr) (m7_ : Value), a = putSel a0_ b [(1, 8, .string t175), (3, 10, .int .i64 t178), (4, 11, v182), (6, 13, .int .i64 t184), (7, 14, m7_), (8, 15, .int .i64 (rd y181 t184)), (9, 2, .string t175), (10, 3, .int .i64 (rd y181 t184))] ∧ (b 1 = false → IsS175 w w' g174 t171 t172 t173) ∧ (Below w.heap.size w w') ∧ (b 1 = true → b 3 = false → IsS175 w w' g174 t171 t176 t177) ∧ (b 3 = true → b 6 = false → IsS175 w w' g174 t171 t179 t180) ∧ (b 4 = true → Kd.R (Kd.int .i64) 2 w' w.heap.size (fun _ => True) v182 y181) ∧ (b 4 = true → ∃ c_, (v182 : Value) = .slice (some adz_v182) y181.length c_) ∧ (b 6 = true → IsS175 w w' g174 t171 t185 t186) ∧ (b 7 = true → (m7_ : Value) = .pointer (some (adz_v182.add (t184).toNat)))) HT_.out HW_.out (by kernel_rfl) (by kernel_rfl) ?_ ?_ ?_
      · exact ⟨.bool false, ⟨0, 0, none⟩, .bool false, by simp only [putSel, Bool.false_eq_true, if_false], fun _ => HI174.out, HB.out, fun h_ => absurd h_ (by decide), fun h_ => absurd h_ (by decide), fun h_ => absurd h_ (by decide), fun h_ => absurd h_ (by decide), fun h_ => absurd h_ (by decide), fun h_ => absurd h_ (by decide)⟩
      · skip
        clear HB HI174
        refine steps_cons ?_ ?_
        · rintro b a w' ⟨v182, adz_v182, m7_, ha, Q_HI174, Q_HB, Q_HI174_e1, Q_HI174_e3, Q_HO183, Q_HA_HO183, Q_HI174_e6, Q_X7_⟩ hb_ hon hoff
          refine ⟨_, rfl, fun K hK => ?_⟩
          have e7 : a.tmps[7]? = some (.pointer (some ⟨g174, 0, none⟩)) := by rw [ha]; exact (putSel_off rfl).trans rfl
          replace ha := Aside0.mk ha
          have HI174 := Aside0.mk (Q_HI174 hb_)
          have HB := Aside0.mk Q_HB
          refine goes_ Try.func74 (by kernel_rfl) rfl #[.pointer (some ⟨g174, 0, none⟩)] (by rfl) rfl rfl (by first | (simp only [List.map_toArray, List.map_cons, List.map_nil, Act.eval, Array.getD_eq_getD_getElem?, Option.getD_some, e7]; done) | (simp only [List.map_toArray, List.map_cons, List.map_nil, Act.eval, Array.getD_eq_getD_getElem?, Option.getD_some, e7]; rfl)) ?_
          with_reducible refine (spec_l01Src_long.calls k g174 t171 t172 t173 t175 t176 t177 w _ ?side1 ?side2 A3.out).mono ?_
          (case side1 => repeat (first | (with_reducible first | exact HI174.out | apply IsS175.alloc | apply IsS175.drewN | apply IsS175.drew | apply IsS175.set_1 | apply IsS175.set_2) | exact HI174.out))
          (case side2 => repeat (first | (with_reducible first | exact HB.out | apply below_alloc | apply pw_below_drewN | apply below_drew1 | refine below_set ?_ (IsS175.ge HI174.out)) | exact HB.out))
          rintro e w10 ⟨rfl, hi, hb, hk⟩
          refine ⟨_, rfl, ?_⟩
          have n0_ := Aside0.mk (hb)
          have n1_ := Aside0.mk (hi)
          clear HB
          clear HI174
          have HB := n0_
          have HI174 := n1_
          clear n0_ n1_
          (try clear hb)
          (try clear hb2)
          (try clear hk)
          (try clear hi)
          refine hK.out _ _ ⟨v182, adz_v182, m7_, (by rw [ha.out]; exact putSel_upk 0 hb_ rfl rfl rfl), fun h0_ => absurd ((up_self b 1).symm.trans h0_) (by decide), (by repeat (first | (with_reducible first | exact HB.out | apply below_alloc | apply pw_below_drewN | apply below_drew1 | refine below_set ?_ (IsS175.ge HI174.out)) | exact HB.out)), fun _ _ => (by repeat (first | (with_reducible first | exact HI174.out | apply IsS175.alloc | apply IsS175.drewN | apply IsS175.drew | apply IsS175.set_1 | apply IsS175.set_2) | exact HI174.out)), fun h0_ _ => absurd ((hoff 3 (by kernel_rfl)).symm.trans h0_) (by decide), fun h0_ => absurd ((hoff 4 (by kernel_rfl)).symm.trans h0_) (by decide), fun h0_ => absurd ((hoff 4 (by kernel_rfl)).symm.trans h0_) (by decide), fun h0_ => absurd ((hoff 6 (by kernel_rfl)).symm.trans h0_) (by decide), fun h0_ => absurd ((hoff 7 (by kernel_rfl)).symm.trans h0_) (by decide)⟩
        refine steps_cons ?_ ?_
        · rintro b a w' ⟨v182, adz_v182, m7_, ha, Q_HI174, Q_HB, Q_HI174_e1, Q_HI174_e3, Q_HO183, Q_HA_HO183, Q_HI174_e6, Q_X7_⟩ hb_ hon hoff
          refine ⟨_, rfl, fun K hK => ?_⟩
          have e9 : a.tmps[9]? = some (.pointer (some ⟨g174, 0, none⟩)) := by rw [ha]; exact (putSel_off rfl).trans rfl
          replace ha := Aside0.mk ha
          have HB := Aside0.mk Q_HB
          have HI174 := Aside0.mk (Q_HI174_e1 (hon 1 (by kernel_rfl)) hb_)
          refine goes_ Try.func75 (by kernel_rfl) rfl #[.pointer (some ⟨g174, 0, none⟩), .int .i64 100000] (by rfl) rfl rfl (by first | (simp only [List.map_toArray, List.map_cons, List.map_nil, Act.eval, Array.getD_eq_getD_getElem?, Option.getD_some, e9]; done) | (simp only [List.map_toArray, List.map_cons, List.map_nil, Act.eval, Array.getD_eq_getD_getElem?, Option.getD_some, e9]; rfl)) ?_
          with_reducible refine (spec_l01Src_n.calls g174 t171 t176 t177 100000 t178 t179 t180 w _ ?side1 ?side2 A4.out).mono ?_
          (case side1 => repeat (first | (with_reducible first | exact HI174.out | apply IsS175.alloc | apply IsS175.drewN | apply IsS175.drew | apply IsS175.set_1 | apply IsS175.set_2) | exact HI174.out))
          (case side2 => repeat (first | (with_reducible first | exact HB.out | apply below_alloc | apply pw_below_drewN | apply below_drew1 | refine below_set ?_ (IsS175.ge HI174.out)) | exact HB.out))
          rintro e w12 ⟨rfl, hi, hb, hk⟩
          refine ⟨_, rfl, ?_⟩
          have n0_ := Aside0.mk (hb)
          have n1_ := Aside0.mk (hi)
          clear HB
          clear HI174
          have HB := n0_
          have HI174 := n1_
          clear n0_ n1_
          (try clear hb)
          (try clear hb2)
          (try clear hk)
          (try clear hi)
          refine hK.out _ _ ⟨v182, adz_v182, m7_, (by rw [ha.out]; exact putSel_upk 1 hb_ rfl rfl rfl), fun h0_ => absurd ((hon 1 (by kernel_rfl)).symm.trans h0_) (by decide), (by repeat (first | (with_reducible first | exact HB.out | apply below_alloc | apply pw_below_drewN | apply below_drew1 | refine below_set ?_ (IsS175.ge HI174.out)) | exact HB.out)), fun _ h1_ => absurd ((up_self b 3).symm.trans h1_) (by decide), fun _ _ => (by repeat (first | (with_reducible first | exact HI174.out | apply IsS175.alloc | apply IsS175.drewN | apply IsS175.drew | apply IsS175.set_1 | apply IsS175.set_2) | exact HI174.out)), fun h0_ => absurd ((hoff 4 (by kernel_rfl)).symm.trans h0_) (by decide), fun h0_ => absurd ((hoff 4 (by kernel_rfl)).symm.trans h0_) (by decide), fun h0_ => absurd ((hoff 6 (by kernel_rfl)).symm.trans h0_) (by decide), fun h0_ => absurd ((hoff 7 (by kernel_rfl)).symm.trans h0_) (by decide)⟩
        refine steps_cons ?_ ?_
        · rintro b a w' ⟨v182, adz_v182, m7_, ha, Q_HI174, Q_HB, Q_HI174_e1, Q_HI174_e3, Q_HO183, Q_HA_HO183, Q_HI174_e6, Q_X7_⟩ hb_ hon hoff
          refine ⟨_, rfl, fun K hK => ?_⟩
          have e10 : a.tmps[10]? = some (.int .i64 t178) := by rw [ha]; exact putSel_on (e := (3, 10, .int .i64 t178)) 1 rfl rfl (hon 3 (by kernel_rfl)) rfl
          replace ha := Aside0.mk ha
          have HB := Aside0.mk Q_HB
          refine Kd.R_lit_step (Kd.int .i64) _ 2 ?hg (N := 11) ?hd (xs := ([0, 1, t178, 2147483647, 9223372036854775807, (-1)] : List Int)) (inner := [.int .i64 0, .int .i64 1, .int .i64 t178, .int .i64 2147483647, .int .i64 9223372036854775807, .int .i64 (-1)]) (ok := fun _ => True) (okp := fun _ => True) ?hr ?hp (fun _ hk => hk) trivial (Below.refl _ _) (Nat.le_refl _) (by simp) ?_; (case hd => rfl); (case hg => rfl); (case hr => first | (go_simp; done) | (go_simp; rfl)); (case hp => exact (Reps.one (show Kd.M (Kd.int .i64) _ _ _ 0 [.int .i64 0] from rfl) (Reps.one (show Kd.M (Kd.int .i64) _ _ _ 1 [.int .i64 1] from rfl) (Reps.one (show Kd.M (Kd.int .i64) _ _ _ t178 [.int .i64 t178] from rfl) (Reps.one (show Kd.M (Kd.int .i64) _ _ _ 2147483647 [.int .i64 2147483647] from rfl) (Reps.one (show Kd.M (Kd.int .i64) _ _ _ 9223372036854775807 [.int .i64 9223372036854775807] from rfl) (Reps.one (show Kd.M (Kd.int .i64) _ _ _ (-1) [.int .i64 (-1)] from rfl) (Reps.none _ _))))))))
          intro v182 w13 ho14 hb hg_ hnew_
          clear hg_ hnew_
          (first | rw [← Ny181.out] at ho14 | (simp only [Int.reduceToNat] at ho14; rw [← Ny181.out] at ho14))
          have n0_ := Aside0.mk (Kd.R_lower ho14 (below_size (by repeat (first | (with_reducible first | exact HB.out | apply below_alloc | apply pw_below_drewN | apply below_drew1) | exact HB.out))))
          have n2_ := Aside0.mk (below_step (by repeat (first | (with_reducible first | exact HB.out | apply below_alloc | apply pw_below_drewN | apply below_drew1) | exact HB.out)) hb)
          have z_HI174_e3 := fun (h0_ : b 3 = true) (h1_ : b 6 = false) => (show IsS175 w w13 g174 t171 t179 t180 from by first | exact (IsS175.below (by repeat (first | (with_reducible first | exact (Q_HI174_e3 h0_ h1_) | apply IsS175.alloc | apply IsS175.drewN | apply IsS175.drew | apply IsS175.set_1 | apply IsS175.set_2) | exact (Q_HI174_e3 h0_ h1_))) hb))
          have z_HI174_e6 := fun (h0_ : b 6 = true) => (show IsS175 w w13 g174 t171 t185 t186 from by first | exact (IsS175.below (by repeat (first | (with_reducible first | exact (Q_HI174_e6 h0_) | apply IsS175.alloc | apply IsS175.drewN | apply IsS175.drew | apply IsS175.set_1 | apply IsS175.set_2) | exact (Q_HI174_e6 h0_))) hb))
          clear HB
          have HO183 := n0_
          have HB := n2_
          clear n0_ n2_
          clear hb ho14
          obtain ⟨Ao15, co15, eo15⟩ := Kd.R_slice HO183.out
          subst eo15
          obtain ⟨ado15, fo15, _⟩ := Kd.at_int (Kd.R_reads' HO183.out).2.2 0 (by decide) (by rw [Ny181.out]; simp)
          cases fo15
          refine hK.out _ _ ⟨.slice (some ado15) y181.length co15, ado15, m7_, (by rw [ha.out]; exact putSel_upk 2 hb_ rfl rfl rfl), fun h0_ => absurd ((hon 1 (by kernel_rfl)).symm.trans h0_) (by decide), (by repeat (first | (with_reducible first | exact HB.out | apply below_alloc | apply pw_below_drewN | apply below_drew1) | exact HB.out)), fun _ h1_ => absurd ((hon 3 (by kernel_rfl)).symm.trans h1_) (by decide), z_HI174_e3, fun _ => (by (with_reducible repeat (first | apply Kd.R_alloc | apply Kd.R_drewN | apply Kd.R_drew)); exact HO183.out), fun _ => ⟨_, rfl⟩, z_HI174_e6, fun h0_ => absurd ((hoff 7 (by kernel_rfl)).symm.trans h0_) (by decide)⟩
        refine steps_cons ?_ ?_
        · rintro b a w' ⟨v182, adz_v182, m7_, ha, Q_HI174, Q_HB, Q_HI174_e1, Q_HI174_e3, Q_HO183, Q_HA_HO183, Q_HI174_e6, Q_X7_⟩ hb_ hon hoff
          refine ⟨_, rfl, fun K hK => ?_⟩
          have e12 : a.tmps[12]? = some (.pointer (some ⟨g174, 0, none⟩)) := by rw [ha]; exact (putSel_off rfl).trans rfl
          replace ha := Aside0.mk ha
          have HB := Aside0.mk Q_HB
          have HI174 := Aside0.mk (Q_HI174_e3 (hon 3 (by kernel_rfl)) hb_)
          refine goes_ Try.func75 (by kernel_rfl) rfl #[.pointer (some ⟨g174, 0, none⟩), .int .i64 6] (by rfl) rfl rfl (by first | (simp only [List.map_toArray, List.map_cons, List.map_nil, Act.eval, Array.getD_eq_getD_getElem?, Option.getD_some, e12]; done) | (simp only [List.map_toArray, List.map_cons, List.map_nil, Act.eval, Array.getD_eq_getD_getElem?, Option.getD_some, e12]; rfl)) ?_
          with_reducible refine (spec_l01Src_n.calls g174 t171 t179 t180 6 t184 t185 t186 w _ ?side1 ?side2 A5.out).mono ?_
          (case side1 => repeat (first | (with_reducible first | exact HI174.out | apply IsS175.alloc | apply IsS175.drewN | apply IsS175.drew | apply IsS175.set_1 | apply IsS175.set_2) | exact HI174.out))
          (case side2 => repeat (first | (with_reducible first | exact HB.out | apply below_alloc | apply pw_below_drewN | apply below_drew1 | refine below_set ?_ (IsS175.ge HI174.out)) | exact HB.out))
          rintro e w13 ⟨rfl, hi, hb, hk⟩
          refine ⟨_, rfl, ?_⟩
          have n0_ := Aside0.mk (hb)
          have n1_ := Aside0.mk (hi)
          have z_HO183 := fun (h0_ : b 4 = true) => (show Kd.R (Kd.int .i64) 2 w13 w.heap.size (fun _ => True) v182 y181 from by first | exact (Kd.R_mono (Kd.R_keep (IsS175.apart (show IsS175 w _ g174 t171 t179 t180 from by repeat (first | (with_reducible first | exact HI174.out | apply IsS175.alloc | apply IsS175.drewN | apply IsS175.drew | apply IsS175.set_1 | apply IsS175.set_2) | exact HI174.out)) (by (with_reducible repeat (first | apply Kd.R_alloc | apply Kd.R_drewN | apply Kd.R_drew)); exact (Q_HO183 h0_)) (by decide)) hk (fun _ h => h.2)) (fun _ h => h.1)) | exact Kd.R_mono (Kd.R_mono (Kd.R_keep (IsS175.apart (show IsS175 w _ g174 t171 t179 t180 from by repeat (first | (with_reducible first | exact HI174.out | apply IsS175.alloc | apply IsS175.drewN | apply IsS175.drew | apply IsS175.set_1 | apply IsS175.set_2) | exact HI174.out)) (by (with_reducible repeat (first | apply Kd.R_alloc | apply Kd.R_drewN | apply Kd.R_drew)); exact (Q_HO183 h0_)) (by decide)) hk (fun _ h => h.2)) (fun _ h => h.1)) (fun _ h_ => by first | trivial | exact h_ | exact h_.1))
          clear HB
          clear HI174
          have HB := n0_
          have HI174 := n1_
          clear n0_ n1_
          (try clear hb)
          (try clear hb2)
          (try clear hk)
          (try clear hi)
          refine hK.out _ _ ⟨v182, adz_v182, m7_, (by rw [ha.out]; exact putSel_upk 3 hb_ rfl rfl rfl), fun h0_ => absurd ((hon 1 (by kernel_rfl)).symm.trans h0_) (by decide), (by repeat (first | (with_reducible first | exact HB.out | apply below_alloc | apply pw_below_drewN | apply below_drew1 | refine below_set ?_ (IsS175.ge HI174.out)) | exact HB.out)), fun _ h1_ => absurd ((hon 3 (by kernel_rfl)).symm.trans h1_) (by decide), fun _ h1_ => absurd ((up_self b 6).symm.trans h1_) (by decide), z_HO183, Q_HA_HO183, fun _ => (by repeat (first | (with_reducible first | exact HI174.out | apply IsS175.alloc | apply IsS175.drewN | apply IsS175.drew | apply IsS175.set_1 | apply IsS175.set_2) | exact HI174.out)), fun h0_ => absurd ((hoff 7 (by kernel_rfl)).symm.trans h0_) (by decide)⟩
        refine steps_cons ?_ ?_
        · rintro b a w' ⟨v182, adz_v182, m7_, ha, Q_HI174, Q_HB, Q_HI174_e1, Q_HI174_e3, Q_HO183, Q_HA_HO183, Q_HI174_e6, Q_X7_⟩ hb_ hon hoff
          refine ⟨_, rfl, fun K hK => ?_⟩
          have e11 : a.tmps[11]? = some (v182) := by rw [ha]; exact putSel_on (e := (4, 11, v182)) 2 rfl rfl (hon 4 (by kernel_rfl)) rfl
          have e13 : a.tmps[13]? = some (.int .i64 t184) := by rw [ha]; exact putSel_on (e := (6, 13, .int .i64 t184)) 3 rfl rfl (hon 6 (by kernel_rfl)) rfl
          replace ha := Aside0.mk ha
          have HB := Aside0.mk Q_HB
          have HO183 := Aside0.mk (Q_HO183 (hon 4 (by kernel_rfl)))
          have HA_HO183 := Aside0.mk (Q_HA_HO183 (hon 4 (by kernel_rfl)))
          have HI174 := Aside0.mk (Q_HI174_e6 (hon 6 (by kernel_rfl)))
          obtain ⟨c_, hv_⟩ := HA_HO183.out
          rw [hv_] at e11
          refine value_ (w1 := w') (v := .pointer (some (adz_v182.add (t184).toNat))) (by rfl) rfl ?_ ?_
          · go_simp
            (try simp only [i64_w])
            try rfl
          refine hK.out _ _ ⟨v182, adz_v182, (.pointer (some (adz_v182.add (t184).toNat))), (by rw [ha.out]; exact putSel_upk 4 hb_ rfl rfl rfl), fun h0_ => absurd ((hon 1 (by kernel_rfl)).symm.trans h0_) (by decide), Q_HB, fun _ h1_ => absurd ((hon 3 (by kernel_rfl)).symm.trans h1_) (by decide), fun _ h1_ => absurd ((hon 6 (by kernel_rfl)).symm.trans h1_) (by decide), Q_HO183, Q_HA_HO183, Q_HI174_e6, fun _ => rfl⟩
        refine steps_cons ?_ ?_
        · rintro b a w' ⟨v182, adz_v182, m7_, ha, Q_HI174, Q_HB, Q_HI174_e1, Q_HI174_e3, Q_HO183, Q_HA_HO183, Q_HI174_e6, Q_X7_⟩ hb_ hon hoff
          refine ⟨_, rfl, fun K hK => ?_⟩
          have e14 : a.tmps[14]? = some (m7_) := by rw [ha]; exact putSel_on (e := (7, 14, m7_)) 4 rfl rfl (hon 7 (by kernel_rfl)) rfl
          rw [Q_X7_ (hon 7 (by kernel_rfl))] at e14
          replace ha := Aside0.mk ha
          have HB := Aside0.mk Q_HB
          have HO183 := Aside0.mk (Q_HO183 (hon 4 (by kernel_rfl)))
          have HA_HO183 := Aside0.mk (Q_HA_HO183 (hon 4 (by kernel_rfl)))
          have HI174 := Aside0.mk (Q_HI174_e6 (hon 6 (by kernel_rfl)))
          obtain ⟨c_, hv_⟩ := HA_HO183.out
          have hF_ := HO183.out
          rw [hv_] at hF_
          obtain ⟨ad_, ea_, hx_⟩ := Kd.at_int (Kd.R_reads' hF_).2.2 t184 (of_eq_true pi187) (of_eq_true qi187)
          cases ea_
          refine value_ (w1 := w') (v := .int .i64 (rd y181 t184)) (by rfl) rfl ?_ ?_
          · go_simp
            (try simp only [i64_w])
            try rfl
          refine hK.out _ _ ⟨v182, adz_v182, m7_, (by rw [ha.out]; exact putSel_upk 5 hb_ rfl rfl rfl), fun h0_ => absurd ((hon 1 (by kernel_rfl)).symm.trans h0_) (by decide), Q_HB, fun _ h1_ => absurd ((hon 3 (by kernel_rfl)).symm.trans h1_) (by decide), fun _ h1_ => absurd ((hon 6 (by kernel_rfl)).symm.trans h1_) (by decide), Q_HO183, Q_HA_HO183, Q_HI174_e6, Q_X7_⟩
        refine steps_cons ?_ ?_
        · rintro b a w' ⟨v182, adz_v182, m7_, ha, Q_HI174, Q_HB, Q_HI174_e1, Q_HI174_e3, Q_HO183, Q_HA_HO183, Q_HI174_e6, Q_X7_⟩ hb_ hon hoff
          refine ⟨_, rfl, fun K hK => ?_⟩
          have e8 : a.tmps[8]? = some (.string t175) := by rw [ha]; exact putSel_on (e := (1, 8, .string t175)) 0 rfl rfl (hon 1 (by kernel_rfl)) rfl
          replace ha := Aside0.mk ha
          have HB := Aside0.mk Q_HB
          have HI174 := Aside0.mk (Q_HI174_e6 (hon 6 (by kernel_rfl)))
          refine value_ (w1 := w') (v := .string t175) (by rfl) rfl ?_ ?_
          · go_simp
            (try simp only [i64_w])
            try rfl
          refine hK.out _ _ ⟨v182, adz_v182, m7_, (by rw [ha.out]; exact putSel_upk 6 hb_ rfl rfl rfl), fun h0_ => absurd ((hon 1 (by kernel_rfl)).symm.trans h0_) (by decide), Q_HB, fun _ h1_ => absurd ((hon 3 (by kernel_rfl)).symm.trans h1_) (by decide), fun _ h1_ => absurd ((hon 6 (by kernel_rfl)).symm.trans h1_) (by decide), Q_HO183, Q_HA_HO183, Q_HI174_e6, Q_X7_⟩
        refine steps_cons ?_ ?_
        · rintro b a w' ⟨v182, adz_v182, m7_, ha, Q_HI174, Q_HB, Q_HI174_e1, Q_HI174_e3, Q_HO183, Q_HA_HO183, Q_HI174_e6, Q_X7_⟩ hb_ hon hoff
          refine ⟨_, rfl, fun K hK => ?_⟩
          have e15 : a.tmps[15]? = some (.int .i64 (rd y181 t184)) := by rw [ha]; exact putSel_on (e := (8, 15, .int .i64 (rd y181 t184))) 5 rfl rfl (hon 8 (by kernel_rfl)) rfl
          replace ha := Aside0.mk ha
          have HB := Aside0.mk Q_HB
          have HO183 := Aside0.mk (Q_HO183 (hon 4 (by kernel_rfl)))
          have HA_HO183 := Aside0.mk (Q_HA_HO183 (hon 4 (by kernel_rfl)))
          have HI174 := Aside0.mk (Q_HI174_e6 (hon 6 (by kernel_rfl)))
          refine value_ (w1 := w') (v := .int .i64 (rd y181 t184)) (by rfl) rfl ?_ ?_
          · go_simp
            (try simp only [i64_w])
            try rfl
          refine hK.out _ _ ⟨v182, adz_v182, m7_, (by rw [ha.out]; exact putSel_upk 7 hb_ rfl rfl rfl), fun h0_ => absurd ((hon 1 (by kernel_rfl)).symm.trans h0_) (by decide), Q_HB, fun _ h1_ => absurd ((hon 3 (by kernel_rfl)).symm.trans h1_) (by decide), fun _ h1_ => absurd ((hon 6 (by kernel_rfl)).symm.trans h1_) (by decide), Q_HO183, Q_HA_HO183, Q_HI174_e6, Q_X7_⟩
        exact steps_nil
      rintro b a w16 hall ⟨v182, adz_v182, m7_, ha, Q_HI174, Q_HB, Q_HI174_e1, Q_HI174_e3, Q_HO183, Q_HA_HO183, Q_HI174_e6, Q_X7_⟩
      clear HB HI174
      have hb1_ := hall 1 (by kernel_rfl)
      have hb3_ := hall 3 (by kernel_rfl)
      have hb4_ := hall 4 (by kernel_rfl)
      have hb6_ := hall 6 (by kernel_rfl)
      have hb7_ := hall 7 (by kernel_rfl)
      have hb8_ := hall 8 (by kernel_rfl)
      have hb9_ := hall 9 (by kernel_rfl)
      have hb10_ := hall 10 (by kernel_rfl)
      subst ha
      obtain rfl := Q_X7_ hb7_
      simp only [putSel, hb1_, hb3_, hb4_, hb6_, hb7_, hb8_, hb9_, hb10_, if_true, Act.put, List.setIfInBounds_toArray, List.set_cons_zero, List.set_cons_succ]
      clear Q_HI174
      have HB := Aside0.mk Q_HB
      clear Q_HB
      clear Q_HI174_e1
      clear Q_HI174_e3
      have HO183 := Aside0.mk (Q_HO183 hb4_)
      clear Q_HO183
      have HA_HO183 := Aside0.mk (Q_HA_HO183 hb4_)
      clear Q_HA_HO183
      have HI174 := Aside0.mk (Q_HI174_e6 hb6_)
      clear Q_HI174_e6
      clear hall hb1_ hb3_ hb4_ hb6_ hb7_ hb8_ hb9_ hb10_
      obtain ⟨co17, eo17⟩ := HA_HO183.out
      clear HA_HO183
      subst eo17
      try go_wp2
      go_ret2
      exact ⟨by first | rfl | (simp [errW_none, errW_some] <;> rfl) | (simp [*, errW_none, errW_some] <;> rfl), by repeat (first | (with_reducible first | exact HB.out | apply below_alloc | apply pw_below_drewN | apply below_drew1 | refine below_set ?_ (IsS175.ge HI174.out)) | exact HB.out)⟩
    · rw [if_neg c7] at H
      exact absurd H (by simp)
  · rw [if_neg c6] at H
    exact absurd H (by simp)

/-! ### impl_SumOf: function 16 -/
mutual
def impl_SumOf.j0 : Nat → ByteArray → Int → Bool → Option (Int)
  | 0, _, _, _ => none
  | k + 1, x0, x1, x13 => if x13 = true then (some 0) else (impl_SumOf.l0 k x0 (wrap64 ((Int.tmod x1 2147483647) + 1)) (x0.size : Int) 0)
def impl_SumOf.l0 : Nat → ByteArray → Int → Int → Int → Option (Int)
  | 0, _, _, _, _ => none
  | k + 1, x0, x5, x18, x19 => if x19 < x18 then (if 0 ≤ x19 then (if x19 < (x0.size : Int) then (impl_SumOf.l0 k x0 (Int.tmod (wrap64 ((wrap64 ((wrap64 (x5 * 65539)) + (wrap64 (bt x0 x19)))) + 1)) 2147483647) x18 (wrap64 (x19 + 1))) else (none)) else (none)) else (some x5)
end
def impl_SumOf.f (k : Nat) (a0 : ByteArray) (a1 : Int) : Option (Int) := if a1 < 0 then (impl_SumOf.j0 k a0 a1 true) else (impl_SumOf.j0 k a0 a1 (decide ((a0.size : Int) > 400000)))
theorem impl_SumOf.mono_l : ∀ k, (∀ y0 y1 y2, LeO (impl_SumOf.j0 k y0 y1 y2) (impl_SumOf.j0 (k + 1) y0 y1 y2)) ∧ (∀ y0 y1 y2 y3, LeO (impl_SumOf.l0 k y0 y1 y2 y3) (impl_SumOf.l0 (k + 1) y0 y1 y2 y3))
  | 0 => ⟨fun _ _ _ r h => by simp [impl_SumOf.j0] at h, fun _ _ _ _ r h => by simp [impl_SumOf.l0] at h⟩
  | k + 1 => by
    obtain ⟨ih0, ih1⟩ := impl_SumOf.mono_l k
    refine ⟨?_, ?_⟩
    · intro y0 y1 y2
      unfold impl_SumOf.j0
      repeat' first
      | (with_reducible exact ih0 _ _ _)
      | (with_reducible exact ih1 _ _ _ _)
      | (with_reducible exact LeO.refl _)
      | (with_reducible exact LeO.none _)
      | (with_reducible refine LeO.ite ?_ ?_)
      | (with_reducible refine LeO.bind ?_ (fun _ => ?_))
      | exact ih0 _ _ _
      | exact ih1 _ _ _ _
      | exact LeO.none _
      | refine LeO.ite ?_ ?_
      | refine LeO.bind ?_ (fun _ => ?_)
    · intro y0 y1 y2 y3
      unfold impl_SumOf.l0
      repeat' first
      | (with_reducible exact ih0 _ _ _)
      | (with_reducible exact ih1 _ _ _ _)
      | (with_reducible exact LeO.refl _)
      | (with_reducible exact LeO.none _)
      | (with_reducible refine LeO.ite ?_ ?_)
      | (with_reducible refine LeO.bind ?_ (fun _ => ?_))
      | exact ih0 _ _ _
      | exact ih1 _ _ _ _
      | exact LeO.none _
      | refine LeO.ite ?_ ?_
      | refine LeO.bind ?_ (fun _ => ?_)
theorem impl_SumOf.mono : ∀ a0 a1 k, LeO (impl_SumOf.f k a0 a1) (impl_SumOf.f (k + 1) a0 a1) := by
  intro a0 a1 k
  obtain ⟨ih0, ih1⟩ := impl_SumOf.mono_l k
  unfold impl_SumOf.f
  repeat' first
      | (with_reducible exact ih0 _ _ _)
      | (with_reducible exact ih1 _ _ _ _)
      | (with_reducible exact LeO.refl _)
      | (with_reducible exact LeO.none _)
      | (with_reducible refine LeO.ite ?_ ?_)
      | (with_reducible refine LeO.bind ?_ (fun _ => ?_))
      | exact ih0 _ _ _
      | exact ih1 _ _ _ _
      | exact LeO.none _
      | refine LeO.ite ?_ ?_
      | refine LeO.bind ?_ (fun _ => ?_)
set_option maxHeartbeats 8000000 in
set_option maxRecDepth 100000 in
theorem impl_SumOf.calls (k : Nat) (a0 : ByteArray) (a1 : Int) (r : Int) (w : World) (h : impl_SumOf.f k a0 a1 = some r) :
    Calls Try.prog 16 #[.string a0, .int .i64 a1] w fun e w' => e = .returned (.int .i64 r) ∧ Drawn0 w w' := by
  have H : (if a1 < 0 then (impl_SumOf.j0 k a0 a1 true) else (impl_SumOf.j0 k a0 a1 (decide ((a0.size : Int) > 400000)))) = some r := h
  clear h
  have HC3 := Aside0.mk H
  clear H
  go_enter Try.func16, Try.ntmps16
  go_upto_region 1 with (fail)
  go_cut [13] (fun v13 wc => ∃ (kq : Nat) (x13_2 : Bool), v13 = .bool x13_2 ∧ Aside0 (impl_SumOf.j0 kq a0 a1 x13_2 = some r) ∧ Aside0 (kq ≤ k) ∧ Drawn0 w wc)
  case first =>
    have H := HC3.out
    clear HC3
    by_cases c4 : a1 < 0
    · rw [if_pos c4] at H
      have c4b0 : decide (a1 < 0) = true := decide_eq_true c4
      clear c4
      (first | rw [c4b0] | (simp only [i64_w, i32_w]; rw [c4b0]) | skip)
      have H' := Aside0.mk H
      clear H
      go_wp2
      go_meet
      case rel => exact ⟨_, (true), (by first | rfl | (simp; done) | (simp [*]; done)), H', ⟨by first | omega | exact Nat.le_refl _⟩, by repeat (first | exact Drawn0.refl _ | apply Drawn0.step)⟩
    · rw [if_neg c4] at H
      have c4b0 : decide (a1 < 0) = false := decide_eq_false c4
      clear c4
      (first | rw [c4b0] | (simp only [i64_w, i32_w]; rw [c4b0]) | skip)
      have H' := Aside0.mk H
      clear H
      go_wp2
      go_meet
      case rel => exact ⟨_, (decide ((a0.size : Int) > 400000)), (by first | rfl | (simp; done) | (simp [*]; done)), H', ⟨by first | omega | exact Nat.le_refl _⟩, by repeat (first | exact Drawn0.refl _ | apply Drawn0.step)⟩
  case rest =>
    clear HC3
    try clear c1
    try clear p2
    try clear c4
    try clear c4b0
    obtain ⟨kq, x13_2, rfl, HA, HJ2, ⟨mc2, rfl⟩⟩ := hcut
    cases kq with
    | zero => exact absurd HA.out (by simp [impl_SumOf.j0])
    | succ kj2 =>
      have H := HA.out
      clear HA
      simp only [impl_SumOf.j0] at H
      by_cases c5 : x13_2 = true
      · subst c5
        have H1 : (some 0) = some r := by rw [if_pos rfl] at H; exact H
        clear H
        have H := H1
        clear H1
        obtain rfl := Option.some.inj H
        go_wp2
        go_ret
        exact ⟨by first | rfl | (simp; done) | (simp [*]; done), by repeat (first | exact Drawn0.refl _ | apply Drawn0.step)⟩
      · replace c5 := Bool.eq_false_iff.mpr c5
        subst c5
        have H1 : (impl_SumOf.l0 kj2 a0 (wrap64 ((Int.tmod a1 2147483647) + 1)) (a0.size : Int) 0) = some r := by rw [if_neg (show ¬ (false = true) by decide)] at H; exact H
        clear H
        have H := H1
        clear H1
        have H' := Aside0.mk H
        clear H
        go_wp2
        go_loopg [5, 19] kj2 (fun kq v5 v19 w' => ∃ (x5_2 : Int) (x19_2 : Int), v5 = .int .i64 x5_2 ∧ v19 = .int .i64 x19_2 ∧ Aside0 (impl_SumOf.l0 kq a0 x5_2 (a0.size : Int) x19_2 = some r) ∧ Aside0 (kq ≤ kj2) ∧ Drawn0 w w')
        case atStart => exact ⟨(wrap64 ((Int.tmod a1 2147483647) + 1)), (0), (by first | rfl | (simp; done) | (simp [*]; done)), (by first | rfl | (simp; done) | (simp [*]; done)), H', ⟨Nat.le_refl _⟩, by repeat (first | exact Drawn0.refl _ | apply Drawn0.step)⟩
        case round =>
          clear H'
          try clear c1
          try clear c2
          try clear p2
          try clear c4
          try clear c4b0
          try clear c5
          try clear p2
          obtain ⟨x5_2, x19_2, rfl, rfl, HA, HK2, ⟨m2, rfl⟩⟩ := hrel
          cases gk with
          | zero => exact absurd HA.out (by simp [impl_SumOf.l0])
          | succ k2 =>
            have H := HA.out
            clear HA
            simp only [impl_SumOf.l0] at H
            by_cases c6 : x19_2 < (a0.size : Int)
            · rw [if_pos c6] at H
              have c6b0 : decide (x19_2 < (a0.size : Int)) = true := decide_eq_true c6
              clear c6
              by_cases c7 : 0 ≤ x19_2
              · rw [if_pos c7] at H
                have c7b0 : decide (0 ≤ x19_2) = true := decide_eq_true c7
                clear c7
                by_cases c8 : x19_2 < (a0.size : Int)
                · rw [if_pos c8] at H
                  have c8b0 : decide (x19_2 < (a0.size : Int)) = true := decide_eq_true c8
                  clear c8
                  have H' := Aside0.mk H
                  clear H
                  have p9 : 0 ≤ (x19_2 : Int) := of_decide_eq_true (by first | (with_reducible assumption) | assumption)
                  have q9 : x19_2 < (a0.size : Int) := of_decide_eq_true (by first | (with_reducible assumption) | assumption)
                  have hx9 := bt_at a0 x19_2
                  replace p9 := eq_true p9
                  replace q9 := eq_true q9
                  go_wp2
                  go_roundg k2
                  case measure => have := HJ2.out; have := HK2.out; omega
                  case rel => exact ⟨(Int.tmod (wrap64 ((wrap64 ((wrap64 (x5_2 * 65539)) + (wrap64 (bt a0 x19_2)))) + 1)) 2147483647), (wrap64 (x19_2 + 1)), (by first | rfl | (simp; done) | (simp [*]; done)), (by first | rfl | (simp; done) | (simp [*]; done)), H', ⟨by have := HJ2.out; have := HK2.out; omega⟩, by repeat (first | exact Drawn0.refl _ | apply Drawn0.step)⟩
                · rw [if_neg c8] at H
                  exact absurd H (by simp)
              · rw [if_neg c7] at H
                exact absurd H (by simp)
            · rw [if_neg c6] at H
              have c6b0 : decide (x19_2 < (a0.size : Int)) = false := decide_eq_false c6
              clear c6
              obtain rfl := Option.some.inj H
              go_wp2
              go_ret
              exact ⟨by first | rfl | (simp; done) | (simp [*]; done), by repeat (first | exact Drawn0.refl _ | apply Drawn0.step)⟩

/-! ### spec_SumOf: function 17 -/
mutual
def spec_SumOf.j0 : Nat → ByteArray → Int → Bool → Option (Int)
  | 0, _, _, _ => none
  | k + 1, x0, x1, x13 => if x13 = true then (some 0) else (spec_SumOf.l0 k x0 (wrap64 ((Int.tmod x1 2147483647) + 1)) 0)
def spec_SumOf.l0 : Nat → ByteArray → Int → Int → Option (Int)
  | 0, _, _, _ => none
  | k + 1, x0, x5, x6 => if x6 < (x0.size : Int) then (if 0 ≤ x6 then (spec_SumOf.l0 k x0 (Int.tmod (wrap64 ((wrap64 ((wrap64 (x5 * 65539)) + (wrap64 (bt x0 x6)))) + 1)) 2147483647) (wrap64 (x6 + 1))) else (none)) else (some x5)
end
def spec_SumOf.f (k : Nat) (a0 : ByteArray) (a1 : Int) : Option (Int) := if a1 < 0 then (spec_SumOf.j0 k a0 a1 true) else (spec_SumOf.j0 k a0 a1 (decide ((a0.size : Int) > 400000)))
theorem spec_SumOf.mono_l : ∀ k, (∀ y0 y1 y2, LeO (spec_SumOf.j0 k y0 y1 y2) (spec_SumOf.j0 (k + 1) y0 y1 y2)) ∧ (∀ y0 y1 y2, LeO (spec_SumOf.l0 k y0 y1 y2) (spec_SumOf.l0 (k + 1) y0 y1 y2))
  | 0 => ⟨fun _ _ _ r h => by simp [spec_SumOf.j0] at h, fun _ _ _ r h => by simp [spec_SumOf.l0] at h⟩
  | k + 1 => by
    obtain ⟨ih0, ih1⟩ := spec_SumOf.mono_l k
    refine ⟨?_, ?_⟩
    · intro y0 y1 y2
      unfold spec_SumOf.j0
      repeat' first
      | (with_reducible exact ih0 _ _ _)
      | (with_reducible exact ih1 _ _ _)
      | (with_reducible exact LeO.refl _)
      | (with_reducible exact LeO.none _)
      | (with_reducible refine LeO.ite ?_ ?_)
      | (with_reducible refine LeO.bind ?_ (fun _ => ?_))
      | exact ih0 _ _ _
      | exact ih1 _ _ _
      | exact LeO.none _
      | refine LeO.ite ?_ ?_
      | refine LeO.bind ?_ (fun _ => ?_)
    · intro y0 y1 y2
      unfold spec_SumOf.l0
      repeat' first
      | (with_reducible exact ih0 _ _ _)
      | (with_reducible exact ih1 _ _ _)
      | (with_reducible exact LeO.refl _)
      | (with_reducible exact LeO.none _)
      | (with_reducible refine LeO.ite ?_ ?_)
      | (with_reducible refine LeO.bind ?_ (fun _ => ?_))
      | exact ih0 _ _ _
      | exact ih1 _ _ _
      | exact LeO.none _
      | refine LeO.ite ?_ ?_
      | refine LeO.bind ?_ (fun _ => ?_)
theorem spec_SumOf.mono : ∀ a0 a1 k, LeO (spec_SumOf.f k a0 a1) (spec_SumOf.f (k + 1) a0 a1) := by
  intro a0 a1 k
  obtain ⟨ih0, ih1⟩ := spec_SumOf.mono_l k
  unfold spec_SumOf.f
  repeat' first
      | (with_reducible exact ih0 _ _ _)
      | (with_reducible exact ih1 _ _ _)
      | (with_reducible exact LeO.refl _)
      | (with_reducible exact LeO.none _)
      | (with_reducible refine LeO.ite ?_ ?_)
      | (with_reducible refine LeO.bind ?_ (fun _ => ?_))
      | exact ih0 _ _ _
      | exact ih1 _ _ _
      | exact LeO.none _
      | refine LeO.ite ?_ ?_
      | refine LeO.bind ?_ (fun _ => ?_)
set_option maxHeartbeats 8000000 in
set_option maxRecDepth 100000 in
theorem spec_SumOf.calls (k : Nat) (a0 : ByteArray) (a1 : Int) (r : Int) (w : World) (h : spec_SumOf.f k a0 a1 = some r) :
    Calls Try.prog 17 #[.string a0, .int .i64 a1] w fun e w' => e = .returned (.int .i64 r) ∧ Drawn0 w w' := by
  have H : (if a1 < 0 then (spec_SumOf.j0 k a0 a1 true) else (spec_SumOf.j0 k a0 a1 (decide ((a0.size : Int) > 400000)))) = some r := h
  clear h
  have HC3 := Aside0.mk H
  clear H
  go_enter Try.func17, Try.ntmps17
  go_upto_region 1 with (fail)
  go_cut [13] (fun v13 wc => ∃ (kq : Nat) (x13_2 : Bool), v13 = .bool x13_2 ∧ Aside0 (spec_SumOf.j0 kq a0 a1 x13_2 = some r) ∧ Aside0 (kq ≤ k) ∧ Drawn0 w wc)
  case first =>
    have H := HC3.out
    clear HC3
    by_cases c4 : a1 < 0
    · rw [if_pos c4] at H
      have c4b0 : decide (a1 < 0) = true := decide_eq_true c4
      clear c4
      (first | rw [c4b0] | (simp only [i64_w, i32_w]; rw [c4b0]) | skip)
      have H' := Aside0.mk H
      clear H
      go_wp2
      go_meet
      case rel => exact ⟨_, (true), (by first | rfl | (simp; done) | (simp [*]; done)), H', ⟨by first | omega | exact Nat.le_refl _⟩, by repeat (first | exact Drawn0.refl _ | apply Drawn0.step)⟩
    · rw [if_neg c4] at H
      have c4b0 : decide (a1 < 0) = false := decide_eq_false c4
      clear c4
      (first | rw [c4b0] | (simp only [i64_w, i32_w]; rw [c4b0]) | skip)
      have H' := Aside0.mk H
      clear H
      go_wp2
      go_meet
      case rel => exact ⟨_, (decide ((a0.size : Int) > 400000)), (by first | rfl | (simp; done) | (simp [*]; done)), H', ⟨by first | omega | exact Nat.le_refl _⟩, by repeat (first | exact Drawn0.refl _ | apply Drawn0.step)⟩
  case rest =>
    clear HC3
    try clear c1
    try clear p2
    try clear c4
    try clear c4b0
    obtain ⟨kq, x13_2, rfl, HA, HJ2, ⟨mc2, rfl⟩⟩ := hcut
    cases kq with
    | zero => exact absurd HA.out (by simp [spec_SumOf.j0])
    | succ kj2 =>
      have H := HA.out
      clear HA
      simp only [spec_SumOf.j0] at H
      by_cases c5 : x13_2 = true
      · subst c5
        have H1 : (some 0) = some r := by rw [if_pos rfl] at H; exact H
        clear H
        have H := H1
        clear H1
        obtain rfl := Option.some.inj H
        go_wp2
        go_ret
        exact ⟨by first | rfl | (simp; done) | (simp [*]; done), by repeat (first | exact Drawn0.refl _ | apply Drawn0.step)⟩
      · replace c5 := Bool.eq_false_iff.mpr c5
        subst c5
        have H1 : (spec_SumOf.l0 kj2 a0 (wrap64 ((Int.tmod a1 2147483647) + 1)) 0) = some r := by rw [if_neg (show ¬ (false = true) by decide)] at H; exact H
        clear H
        have H := H1
        clear H1
        have H' := Aside0.mk H
        clear H
        go_wp2
        go_loopg [5, 6] kj2 (fun kq v5 v6 w' => ∃ (x5_2 : Int) (x6_2 : Int), v5 = .int .i64 x5_2 ∧ v6 = .int .i64 x6_2 ∧ Aside0 (spec_SumOf.l0 kq a0 x5_2 x6_2 = some r) ∧ Aside0 (kq ≤ kj2) ∧ Drawn0 w w')
        case atStart => exact ⟨(wrap64 ((Int.tmod a1 2147483647) + 1)), (0), (by first | rfl | (simp; done) | (simp [*]; done)), (by first | rfl | (simp; done) | (simp [*]; done)), H', ⟨Nat.le_refl _⟩, by repeat (first | exact Drawn0.refl _ | apply Drawn0.step)⟩
        case round =>
          clear H'
          try clear c1
          try clear c2
          try clear p2
          try clear c4
          try clear c4b0
          try clear c5
          try clear p2
          obtain ⟨x5_2, x6_2, rfl, rfl, HA, HK2, ⟨m2, rfl⟩⟩ := hrel
          cases gk with
          | zero => exact absurd HA.out (by simp [spec_SumOf.l0])
          | succ k2 =>
            have H := HA.out
            clear HA
            simp only [spec_SumOf.l0] at H
            by_cases c6 : x6_2 < (a0.size : Int)
            · rw [if_pos c6] at H
              have c6b0 : decide (x6_2 < (a0.size : Int)) = true := decide_eq_true c6
              clear c6
              by_cases c7 : 0 ≤ x6_2
              · rw [if_pos c7] at H
                have c7b0 : decide (0 ≤ x6_2) = true := decide_eq_true c7
                clear c7
                have H' := Aside0.mk H
                clear H
                have p8 : 0 ≤ (x6_2 : Int) := of_decide_eq_true (by first | (with_reducible assumption) | assumption)
                have q8 : x6_2 < (a0.size : Int) := of_decide_eq_true (by first | (with_reducible assumption) | assumption)
                have hx8 := bt_at a0 x6_2
                replace p8 := eq_true p8
                replace q8 := eq_true q8
                go_wp2
                go_roundg k2
                case measure => have := HJ2.out; have := HK2.out; omega
                case rel => exact ⟨(Int.tmod (wrap64 ((wrap64 ((wrap64 (x5_2 * 65539)) + (wrap64 (bt a0 x6_2)))) + 1)) 2147483647), (wrap64 (x6_2 + 1)), (by first | rfl | (simp; done) | (simp [*]; done)), (by first | rfl | (simp; done) | (simp [*]; done)), H', ⟨by have := HJ2.out; have := HK2.out; omega⟩, by repeat (first | exact Drawn0.refl _ | apply Drawn0.step)⟩
              · rw [if_neg c7] at H
                exact absurd H (by simp)
            · rw [if_neg c6] at H
              have c6b0 : decide (x6_2 < (a0.size : Int)) = false := decide_eq_false c6
              clear c6
              obtain rfl := Option.some.inj H
              go_wp2
              go_ret
              exact ⟨by first | rfl | (simp; done) | (simp [*]; done), by repeat (first | exact Drawn0.refl _ | apply Drawn0.step)⟩

/-! ### laws_lwTurn: function 18 -/
/-- The number with which the byte is turned. -/
def lwBy (y : Int) : Int := (wrap64 (1 + Int.tmod y 255)) % 256
/-- The text, with one byte turned. -/
def lwOut (s : ByteArray) (i : Nat) (y : Int) (j : Nat) : Int := if j = i then Go.bits .xor .u8 (bt s (i : Int)) (lwBy y) else bt s (j : Int)
def lwText (s : ByteArray) (i : Nat) (y : Int) : ByteArray := strOfNums ((List.range s.size).map (lwOut s i y))
def laws_lwTurn.f (a0 : ByteArray) (a1 : Int) (a2 : Int) : Option (ByteArray) := if (a0.size : Int) = 0 then (some a0) else (if 0 ≤ (Int.tmod a1 (a0.size : Int)) then (if (Int.tmod a1 (a0.size : Int)) < (a0.size : Int) then (some (lwText a0 (Int.tmod a1 (a0.size : Int)).toNat a2)) else (none)) else (none))
/-- The row of a conversion: its bytes, free to be written. -/
structure LwInv (w wr : World) (b : Nat) (s : ByteArray) (out : Nat → Int) : Prop where
  cell : ∀ j, j < s.size → wr.cell? ⟨b, j, none⟩ = some (.int .u8 (out j))
  free : ∀ j, j < s.size → wr.frozen? ⟨b, j, none⟩ = false
  bel : Below w.heap.size w wr
theorem LwInv.start (w : World) (s : ByteArray) : LwInv w (Lib.bytesWorld w 5 s) w.heap.size s (fun j => bt s (j : Int)) where
  cell := fun j hj => by
    rw [Lib.bytesWorld_cell w 5 s j hj]
    have e : (s.data.toList.getD j 0).toNat = bt s (j : Int) := by
      unfold bt
      rw [dif_pos (by simpa using hj)]
      simp [List.getD, ByteArray.getElem_eq_getElem_data, hj]
    rw [← e]
  free := fun j hj => by
    have h := Lib.bytesWorld_at_new w 5 s
    have hs : s.size ≤ (Lib.bytesCells w 5 s).size := by unfold Lib.bytesCells; simp
    simp [World.frozen?, h]
    omega
  bel := ⟨rfl, rfl, rfl, by rw [Lib.bytesWorld_size]; omega, fun k hk => Lib.bytesWorld_at_old w 5 s k hk⟩
theorem LwInv.set {w wr : World} {b : Nat} {s : ByteArray} (h : LwInv w wr b s (fun j => bt s (j : Int))) (hb : w.heap.size ≤ b) (i : Nat) (hi : i < s.size) (y : Int) :
    LwInv w (wr.setCell ⟨b, i, none⟩ (.int .u8 (Go.bits .xor .u8 (bt s (i : Int)) (lwBy y)))) b s (lwOut s i y) where
  cell := fun j hj => by
    unfold lwOut
    by_cases e : j = i
    · subst e
      rw [if_pos rfl]
      exact World.cell?_setCell_same _ _ _ (h.cell j hj)
    · rw [if_neg e, World.cell?_setCell_other _ _ _ _ (fun e' => e (by injection e' with _ e2 _; exact e2.symm))]
      exact h.cell j hj
  free := fun j hj => (World.frozen?_setCell _ _ _ _).trans (h.free j hj)
  bel := h.bel.setCell hb _
set_option maxHeartbeats 8000000 in
set_option maxRecDepth 100000 in
theorem laws_lwTurn.calls (a0 : ByteArray) (a1 : Int) (a2 : Int) (r : ByteArray) (w : World) (h : laws_lwTurn.f a0 a1 a2 = some r) :
    Calls Try.prog 18 #[.string a0, .int .i64 a1, .int .i64 a2] w fun e w' => e = .returned (.string r) ∧ Below w.heap.size w w' := by
  have H : (if (a0.size : Int) = 0 then (some a0) else (if 0 ≤ (Int.tmod a1 (a0.size : Int)) then (if (Int.tmod a1 (a0.size : Int)) < (a0.size : Int) then (some (lwText a0 (Int.tmod a1 (a0.size : Int)).toNat a2)) else (none)) else (none))) = some r := h
  clear h
  by_cases c1 : (a0.size : Int) = 0
  · rw [if_pos c1] at H
    obtain rfl := Option.some.inj H
    have c1b : ((a0.size : Int) == 0) = true := beq_iff_eq.mpr c1
    have hB := Aside0.mk (Below.refl w.heap.size w)
    go_enter Try.func18, Try.ntmps18
    go_wp2
    go_ret
    exact ⟨rfl, by repeat (first | exact hB.out | apply below_drew1)⟩
  · rw [if_neg c1] at H
    have c1b : ((a0.size : Int) == 0) = false := beq_eq_false_iff_ne.mpr c1
    by_cases c2 : 0 ≤ (Int.tmod a1 (a0.size : Int))
    · rw [if_pos c2] at H
      by_cases c3 : (Int.tmod a1 (a0.size : Int)) < (a0.size : Int)
      · rw [if_pos c3] at H
        obtain rfl := Option.some.inj H
        clear H
        have hcv := fun W : World => Lib.run_convert_string_bytes (P := Try.prog) W 9 22 5 a0 Try.underlying9 Try.underlying22 Try.underlying5
        obtain ⟨i, hi⟩ : ∃ i : Nat, Int.tmod a1 (a0.size : Int) = (i : Int) := ⟨_, (Int.toNat_of_nonneg c2).symm⟩
        rw [hi] at c2 c3 ⊢
        rw [Int.toNat_natCast]
        have hlt : i < a0.size := by omega
        have HS := LwInv.start w a0
        have hci := HS.cell i hlt
        have hfi := HS.free i hlt
        have HN := Aside0.mk (HS.set (Nat.le_refl _) i hlt a2)
        clear HS
        have hxs := fun j hj => HN.out.cell j hj
        have hback := run_convert_bytes_arg (P := Try.prog) ((Lib.bytesWorld w 5 a0).setCell ⟨w.heap.size, i, none⟩ (.int .u8 (Go.bits .xor .u8 (bt a0 (i : Int)) (lwBy a2)))) 22 5 Try.underlying22 Try.underlying5 w.heap.size 0 a0.size (grownCap w a0.size 0 5) ((List.range a0.size).map (lwOut a0 i a2)) (by simp) (fun j hj => by rw [Nat.zero_add, hxs j hj]; congr 2; simp [List.getD, List.getElem?_map, List.getElem?_range hj]) 9 Try.underlying9
        clear hxs
        unfold lwBy at hback
        go_enter Try.func18, Try.ntmps18
        go_wp2
        go_ret
        exact ⟨rfl, HN.out.bel⟩
      · rw [if_neg c3] at H
        exact absurd H (by simp)
    · rw [if_neg c2] at H
      exact absurd H (by simp)

/-! ### laws_lwAt: function 19 -/
def laws_lwAt.f (l0 : List Int) (a1 : Int) : Option (Int) := if a1 < (l0.length : Int) then (if 0 ≤ a1 then (some (wrap64 (rd l0 a1))) else (none)) else (some (Int.tmod (wrap64 ((wrap64 (a1 * 61)) + 29)) 256))
set_option maxHeartbeats 8000000 in
set_option maxRecDepth 100000 in
theorem laws_lwAt.calls (A0 : Option Addr) (c0 : Nat) (l0 : List Int) (a1 : Int) (r : Int) (w : World) (hr0 : Kd.C (Kd.int .u8) w A0 l0.length l0) (hc0 : l0.length ≤ c0) (h : laws_lwAt.f l0 a1 = some r) :
    Calls Try.prog 19 #[.slice A0 l0.length c0, .int .i64 a1] w fun e w' => e = .returned (.int .i64 r) ∧ Drawn0 w w' := by
  have HR0 := Aside0.mk hr0
  have HC0 := Aside0.mk hc0
  clear hr0 hc0
  have H : (if a1 < (l0.length : Int) then (if 0 ≤ a1 then (some (wrap64 (rd l0 a1))) else (none)) else (some (Int.tmod (wrap64 ((wrap64 (a1 * 61)) + 29)) 256))) = some r := h
  clear h
  by_cases c3 : a1 < (l0.length : Int)
  · rw [if_pos c3] at H
    have c3b0 : decide (a1 < (l0.length : Int)) = true := decide_eq_true c3
    clear c3
    by_cases c4 : 0 ≤ a1
    · rw [if_pos c4] at H
      have c4b0 : decide (0 ≤ a1) = true := decide_eq_true c4
      clear c4
      obtain rfl := Option.some.inj H
      have p188 : 0 ≤ (a1 : Int) := of_decide_eq_true (by first | (with_reducible assumption) | assumption)
      have q188 : a1 < (l0.length : Int) := of_decide_eq_true (by first | (with_reducible assumption) | assumption)
      obtain ⟨ad188, e188, hx188_0⟩ := Kd.at_int HR0.out a1 p188 q188
      cases e188
      replace p188 := eq_true p188
      replace q188 := eq_true q188
      go_enter Try.func19, Try.ntmps19
      go_wp2
      go_ret
      exact ⟨by first | rfl | (simp; done) | (simp [*]; done), by repeat (first | exact Drawn0.refl _ | apply Drawn0.step)⟩
    · rw [if_neg c4] at H
      exact absurd H (by simp)
  · rw [if_neg c3] at H
    have c3b0 : decide (a1 < (l0.length : Int)) = false := decide_eq_false c3
    clear c3
    obtain rfl := Option.some.inj H
    go_enter Try.func19, Try.ntmps19
    go_wp2
    go_ret
    exact ⟨by first | rfl | (simp; done) | (simp [*]; done), by repeat (first | exact Drawn0.refl _ | apply Drawn0.step)⟩

end Go.Proofs.Ytimfdodgecehgaa.QFnSums
