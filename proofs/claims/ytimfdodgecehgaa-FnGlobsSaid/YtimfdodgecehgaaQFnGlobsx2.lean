-- A text of this session, made by a program of its own (wip/tools/mkq.py).
import Derived.Test.YtimfdodgecehgaaQFnGlobsx0
import Derived.Test.YtimfdodgecehgaaQFnGlobsx1
namespace Go.Proofs.Ytimfdodgecehgaa.QFnGlobs
open Go.RowKit Go.Proofs.YtimfdodgecehgaaW.PrintWords Go.Proofs.YtimfdodgecehgaaW.PrintLast Go.Proofs.YtimfdodgecehgaaW.PrintMore
attribute [local go_sem] max2_int min2_int max_two min_two max_three min_three max_four min_four   -- for this text's walks alone
set_option linter.unusedVariables false
set_option linter.unusedSimpArgs false

/-! ### spec_l01Src_spoil: function 88 -/
def spec_l01Src_spoil.f (k : Nat) (s0_0 : List Int) (s0_1 : Int) (s0_2 : Int) (a1 : ByteArray) : Option (ByteArray × Int × Int) := if (a1.size : Int) = 0 then ((spec_l01Src_n.f s0_0 s0_1 s0_2 3).bind fun bt157 => ((spec_l01Src_bytes.f k s0_0 bt157.2.1 bt157.2.2 (wrap64 (1 + bt157.1))).bind fun bt160 => (some (bt160.1, bt160.2.1, bt160.2.2)))) else ((spec_l01Src_n.f s0_0 s0_1 s0_2 (a1.size : Int)).bind fun bt163 => ((spec_l01Src_n.f s0_0 bt163.2.1 bt163.2.2 4).bind fun bt166 => (if (wrap64 (bt163.1 + bt166.1)) > (a1.size : Int) then (if 0 ≤ bt163.1 then (if bt163.1 ≤ (a1.size : Int) then ((spec_l01Src_n.f s0_0 bt166.2.1 bt166.2.2 3).bind fun bt169 => ((spec_l01Src_bytes.f k s0_0 bt169.2.1 bt169.2.2 bt169.1).bind fun bt172 => (if (a1.extract 0 (bt163.1 : Int).toNat).size + bt172.1.size ≤ 9223372036854775807 then (if 0 ≤ (a1.size : Int) then (if (a1.size : Int) ≤ (a1.size : Int) then (if ((a1.extract 0 (bt163.1 : Int).toNat) ++ bt172.1).size + (a1.extract ((a1.size : Int) : Int).toNat a1.size).size ≤ 9223372036854775807 then (some (((a1.extract 0 (bt163.1 : Int).toNat) ++ bt172.1) ++ (a1.extract ((a1.size : Int) : Int).toNat a1.size), bt172.2.1, bt172.2.2)) else (none)) else (none)) else (none)) else (none)))) else (none)) else (none)) else (if 0 ≤ bt163.1 then (if bt163.1 ≤ (a1.size : Int) then ((spec_l01Src_n.f s0_0 bt166.2.1 bt166.2.2 3).bind fun bt175 => ((spec_l01Src_bytes.f k s0_0 bt175.2.1 bt175.2.2 bt175.1).bind fun bt178 => (if (a1.extract 0 (bt163.1 : Int).toNat).size + bt178.1.size ≤ 9223372036854775807 then (if 0 ≤ (wrap64 (bt163.1 + bt166.1)) then (if (wrap64 (bt163.1 + bt166.1)) ≤ (a1.size : Int) then (if ((a1.extract 0 (bt163.1 : Int).toNat) ++ bt178.1).size + (a1.extract ((wrap64 (bt163.1 + bt166.1)) : Int).toNat a1.size).size ≤ 9223372036854775807 then (some (((a1.extract 0 (bt163.1 : Int).toNat) ++ bt178.1) ++ (a1.extract ((wrap64 (bt163.1 + bt166.1)) : Int).toNat a1.size), bt178.2.1, bt178.2.2)) else (none)) else (none)) else (none)) else (none)))) else (none)) else (none)))))
theorem spec_l01Src_spoil.mono : ∀ a0 a1 a2 a3 k, LeO (spec_l01Src_spoil.f k a0 a1 a2 a3) (spec_l01Src_spoil.f (k + 1) a0 a1 a2 a3) := by
  intro a0 a1 a2 a3 k
  unfold spec_l01Src_spoil.f
  repeat' first
      | (with_reducible exact spec_l01Src_bytes.mono _ _ _ _ _)
      | (with_reducible exact LeO.refl _)
      | (with_reducible exact LeO.none _)
      | (with_reducible refine LeO.ite ?_ ?_)
      | (with_reducible refine LeO.bind ?_ (fun _ => ?_))
      | exact spec_l01Src_bytes.mono _ _ _ _ _
      | exact LeO.none _
      | refine LeO.ite ?_ ?_
      | refine LeO.bind ?_ (fun _ => ?_)
def spec_l01Src_spoil.T7 : Bool × List (List Nat × List Nat) := (true, [([], []), ([], []), ([0, 1], [0, 1]), ([], []), ([], []), ([4], [4]), ([3, 5, 5], [3, 5]), ([2, 6], [2, 6]), ([], []), ([], []), ([8, 9], [8, 9]), ([7, 10], [7, 10]), ([11, 6, 0, 1, 2, 3, 4, 5, 6, 7, 8, 9, 10, 11], [11])])
def spec_l01Src_spoil.B7 : List Nat := [0, 0, 3, 0, 0, 16, 56, 127, 0, 0, 768, 2047, 4095]
theorem spec_l01Src_spoil.tab7 : rtab .any (opsOf Try.f88 7) = spec_l01Src_spoil.T7 := by kernel_rfl
theorem spec_l01Src_spoil.bits7 : waitsOk spec_l01Src_spoil.T7.2 spec_l01Src_spoil.B7 = true := by kernel_rfl
set_option maxHeartbeats 8000000 in
set_option maxRecDepth 100000 in
theorem spec_l01Src_spoil.calls (k : Nat) (g : Nat) (s0_0 : List Int) (s0_1 : Int) (s0_2 : Int) (a1 : ByteArray) (r1 : ByteArray) (r2 : Int) (r3 : Int) (w0 w : World) (hI : IsS175 w0 w g s0_0 s0_1 s0_2) (hB : Below w0.heap.size w0 w) (h : spec_l01Src_spoil.f k s0_0 s0_1 s0_2 a1 = some (r1, r2, r3)) :
    Calls Try.prog 88 #[.pointer (some ⟨g, 0, none⟩), .string a1] w fun e w' => e = .returned (.string r1) ∧ IsS175 w0 w' g s0_0 r2 r3 ∧ Below w0.heap.size w0 w' ∧ KeepBut w w' g none := by
  have HI0 := Aside0.mk hI
  have HK := Aside0.mk (KeepBut.refl w g none)
  have HL := Aside0.mk hB.size
  clear hI
  have HW0 := Aside0.mk hB.size
  have HB := Aside0.mk hB
  clear hB
  have H : (if (a1.size : Int) = 0 then ((spec_l01Src_n.f s0_0 s0_1 s0_2 3).bind fun bt157 => ((spec_l01Src_bytes.f k s0_0 bt157.2.1 bt157.2.2 (wrap64 (1 + bt157.1))).bind fun bt160 => (some (bt160.1, bt160.2.1, bt160.2.2)))) else ((spec_l01Src_n.f s0_0 s0_1 s0_2 (a1.size : Int)).bind fun bt163 => ((spec_l01Src_n.f s0_0 bt163.2.1 bt163.2.2 4).bind fun bt166 => (if (wrap64 (bt163.1 + bt166.1)) > (a1.size : Int) then (if 0 ≤ bt163.1 then (if bt163.1 ≤ (a1.size : Int) then ((spec_l01Src_n.f s0_0 bt166.2.1 bt166.2.2 3).bind fun bt169 => ((spec_l01Src_bytes.f k s0_0 bt169.2.1 bt169.2.2 bt169.1).bind fun bt172 => (if (a1.extract 0 (bt163.1 : Int).toNat).size + bt172.1.size ≤ 9223372036854775807 then (if 0 ≤ (a1.size : Int) then (if (a1.size : Int) ≤ (a1.size : Int) then (if ((a1.extract 0 (bt163.1 : Int).toNat) ++ bt172.1).size + (a1.extract ((a1.size : Int) : Int).toNat a1.size).size ≤ 9223372036854775807 then (some (((a1.extract 0 (bt163.1 : Int).toNat) ++ bt172.1) ++ (a1.extract ((a1.size : Int) : Int).toNat a1.size), bt172.2.1, bt172.2.2)) else (none)) else (none)) else (none)) else (none)))) else (none)) else (none)) else (if 0 ≤ bt163.1 then (if bt163.1 ≤ (a1.size : Int) then ((spec_l01Src_n.f s0_0 bt166.2.1 bt166.2.2 3).bind fun bt175 => ((spec_l01Src_bytes.f k s0_0 bt175.2.1 bt175.2.2 bt175.1).bind fun bt178 => (if (a1.extract 0 (bt163.1 : Int).toNat).size + bt178.1.size ≤ 9223372036854775807 then (if 0 ≤ (wrap64 (bt163.1 + bt166.1)) then (if (wrap64 (bt163.1 + bt166.1)) ≤ (a1.size : Int) then (if ((a1.extract 0 (bt163.1 : Int).toNat) ++ bt178.1).size + (a1.extract ((wrap64 (bt163.1 + bt166.1)) : Int).toNat a1.size).size ≤ 9223372036854775807 then (some (((a1.extract 0 (bt163.1 : Int).toNat) ++ bt178.1) ++ (a1.extract ((wrap64 (bt163.1 + bt166.1)) : Int).toNat a1.size), bt178.2.1, bt178.2.2)) else (none)) else (none)) else (none)) else (none)))) else (none)) else (none)))))) = some (r1, r2, r3) := h
  clear h
  by_cases c3 : (a1.size : Int) = 0
  · rw [if_pos c3] at H
    have c3b0 : ((a1.size : Int) == 0) = true := beq_iff_eq.mpr c3
    have c3b1 : ((a1.size : Int) != 0) = false := bne_eq_false_iff_eq.mpr c3
    clear c3
    replace H := Option.bind_eq_some_iff.mp H
    obtain ⟨⟨t157, t158, t159⟩, A40, H⟩ := H
    replace H : ((spec_l01Src_bytes.f k s0_0 t158 t159 (wrap64 (1 + t157))).bind fun bt160 => (some (bt160.1, bt160.2.1, bt160.2.2))) = some (r1, r2, r3) := H
    have A4 := Aside0.mk A40
    clear A40
    replace H := Option.bind_eq_some_iff.mp H
    obtain ⟨⟨t160, t161, t162⟩, A50, H⟩ := H
    replace H : (some (t160, t161, t162)) = some (r1, r2, r3) := H
    have A5 := Aside0.mk A50
    clear A50
    simp only [Option.some.injEq, Prod.mk.injEq] at H
    obtain ⟨rfl, rfl, rfl⟩ := H
    go_enter Try.func88, Try.ntmps88
    go_wp2_with (first | ((with_reducible refine gate_callee (f := 75) rfl ?_); refine goesL_ (some 12) rfl rfl Try.func75 (by kernel_rfl) rfl #[.pointer (some ⟨g, 0, none⟩), .int .i64 3] rfl (by (try simp only [List.map_toArray, List.map_cons, List.map_nil]); first | done | rfl | (simp only [List.length_drop, List.length_take]; rfl)) ?_; (with_reducible refine (spec_l01Src_n.calls g s0_0 s0_1 s0_2 3 t157 t158 t159 w0 _ ?side1 ?side2 A4.out).mono ?_); (case side1 => repeat (first | (with_reducible first | exact HI0.out | apply IsS175.alloc | apply IsS175.drewN | apply IsS175.drew | apply IsS175.set_1 | apply IsS175.set_2) | exact HI0.out)); (case side2 => repeat (first | (with_reducible first | exact HB.out | apply below_alloc | apply pw_below_drewN | apply below_drew1 | refine below_set ?_ (IsS175.ge HI0.out)) | exact HB.out)); rintro e w6 ⟨rfl, hi, hb, hk⟩; refine ⟨_, rfl, ?_⟩; have n0_ := Aside0.mk (KeepBut.trans (by repeat (first | (with_reducible first | exact HK.out | apply KeepBut.set_ | apply keep_drewN | apply keep_drew | apply keep_alloc) | exact HK.out)) hk (.inl rfl)); have n1_ := Aside0.mk (hb); have n2_ := Aside0.mk (hi); clear HK; clear HB; clear HI0; have HK := n0_; have HB := n1_; have HI0 := n2_; clear n0_ n1_ n2_; (try clear hb); (try clear hb2); (try clear hk); (try clear hi)) | ((with_reducible refine gate_callee (f := 86) rfl ?_); refine goesL_ (some 14) rfl rfl Try.func86 (by kernel_rfl) rfl #[.pointer (some ⟨g, 0, none⟩), .int .i64 (wrap64 (1 + t157))] rfl (by (try simp only [List.map_toArray, List.map_cons, List.map_nil]); first | done | rfl | (simp only [List.length_drop, List.length_take]; rfl)) ?_; (with_reducible refine (spec_l01Src_bytes.calls k g s0_0 t158 t159 (wrap64 (1 + t157)) t160 t161 t162 w0 _ ?side1 ?side2 A5.out).mono ?_); (case side1 => repeat (first | (with_reducible first | exact HI0.out | apply IsS175.alloc | apply IsS175.drewN | apply IsS175.drew | apply IsS175.set_1 | apply IsS175.set_2) | exact HI0.out)); (case side2 => repeat (first | (with_reducible first | exact HB.out | apply below_alloc | apply pw_below_drewN | apply below_drew1 | refine below_set ?_ (IsS175.ge HI0.out)) | exact HB.out)); rintro e w7 ⟨rfl, hi, hb, hk⟩; refine ⟨_, rfl, ?_⟩; have n0_ := Aside0.mk (KeepBut.trans (by repeat (first | (with_reducible first | exact HK.out | apply KeepBut.set_ | apply keep_drewN | apply keep_drew | apply keep_alloc) | exact HK.out)) hk (.inl rfl)); have n1_ := Aside0.mk (hb); have n2_ := Aside0.mk (hi); clear HK; clear HB; clear HI0; have HK := n0_; have HB := n1_; have HI0 := n2_; clear n0_ n1_ n2_; (try clear hb); (try clear hb2); (try clear hk); (try clear hi)))
    go_ret
    exact ⟨by first | rfl | (simp [errW_none, errW_some] <;> rfl) | (simp [*, errW_none, errW_some] <;> rfl), by repeat (first | (with_reducible first | exact HI0.out | apply IsS175.alloc | apply IsS175.drewN | apply IsS175.drew | apply IsS175.set_1 | apply IsS175.set_2) | exact HI0.out), by repeat (first | (with_reducible first | exact HB.out | apply below_alloc | apply pw_below_drewN | apply below_drew1 | refine below_set ?_ (IsS175.ge HI0.out)) | exact HB.out), by repeat (first | (with_reducible first | exact HK.out | apply KeepBut.set_ | apply keep_drewN | apply keep_drew | apply keep_alloc) | exact HK.out)⟩
  · rw [if_neg c3] at H
    have c3b0 : ((a1.size : Int) == 0) = false := beq_eq_false_iff_ne.mpr c3
    have c3b1 : ((a1.size : Int) != 0) = true := bne_iff_ne.mpr c3
    replace H := Option.bind_eq_some_iff.mp H
    obtain ⟨⟨t163, t164, t165⟩, A80, H⟩ := H
    replace H : ((spec_l01Src_n.f s0_0 t164 t165 4).bind fun bt166 => (if (wrap64 (t163 + bt166.1)) > (a1.size : Int) then (if 0 ≤ t163 then (if t163 ≤ (a1.size : Int) then ((spec_l01Src_n.f s0_0 bt166.2.1 bt166.2.2 3).bind fun bt169 => ((spec_l01Src_bytes.f k s0_0 bt169.2.1 bt169.2.2 bt169.1).bind fun bt172 => (if (a1.extract 0 (t163 : Int).toNat).size + bt172.1.size ≤ 9223372036854775807 then (if 0 ≤ (a1.size : Int) then (if (a1.size : Int) ≤ (a1.size : Int) then (if ((a1.extract 0 (t163 : Int).toNat) ++ bt172.1).size + (a1.extract ((a1.size : Int) : Int).toNat a1.size).size ≤ 9223372036854775807 then (some (((a1.extract 0 (t163 : Int).toNat) ++ bt172.1) ++ (a1.extract ((a1.size : Int) : Int).toNat a1.size), bt172.2.1, bt172.2.2)) else (none)) else (none)) else (none)) else (none)))) else (none)) else (none)) else (if 0 ≤ t163 then (if t163 ≤ (a1.size : Int) then ((spec_l01Src_n.f s0_0 bt166.2.1 bt166.2.2 3).bind fun bt175 => ((spec_l01Src_bytes.f k s0_0 bt175.2.1 bt175.2.2 bt175.1).bind fun bt178 => (if (a1.extract 0 (t163 : Int).toNat).size + bt178.1.size ≤ 9223372036854775807 then (if 0 ≤ (wrap64 (t163 + bt166.1)) then (if (wrap64 (t163 + bt166.1)) ≤ (a1.size : Int) then (if ((a1.extract 0 (t163 : Int).toNat) ++ bt178.1).size + (a1.extract ((wrap64 (t163 + bt166.1)) : Int).toNat a1.size).size ≤ 9223372036854775807 then (some (((a1.extract 0 (t163 : Int).toNat) ++ bt178.1) ++ (a1.extract ((wrap64 (t163 + bt166.1)) : Int).toNat a1.size), bt178.2.1, bt178.2.2)) else (none)) else (none)) else (none)) else (none)))) else (none)) else (none)))) = some (r1, r2, r3) := H
    have A8 := Aside0.mk A80
    clear A80
    replace H := Option.bind_eq_some_iff.mp H
    obtain ⟨⟨t166, t167, t168⟩, A90, H⟩ := H
    replace H : (if (wrap64 (t163 + t166)) > (a1.size : Int) then (if 0 ≤ t163 then (if t163 ≤ (a1.size : Int) then ((spec_l01Src_n.f s0_0 t167 t168 3).bind fun bt169 => ((spec_l01Src_bytes.f k s0_0 bt169.2.1 bt169.2.2 bt169.1).bind fun bt172 => (if (a1.extract 0 (t163 : Int).toNat).size + bt172.1.size ≤ 9223372036854775807 then (if 0 ≤ (a1.size : Int) then (if (a1.size : Int) ≤ (a1.size : Int) then (if ((a1.extract 0 (t163 : Int).toNat) ++ bt172.1).size + (a1.extract ((a1.size : Int) : Int).toNat a1.size).size ≤ 9223372036854775807 then (some (((a1.extract 0 (t163 : Int).toNat) ++ bt172.1) ++ (a1.extract ((a1.size : Int) : Int).toNat a1.size), bt172.2.1, bt172.2.2)) else (none)) else (none)) else (none)) else (none)))) else (none)) else (none)) else (if 0 ≤ t163 then (if t163 ≤ (a1.size : Int) then ((spec_l01Src_n.f s0_0 t167 t168 3).bind fun bt175 => ((spec_l01Src_bytes.f k s0_0 bt175.2.1 bt175.2.2 bt175.1).bind fun bt178 => (if (a1.extract 0 (t163 : Int).toNat).size + bt178.1.size ≤ 9223372036854775807 then (if 0 ≤ (wrap64 (t163 + t166)) then (if (wrap64 (t163 + t166)) ≤ (a1.size : Int) then (if ((a1.extract 0 (t163 : Int).toNat) ++ bt178.1).size + (a1.extract ((wrap64 (t163 + t166)) : Int).toNat a1.size).size ≤ 9223372036854775807 then (some (((a1.extract 0 (t163 : Int).toNat) ++ bt178.1) ++ (a1.extract ((wrap64 (t163 + t166)) : Int).toNat a1.size), bt178.2.1, bt178.2.2)) else (none)) else (none)) else (none)) else (none)))) else (none)) else (none))) = some (r1, r2, r3) := H
    have A9 := Aside0.mk A90
    clear A90
    by_cases c10 : (wrap64 (t163 + t166)) > (a1.size : Int)
    · rw [if_pos c10] at H
      have c10b0 : decide ((a1.size : Int) < (wrap64 (t163 + t166))) = true := decide_eq_true c10
      clear c10
      by_cases c11 : 0 ≤ t163
      · rw [if_pos c11] at H
        have c11b0 := eq_true c11
        have c11b1 : decide (0 ≤ t163) = true := decide_eq_true c11
        clear c11
        by_cases c12 : t163 ≤ (a1.size : Int)
        · rw [if_pos c12] at H
          have c12b0 := eq_true c12
          have c12b1 : decide (t163 ≤ (a1.size : Int)) = true := decide_eq_true c12
          clear c12
          replace H := Option.bind_eq_some_iff.mp H
          obtain ⟨⟨t169, t170, t171⟩, A130, H⟩ := H
          replace H : ((spec_l01Src_bytes.f k s0_0 t170 t171 t169).bind fun bt172 => (if (a1.extract 0 (t163 : Int).toNat).size + bt172.1.size ≤ 9223372036854775807 then (if 0 ≤ (a1.size : Int) then (if (a1.size : Int) ≤ (a1.size : Int) then (if ((a1.extract 0 (t163 : Int).toNat) ++ bt172.1).size + (a1.extract ((a1.size : Int) : Int).toNat a1.size).size ≤ 9223372036854775807 then (some (((a1.extract 0 (t163 : Int).toNat) ++ bt172.1) ++ (a1.extract ((a1.size : Int) : Int).toNat a1.size), bt172.2.1, bt172.2.2)) else (none)) else (none)) else (none)) else (none))) = some (r1, r2, r3) := H
          have A13 := Aside0.mk A130
          clear A130
          replace H := Option.bind_eq_some_iff.mp H
          obtain ⟨⟨t172, t173, t174⟩, A140, H⟩ := H
          replace H : (if (a1.extract 0 (t163 : Int).toNat).size + t172.size ≤ 9223372036854775807 then (if 0 ≤ (a1.size : Int) then (if (a1.size : Int) ≤ (a1.size : Int) then (if ((a1.extract 0 (t163 : Int).toNat) ++ t172).size + (a1.extract ((a1.size : Int) : Int).toNat a1.size).size ≤ 9223372036854775807 then (some (((a1.extract 0 (t163 : Int).toNat) ++ t172) ++ (a1.extract ((a1.size : Int) : Int).toNat a1.size), t173, t174)) else (none)) else (none)) else (none)) else (none)) = some (r1, r2, r3) := H
          have A14 := Aside0.mk A140
          clear A140
          by_cases c15 : (a1.extract 0 (t163 : Int).toNat).size + t172.size ≤ 9223372036854775807
          · rw [if_pos c15] at H
            have c15b0 := eq_true c15
            have c15y0 : (t163 : Int).toNat + t172.size ≤ 9223372036854775807 := by
              try have := of_eq_true c11b0
              try have := of_eq_true c12b0
              have q_ := c15
              simp only [ByteArray.size_append, ByteArray.size_extract, Nat.min_self] at q_
              omega
            try have c15y0z := eq_false (Nat.not_lt.2 c15y0)
            have c15y0a := eq_true c15y0
            have c15b1 : decide ((a1.extract 0 (t163 : Int).toNat).size + t172.size ≤ 9223372036854775807) = true := decide_eq_true c15
            try have c15b2 : (9223372036854775807 < (a1.extract 0 (t163 : Int).toNat).size + t172.size) = False := eq_false (Nat.not_lt.2 c15)
            by_cases c16 : 0 ≤ (a1.size : Int)
            · rw [if_pos c16] at H
              have c16b0 := eq_true c16
              have c16b1 : decide (0 ≤ (a1.size : Int)) = true := decide_eq_true c16
              clear c16
              by_cases c17 : (a1.size : Int) ≤ (a1.size : Int)
              · rw [if_pos c17] at H
                have c17b0 := eq_true c17
                have c17b1 : decide ((a1.size : Int) ≤ (a1.size : Int)) = true := decide_eq_true c17
                clear c17
                by_cases c18 : ((a1.extract 0 (t163 : Int).toNat) ++ t172).size + (a1.extract ((a1.size : Int) : Int).toNat a1.size).size ≤ 9223372036854775807
                · rw [if_pos c18] at H
                  have c18b0 := eq_true c18
                  have c18y0 : ((t163 : Int).toNat + t172.size) + (a1.size - a1.size) ≤ 9223372036854775807 := by
                    try have := of_eq_true c11b0
                    try have := of_eq_true c12b0
                    try have := of_eq_true c16b0
                    try have := of_eq_true c17b0
                    have q_ := c18
                    simp only [ByteArray.size_append, ByteArray.size_extract, Nat.min_self] at q_
                    omega
                  try have c18y0z := eq_false (Nat.not_lt.2 c18y0)
                  have c18y0a := eq_true c18y0
                  have c18y1 : ((t163 : Int).toNat + t172.size) + 0 ≤ 9223372036854775807 := by
                    try have := of_eq_true c11b0
                    try have := of_eq_true c12b0
                    try have := of_eq_true c16b0
                    try have := of_eq_true c17b0
                    have q_ := c18
                    simp only [ByteArray.size_append, ByteArray.size_extract, Nat.min_self] at q_
                    omega
                  try have c18y1z := eq_false (Nat.not_lt.2 c18y1)
                  have c18y1a := eq_true c18y1
                  have c18y2 : ((t163 : Int).toNat + t172.size) ≤ 9223372036854775807 := by
                    try have := of_eq_true c11b0
                    try have := of_eq_true c12b0
                    try have := of_eq_true c16b0
                    try have := of_eq_true c17b0
                    have q_ := c18
                    simp only [ByteArray.size_append, ByteArray.size_extract, Nat.min_self] at q_
                    omega
                  try have c18y2z := eq_false (Nat.not_lt.2 c18y2)
                  have c18y2a := eq_true c18y2
                  have c18z := c18
                  simp only [ByteArray.size_append] at c18z
                  have c18z0 := eq_true c18z
                  have c18z1 := decide_eq_true c18z
                  try have c18z2 := eq_false (Nat.not_lt.2 c18z)
                  have c18b1 : decide (((a1.extract 0 (t163 : Int).toNat) ++ t172).size + (a1.extract ((a1.size : Int) : Int).toNat a1.size).size ≤ 9223372036854775807) = true := decide_eq_true c18
                  try have c18b2 : (9223372036854775807 < ((a1.extract 0 (t163 : Int).toNat) ++ t172).size + (a1.extract ((a1.size : Int) : Int).toNat a1.size).size) = False := eq_false (Nat.not_lt.2 c18)
                  simp only [Option.some.injEq, Prod.mk.injEq] at H
                  obtain ⟨rfl, rfl, rfl⟩ := H
                  go_enter Try.func88, Try.ntmps88
                  try go_wp2_with (first | ((with_reducible refine gate_callee (f := 75) rfl ?_); refine goesL_ (some 18) rfl rfl Try.func75 (by kernel_rfl) rfl #[.pointer (some ⟨g, 0, none⟩), .int .i64 (a1.size : Int)] rfl (by (try simp only [List.map_toArray, List.map_cons, List.map_nil]); first | done | rfl | (simp only [List.length_drop, List.length_take]; rfl)) ?_; (with_reducible refine (spec_l01Src_n.calls g s0_0 s0_1 s0_2 (a1.size : Int) t163 t164 t165 w0 _ ?side1 ?side2 A8.out).mono ?_); (case side1 => repeat (first | (with_reducible first | exact HI0.out | apply IsS175.alloc | apply IsS175.drewN | apply IsS175.drew | apply IsS175.set_1 | apply IsS175.set_2) | exact HI0.out)); (case side2 => repeat (first | (with_reducible first | exact HB.out | apply below_alloc | apply pw_below_drewN | apply below_drew1 | refine below_set ?_ (IsS175.ge HI0.out)) | exact HB.out)); rintro e w19 ⟨rfl, hi, hb, hk⟩; refine ⟨_, rfl, ?_⟩; have n0_ := Aside0.mk (KeepBut.trans (by repeat (first | (with_reducible first | exact HK.out | apply KeepBut.set_ | apply keep_drewN | apply keep_drew | apply keep_alloc) | exact HK.out)) hk (.inl rfl)); have n1_ := Aside0.mk (hb); have n2_ := Aside0.mk (hi); clear HK; clear HB; clear HI0; have HK := n0_; have HB := n1_; have HI0 := n2_; clear n0_ n1_ n2_; (try clear hb); (try clear hb2); (try clear hk); (try clear hi)) | ((with_reducible refine gate_callee (f := 75) rfl ?_); refine goesL_ (some 21) rfl rfl Try.func75 (by kernel_rfl) rfl #[.pointer (some ⟨g, 0, none⟩), .int .i64 4] rfl (by (try simp only [List.map_toArray, List.map_cons, List.map_nil]); first | done | rfl | (simp only [List.length_drop, List.length_take]; rfl)) ?_; (with_reducible refine (spec_l01Src_n.calls g s0_0 t164 t165 4 t166 t167 t168 w0 _ ?side1 ?side2 A9.out).mono ?_); (case side1 => repeat (first | (with_reducible first | exact HI0.out | apply IsS175.alloc | apply IsS175.drewN | apply IsS175.drew | apply IsS175.set_1 | apply IsS175.set_2) | exact HI0.out)); (case side2 => repeat (first | (with_reducible first | exact HB.out | apply below_alloc | apply pw_below_drewN | apply below_drew1 | refine below_set ?_ (IsS175.ge HI0.out)) | exact HB.out)); rintro e w20 ⟨rfl, hi, hb, hk⟩; refine ⟨_, rfl, ?_⟩; have n0_ := Aside0.mk (KeepBut.trans (by repeat (first | (with_reducible first | exact HK.out | apply KeepBut.set_ | apply keep_drewN | apply keep_drew | apply keep_alloc) | exact HK.out)) hk (.inl rfl)); have n1_ := Aside0.mk (hb); have n2_ := Aside0.mk (hi); clear HK; clear HB; clear HI0; have HK := n0_; have HB := n1_; have HI0 := n2_; clear n0_ n1_ n2_; (try clear hb); (try clear hb2); (try clear hk); (try clear hi)))
                  have n0_ := Aside0.mk (IsS175.drew HI0.out)
                  have n1_ := Aside0.mk (keep_drew HK.out)
                  have n2_ := Aside0.mk (below_drew1 HB.out)
                  clear HI0
                  clear HK
                  clear HB
                  have HI0 := n0_
                  have HK := n1_
                  have HB := n2_
                  clear n0_ n1_ n2_
                  refine start_ (n := 13) (S := fun w' => True) (ds := []) #[false, false, false, false, false, false, false, false, false, false, false, false, false] (by kernel_rfl) rfl rfl trivial (fun hHeld => ?_); refine with_tabW spec_l01Src_spoil.tab7 spec_l01Src_spoil.bits7 (fun HT_ HW_ => ?_)
                  generalize w20.drew = w21 at HI0 HK HB hHeld ⊢
                  refine pure_ (i := 0) (N := some 29) (v := ?_) (a' := ?_) #[true, false, false, false, false, false, false, false, false, false, false, false, false] rfl rfl (any_of HT_.out (by kernel_rfl)) (fun _ _ _ h => h) (Or.inl ⟨by rfl, ?_⟩) ?_ ?_
                  rotate_left
                  · intro w'
                    go_simp
                    with_reducible rfl
                  rotate_left
                  · simp only [Act.put, List.setIfInBounds_toArray, List.set_cons_zero, List.set_cons_succ, i64_w, i32_w]
                    rfl
                  refine pure_ (i := 1) (N := some 30) (v := ?_) (a' := ?_) #[true, true, false, false, false, false, false, false, false, false, false, false, false] rfl rfl (any_of HT_.out (by kernel_rfl)) (fun _ _ _ h => h) (Or.inl ⟨by rfl, ?_⟩) ?_ ?_
                  rotate_left
                  · intro w'
                    go_simp
                    with_reducible rfl
                  rotate_left
                  · simp only [Act.put, List.setIfInBounds_toArray, List.set_cons_zero, List.set_cons_succ, i64_w, i32_w]
                    rfl
                  refine pure_ (i := 2) (N := some 31) (v := ?_) (a' := ?_) #[true, true, true, false, false, false, false, false, false, false, false, false, false] rfl rfl (any_of HT_.out (by kernel_rfl)) (fun _ _ _ h => h) (Or.inl ⟨by rfl, ?_⟩) ?_ ?_
                  rotate_left
                  · intro w'
                    go_simp
                    with_reducible rfl
                  rotate_left
                  · simp only [Act.put, List.setIfInBounds_toArray, List.set_cons_zero, List.set_cons_succ, i64_w, i32_w]
                    rfl
                  refine pure_ (i := 3) (N := some 32) (v := ?_) (a' := ?_) #[true, true, true, true, false, false, false, false, false, false, false, false, false] rfl rfl (any_of HT_.out (by kernel_rfl)) (fun _ _ _ h => h) (Or.inl ⟨by rfl, ?_⟩) ?_ ?_
                  rotate_left
                  · intro w'
                    go_simp
                    with_reducible rfl
                  rotate_left
                  · simp only [Act.put, List.setIfInBounds_toArray, List.set_cons_zero, List.set_cons_succ, i64_w, i32_w]
                    rfl
                  refine pure_ (i := 4) (N := some 33) (v := ?_) (a' := ?_) #[true, true, true, true, true, false, false, false, false, false, false, false, false] rfl rfl (any_of HT_.out (by kernel_rfl)) (fun _ _ _ h => h) (Or.inl ⟨by rfl, ?_⟩) ?_ ?_
                  rotate_left
                  · intro w'
                    go_simp
                    with_reducible rfl
                  rotate_left
                  · simp only [Act.put, List.setIfInBounds_toArray, List.set_cons_zero, List.set_cons_succ, i64_w, i32_w]
                    rfl
                  refine pure_ (i := 8) (N := some 37) (v := ?_) (a' := ?_) #[true, true, true, true, true, false, false, false, true, false, false, false, false] rfl rfl (any_of HT_.out (by kernel_rfl)) (fun _ _ _ h => h) (Or.inl ⟨by rfl, ?_⟩) ?_ ?_
                  rotate_left
                  · intro w'
                    go_simp
                    with_reducible rfl
                  rotate_left
                  · simp only [Act.put, List.setIfInBounds_toArray, List.set_cons_zero, List.set_cons_succ, i64_w, i32_w]
                    rfl
                  refine pure_ (i := 9) (N := some 38) (v := ?_) (a' := ?_) #[true, true, true, true, true, false, false, false, true, true, false, false, false] rfl rfl (any_of HT_.out (by kernel_rfl)) (fun _ _ _ h => h) (Or.inl ⟨by rfl, ?_⟩) ?_ ?_
                  rotate_left
                  · intro w'
                    go_simp
                    with_reducible rfl
                  rotate_left
                  · simp only [Act.put, List.setIfInBounds_toArray, List.set_cons_zero, List.set_cons_succ, i64_w, i32_w]
                    rfl
                  refine pure_ (i := 10) (N := some 39) (v := ?_) (a' := ?_) #[true, true, true, true, true, false, false, false, true, true, true, false, false] rfl rfl (any_of HT_.out (by kernel_rfl)) (fun _ _ _ h => h) (Or.inl ⟨by rfl, ?_⟩) ?_ ?_
                  rotate_left
                  · intro w'
                    go_simp
                    with_reducible rfl
                  rotate_left
                  · simp only [Act.put, List.setIfInBounds_toArray, List.set_cons_zero, List.set_cons_succ, i64_w, i32_w]
                    rfl
                  refine one_ (i := 5) (N := some 34) #[true, true, true, true, true, true, false, false, true, true, true, false, false] rfl rfl (one_of HT_.out (by kernel_rfl)) (by decide) (fun K hK => ?_)
                  refine goes_ Try.func75 (by kernel_rfl) rfl #[.pointer (some ⟨g, 0, none⟩), .int .i64 3] (by rfl) rfl rfl (by (try simp only [List.map_toArray, List.map_cons, List.map_nil]); first | done | rfl | (simp only [List.length_drop, List.length_take]; rfl)) ?_
                  with_reducible refine (spec_l01Src_n.calls g s0_0 t167 t168 3 t169 t170 t171 w0 _ ?side1 ?side2 A13.out).mono ?_
                  (case side1 => repeat (first | (with_reducible first | exact HI0.out | apply IsS175.alloc | apply IsS175.drewN | apply IsS175.drew | apply IsS175.set_1 | apply IsS175.set_2) | exact HI0.out))
                  (case side2 => repeat (first | (with_reducible first | exact HB.out | apply below_alloc | apply pw_below_drewN | apply below_drew1 | refine below_set ?_ (IsS175.ge HI0.out)) | exact HB.out))
                  rintro e w22 ⟨rfl, hi, hb, hk⟩
                  refine ⟨_, rfl, ?_⟩
                  have n0_ := Aside0.mk (KeepBut.trans (by repeat (first | (with_reducible first | exact HK.out | apply KeepBut.set_ | apply keep_drewN | apply keep_drew | apply keep_alloc) | exact HK.out)) hk (.inl rfl))
                  have n1_ := Aside0.mk (hb)
                  have n2_ := Aside0.mk (hi)
                  clear HK
                  clear HB
                  clear HI0
                  have HK := n0_
                  have HB := n1_
                  have HI0 := n2_
                  clear n0_ n1_ n2_
                  (try clear hb)
                  (try clear hb2)
                  (try clear hk)
                  (try clear hi)
                  refine hK.out _ _ trivial (fun hHeld => ?_)
                  clear hK K
                  refine norm_ (a' := ?_) ?_ ?_
                  rotate_left
                  · show Act.put _ (some 34) _ = _
                    simp only [Act.put, List.setIfInBounds_toArray, List.set_cons_zero, List.set_cons_succ, i64_w, i32_w]
                    rfl
                  refine one_ (i := 6) (N := some 35) #[true, true, true, true, true, true, true, false, true, true, true, false, false] rfl rfl (one_of HT_.out (by kernel_rfl)) (by decide) (fun K hK => ?_)
                  refine goes_ Try.func86 (by kernel_rfl) rfl #[.pointer (some ⟨g, 0, none⟩), .int .i64 t169] (by rfl) rfl rfl (by (try simp only [List.map_toArray, List.map_cons, List.map_nil]); first | done | rfl | (simp only [List.length_drop, List.length_take]; rfl)) ?_
                  with_reducible refine (spec_l01Src_bytes.calls k g s0_0 t170 t171 t169 t172 t173 t174 w0 _ ?side1 ?side2 A14.out).mono ?_
                  (case side1 => repeat (first | (with_reducible first | exact HI0.out | apply IsS175.alloc | apply IsS175.drewN | apply IsS175.drew | apply IsS175.set_1 | apply IsS175.set_2) | exact HI0.out))
                  (case side2 => repeat (first | (with_reducible first | exact HB.out | apply below_alloc | apply pw_below_drewN | apply below_drew1 | refine below_set ?_ (IsS175.ge HI0.out)) | exact HB.out))
                  rintro e w23 ⟨rfl, hi, hb, hk⟩
                  refine ⟨_, rfl, ?_⟩
                  have n0_ := Aside0.mk (KeepBut.trans (by repeat (first | (with_reducible first | exact HK.out | apply KeepBut.set_ | apply keep_drewN | apply keep_drew | apply keep_alloc) | exact HK.out)) hk (.inl rfl))
                  have n1_ := Aside0.mk (hb)
                  have n2_ := Aside0.mk (hi)
                  clear HK
                  clear HB
                  clear HI0
                  have HK := n0_
                  have HB := n1_
                  have HI0 := n2_
                  clear n0_ n1_ n2_
                  (try clear hb)
                  (try clear hb2)
                  (try clear hk)
                  (try clear hi)
                  refine hK.out _ _ trivial (fun hHeld => ?_)
                  clear hK K
                  refine norm_ (a' := ?_) ?_ ?_
                  rotate_left
                  · show Act.put _ (some 35) _ = _
                    simp only [Act.put, List.setIfInBounds_toArray, List.set_cons_zero, List.set_cons_succ, i64_w, i32_w]
                    rfl
                  refine pure_ (i := 7) (N := some 36) (v := ?_) (a' := ?_) #[true, true, true, true, true, true, true, true, true, true, true, false, false] rfl rfl (any_of HT_.out (by kernel_rfl)) (fun _ _ _ h => h) (Or.inl ⟨by rfl, ?_⟩) ?_ ?_
                  rotate_left
                  · intro w'
                    go_simp
                    with_reducible rfl
                  rotate_left
                  · simp only [Act.put, List.setIfInBounds_toArray, List.set_cons_zero, List.set_cons_succ, i64_w, i32_w]
                    rfl
                  refine pure_ (i := 11) (N := some 40) (v := ?_) (a' := ?_) #[true, true, true, true, true, true, true, true, true, true, true, true, false] rfl rfl (any_of HT_.out (by kernel_rfl)) (fun _ _ _ h => h) (Or.inl ⟨by rfl, ?_⟩) ?_ ?_
                  rotate_left
                  · intro w'
                    go_simp
                    with_reducible rfl
                  rotate_left
                  · simp only [Act.put, List.setIfInBounds_toArray, List.set_cons_zero, List.set_cons_succ, i64_w, i32_w]
                    rfl
                  refine pure_ (i := 12) (N := some 4) (v := ?_) (a' := ?_) #[true, true, true, true, true, true, true, true, true, true, true, true, true] rfl rfl (any_of HT_.out (by kernel_rfl)) (fun _ _ _ h => h) (Or.inl ⟨by rfl, ?_⟩) ?_ ?_
                  rotate_left
                  · intro w'
                    go_simp
                    with_reducible rfl
                  rotate_left
                  · simp only [Act.put, List.setIfInBounds_toArray, List.set_cons_zero, List.set_cons_succ, i64_w, i32_w]
                    rfl
                  refine done_ (done_of HT_.out (by kernel_rfl)) ?_
                  try go_wp2
                  go_ret
                  exact ⟨by first | rfl | (simp [errW_none, errW_some] <;> rfl) | (simp [*, errW_none, errW_some] <;> rfl), by repeat (first | (with_reducible first | exact HI0.out | apply IsS175.alloc | apply IsS175.drewN | apply IsS175.drew | apply IsS175.set_1 | apply IsS175.set_2) | exact HI0.out), by repeat (first | (with_reducible first | exact HB.out | apply below_alloc | apply pw_below_drewN | apply below_drew1 | refine below_set ?_ (IsS175.ge HI0.out)) | exact HB.out), by repeat (first | (with_reducible first | exact HK.out | apply KeepBut.set_ | apply keep_drewN | apply keep_drew | apply keep_alloc) | exact HK.out)⟩
                · rw [if_neg c18] at H
                  exact absurd H (by simp)
              · rw [if_neg c17] at H
                exact absurd H (by simp)
            · rw [if_neg c16] at H
              exact absurd H (by simp)
          · rw [if_neg c15] at H
            exact absurd H (by simp)
        · rw [if_neg c12] at H
          exact absurd H (by simp)
      · rw [if_neg c11] at H
        exact absurd H (by simp)
    · rw [if_neg c10] at H
      have c10b0 : decide ((a1.size : Int) < (wrap64 (t163 + t166))) = false := decide_eq_false c10
      clear c10
      by_cases c24 : 0 ≤ t163
      · rw [if_pos c24] at H
        have c24b0 := eq_true c24
        have c24b1 : decide (0 ≤ t163) = true := decide_eq_true c24
        clear c24
        by_cases c25 : t163 ≤ (a1.size : Int)
        · rw [if_pos c25] at H
          have c25b0 := eq_true c25
          have c25b1 : decide (t163 ≤ (a1.size : Int)) = true := decide_eq_true c25
          clear c25
          replace H := Option.bind_eq_some_iff.mp H
          obtain ⟨⟨t175, t176, t177⟩, A260, H⟩ := H
          replace H : ((spec_l01Src_bytes.f k s0_0 t176 t177 t175).bind fun bt178 => (if (a1.extract 0 (t163 : Int).toNat).size + bt178.1.size ≤ 9223372036854775807 then (if 0 ≤ (wrap64 (t163 + t166)) then (if (wrap64 (t163 + t166)) ≤ (a1.size : Int) then (if ((a1.extract 0 (t163 : Int).toNat) ++ bt178.1).size + (a1.extract ((wrap64 (t163 + t166)) : Int).toNat a1.size).size ≤ 9223372036854775807 then (some (((a1.extract 0 (t163 : Int).toNat) ++ bt178.1) ++ (a1.extract ((wrap64 (t163 + t166)) : Int).toNat a1.size), bt178.2.1, bt178.2.2)) else (none)) else (none)) else (none)) else (none))) = some (r1, r2, r3) := H
          have A26 := Aside0.mk A260
          clear A260
          replace H := Option.bind_eq_some_iff.mp H
          obtain ⟨⟨t178, t179, t180⟩, A270, H⟩ := H
          replace H : (if (a1.extract 0 (t163 : Int).toNat).size + t178.size ≤ 9223372036854775807 then (if 0 ≤ (wrap64 (t163 + t166)) then (if (wrap64 (t163 + t166)) ≤ (a1.size : Int) then (if ((a1.extract 0 (t163 : Int).toNat) ++ t178).size + (a1.extract ((wrap64 (t163 + t166)) : Int).toNat a1.size).size ≤ 9223372036854775807 then (some (((a1.extract 0 (t163 : Int).toNat) ++ t178) ++ (a1.extract ((wrap64 (t163 + t166)) : Int).toNat a1.size), t179, t180)) else (none)) else (none)) else (none)) else (none)) = some (r1, r2, r3) := H
          have A27 := Aside0.mk A270
          clear A270
          by_cases c28 : (a1.extract 0 (t163 : Int).toNat).size + t178.size ≤ 9223372036854775807
          · rw [if_pos c28] at H
            have c28b0 := eq_true c28
            have c28y0 : (t163 : Int).toNat + t178.size ≤ 9223372036854775807 := by
              try have := of_eq_true c11b0
              try have := of_eq_true c12b0
              try have := of_eq_true c16b0
              try have := of_eq_true c17b0
              try have := of_eq_true c24b0
              try have := of_eq_true c25b0
              have q_ := c28
              simp only [ByteArray.size_append, ByteArray.size_extract, Nat.min_self] at q_
              omega
            try have c28y0z := eq_false (Nat.not_lt.2 c28y0)
            have c28y0a := eq_true c28y0
            have c28b1 : decide ((a1.extract 0 (t163 : Int).toNat).size + t178.size ≤ 9223372036854775807) = true := decide_eq_true c28
            try have c28b2 : (9223372036854775807 < (a1.extract 0 (t163 : Int).toNat).size + t178.size) = False := eq_false (Nat.not_lt.2 c28)
            obtain ⟨ji29, hji29⟩ : ∃ j_ : Int, (wrap64 (t163 + t166)) = j_ := ⟨_, rfl⟩
            replace H : (if 0 ≤ (ji29) then (if (ji29) ≤ (a1.size : Int) then (if ((a1.extract 0 (t163 : Int).toNat) ++ t178).size + (a1.extract ((ji29) : Int).toNat a1.size).size ≤ 9223372036854775807 then (some (((a1.extract 0 (t163 : Int).toNat) ++ t178) ++ (a1.extract ((ji29) : Int).toNat a1.size), t179, t180)) else (none)) else (none)) else (none)) = some (r1, r2, r3) := by first | (rw [hji29] at H; exact H) | (simp only [hji29] at H ⊢; exact H)
            (try rw [hji29] at c10b0)
            (try rw [hji29] at A8)
            (try rw [hji29] at A9)
            (try rw [hji29] at A26)
            (try rw [hji29] at A27)
            have hji29w : (IntKind.i64.wrap (t163 + t166)) = ji29 := (i64_w _).trans hji29
            by_cases c30 : 0 ≤ (ji29)
            · rw [if_pos c30] at H
              have c30b0 := eq_true c30
              have c30b1 : decide (0 ≤ (ji29)) = true := decide_eq_true c30
              clear c30
              by_cases c31 : (ji29) ≤ (a1.size : Int)
              · rw [if_pos c31] at H
                have c31b0 := eq_true c31
                have c31b1 : decide ((ji29) ≤ (a1.size : Int)) = true := decide_eq_true c31
                clear c31
                by_cases c32 : ((a1.extract 0 (t163 : Int).toNat) ++ t178).size + (a1.extract ((ji29) : Int).toNat a1.size).size ≤ 9223372036854775807
                · rw [if_pos c32] at H
                  have c32b0 := eq_true c32
                  have c32y0 : ((t163 : Int).toNat + t178.size) + (a1.size - (ji29 : Int).toNat) ≤ 9223372036854775807 := by
                    try have := of_eq_true c11b0
                    try have := of_eq_true c12b0
                    try have := of_eq_true c16b0
                    try have := of_eq_true c17b0
                    try have := of_eq_true c24b0
                    try have := of_eq_true c25b0
                    try have := of_eq_true c30b0
                    try have := of_eq_true c31b0
                    have q_ := c32
                    simp only [ByteArray.size_append, ByteArray.size_extract, Nat.min_self] at q_
                    omega
                  try have c32y0z := eq_false (Nat.not_lt.2 c32y0)
                  have c32y0a := eq_true c32y0
                  have c32z := c32
                  simp only [ByteArray.size_append] at c32z
                  have c32z0 := eq_true c32z
                  have c32z1 := decide_eq_true c32z
                  try have c32z2 := eq_false (Nat.not_lt.2 c32z)
                  have c32b1 : decide (((a1.extract 0 (t163 : Int).toNat) ++ t178).size + (a1.extract ((ji29) : Int).toNat a1.size).size ≤ 9223372036854775807) = true := decide_eq_true c32
                  try have c32b2 : (9223372036854775807 < ((a1.extract 0 (t163 : Int).toNat) ++ t178).size + (a1.extract ((ji29) : Int).toNat a1.size).size) = False := eq_false (Nat.not_lt.2 c32)
                  simp only [Option.some.injEq, Prod.mk.injEq] at H
                  obtain ⟨rfl, rfl, rfl⟩ := H
                  go_enter Try.func88, Try.ntmps88
                  try go_wp2_with (first | ((with_reducible refine gate_callee (f := 75) rfl ?_); refine goesL_ (some 18) rfl rfl Try.func75 (by kernel_rfl) rfl #[.pointer (some ⟨g, 0, none⟩), .int .i64 (a1.size : Int)] rfl (by (try simp only [List.map_toArray, List.map_cons, List.map_nil]); first | done | rfl | (simp only [List.length_drop, List.length_take]; rfl)) ?_; (with_reducible refine (spec_l01Src_n.calls g s0_0 s0_1 s0_2 (a1.size : Int) t163 t164 t165 w0 _ ?side1 ?side2 A8.out).mono ?_); (case side1 => repeat (first | (with_reducible first | exact HI0.out | apply IsS175.alloc | apply IsS175.drewN | apply IsS175.drew | apply IsS175.set_1 | apply IsS175.set_2) | exact HI0.out)); (case side2 => repeat (first | (with_reducible first | exact HB.out | apply below_alloc | apply pw_below_drewN | apply below_drew1 | refine below_set ?_ (IsS175.ge HI0.out)) | exact HB.out)); rintro e w33 ⟨rfl, hi, hb, hk⟩; refine ⟨_, rfl, ?_⟩; have n0_ := Aside0.mk (KeepBut.trans (by repeat (first | (with_reducible first | exact HK.out | apply KeepBut.set_ | apply keep_drewN | apply keep_drew | apply keep_alloc) | exact HK.out)) hk (.inl rfl)); have n1_ := Aside0.mk (hb); have n2_ := Aside0.mk (hi); clear HK; clear HB; clear HI0; have HK := n0_; have HB := n1_; have HI0 := n2_; clear n0_ n1_ n2_; (try clear hb); (try clear hb2); (try clear hk); (try clear hi)) | ((with_reducible refine gate_callee (f := 75) rfl ?_); refine goesL_ (some 21) rfl rfl Try.func75 (by kernel_rfl) rfl #[.pointer (some ⟨g, 0, none⟩), .int .i64 4] rfl (by (try simp only [List.map_toArray, List.map_cons, List.map_nil]); first | done | rfl | (simp only [List.length_drop, List.length_take]; rfl)) ?_; (with_reducible refine (spec_l01Src_n.calls g s0_0 t164 t165 4 t166 t167 t168 w0 _ ?side1 ?side2 A9.out).mono ?_); (case side1 => repeat (first | (with_reducible first | exact HI0.out | apply IsS175.alloc | apply IsS175.drewN | apply IsS175.drew | apply IsS175.set_1 | apply IsS175.set_2) | exact HI0.out)); (case side2 => repeat (first | (with_reducible first | exact HB.out | apply below_alloc | apply pw_below_drewN | apply below_drew1 | refine below_set ?_ (IsS175.ge HI0.out)) | exact HB.out)); rintro e w34 ⟨rfl, hi, hb, hk⟩; refine ⟨_, rfl, ?_⟩; have n0_ := Aside0.mk (KeepBut.trans (by repeat (first | (with_reducible first | exact HK.out | apply KeepBut.set_ | apply keep_drewN | apply keep_drew | apply keep_alloc) | exact HK.out)) hk (.inl rfl)); have n1_ := Aside0.mk (hb); have n2_ := Aside0.mk (hi); clear HK; clear HB; clear HI0; have HK := n0_; have HB := n1_; have HI0 := n2_; clear n0_ n1_ n2_; (try clear hb); (try clear hb2); (try clear hk); (try clear hi)))
                  have n0_ := Aside0.mk (IsS175.drew HI0.out)
                  have n1_ := Aside0.mk (keep_drew HK.out)
                  have n2_ := Aside0.mk (below_drew1 HB.out)
                  clear HI0
                  clear HK
                  clear HB
                  have HI0 := n0_
                  have HK := n1_
                  have HB := n2_
                  clear n0_ n1_ n2_
                  refine start_ (n := 13) (S := fun w' => True) (ds := []) #[false, false, false, false, false, false, false, false, false, false, false, false, false] (by kernel_rfl) rfl rfl trivial (fun hHeld => ?_); refine with_tabW spec_l01Src_spoil.tab7 spec_l01Src_spoil.bits7 (fun HT_ HW_ => ?_)
                  generalize w34.drew = w35 at HI0 HK HB hHeld ⊢
                  refine pure_ (i := 0) (N := some 29) (v := ?_) (a' := ?_) #[true, false, false, false, false, false, false, false, false, false, false, false, false] rfl rfl (any_of HT_.out (by kernel_rfl)) (fun _ _ _ h => h) (Or.inl ⟨by rfl, ?_⟩) ?_ ?_
                  rotate_left
                  · intro w'
                    go_simp
                    with_reducible rfl
                  rotate_left
                  · simp only [Act.put, List.setIfInBounds_toArray, List.set_cons_zero, List.set_cons_succ, i64_w, i32_w]
                    rfl
                  refine pure_ (i := 1) (N := some 30) (v := ?_) (a' := ?_) #[true, true, false, false, false, false, false, false, false, false, false, false, false] rfl rfl (any_of HT_.out (by kernel_rfl)) (fun _ _ _ h => h) (Or.inl ⟨by rfl, ?_⟩) ?_ ?_
                  rotate_left
                  · intro w'
                    go_simp
                    with_reducible rfl
                  rotate_left
                  · simp only [Act.put, List.setIfInBounds_toArray, List.set_cons_zero, List.set_cons_succ, i64_w, i32_w]
                    rfl
                  refine pure_ (i := 2) (N := some 31) (v := ?_) (a' := ?_) #[true, true, true, false, false, false, false, false, false, false, false, false, false] rfl rfl (any_of HT_.out (by kernel_rfl)) (fun _ _ _ h => h) (Or.inl ⟨by rfl, ?_⟩) ?_ ?_
                  rotate_left
                  · intro w'
                    go_simp
                    with_reducible rfl
                  rotate_left
                  · simp only [Act.put, List.setIfInBounds_toArray, List.set_cons_zero, List.set_cons_succ, i64_w, i32_w]
                    rfl
                  refine pure_ (i := 3) (N := some 32) (v := ?_) (a' := ?_) #[true, true, true, true, false, false, false, false, false, false, false, false, false] rfl rfl (any_of HT_.out (by kernel_rfl)) (fun _ _ _ h => h) (Or.inl ⟨by rfl, ?_⟩) ?_ ?_
                  rotate_left
                  · intro w'
                    go_simp
                    with_reducible rfl
                  rotate_left
                  · simp only [Act.put, List.setIfInBounds_toArray, List.set_cons_zero, List.set_cons_succ, i64_w, i32_w]
                    rfl
                  refine pure_ (i := 4) (N := some 33) (v := ?_) (a' := ?_) #[true, true, true, true, true, false, false, false, false, false, false, false, false] rfl rfl (any_of HT_.out (by kernel_rfl)) (fun _ _ _ h => h) (Or.inl ⟨by rfl, ?_⟩) ?_ ?_
                  rotate_left
                  · intro w'
                    go_simp
                    with_reducible rfl
                  rotate_left
                  · simp only [Act.put, List.setIfInBounds_toArray, List.set_cons_zero, List.set_cons_succ, i64_w, i32_w]
                    rfl
                  refine pure_ (i := 8) (N := some 37) (v := ?_) (a' := ?_) #[true, true, true, true, true, false, false, false, true, false, false, false, false] rfl rfl (any_of HT_.out (by kernel_rfl)) (fun _ _ _ h => h) (Or.inl ⟨by rfl, ?_⟩) ?_ ?_
                  rotate_left
                  · intro w'
                    go_simp
                    with_reducible rfl
                  rotate_left
                  · simp only [Act.put, List.setIfInBounds_toArray, List.set_cons_zero, List.set_cons_succ, i64_w, i32_w]
                    rfl
                  refine pure_ (i := 9) (N := some 38) (v := ?_) (a' := ?_) #[true, true, true, true, true, false, false, false, true, true, false, false, false] rfl rfl (any_of HT_.out (by kernel_rfl)) (fun _ _ _ h => h) (Or.inl ⟨by rfl, ?_⟩) ?_ ?_
                  rotate_left
                  · intro w'
                    go_simp
                    with_reducible rfl
                  rotate_left
                  · simp only [Act.put, List.setIfInBounds_toArray, List.set_cons_zero, List.set_cons_succ, i64_w, i32_w]
                    rfl
                  refine pure_ (i := 10) (N := some 39) (v := ?_) (a' := ?_) #[true, true, true, true, true, false, false, false, true, true, true, false, false] rfl rfl (any_of HT_.out (by kernel_rfl)) (fun _ _ _ h => h) (Or.inl ⟨by rfl, ?_⟩) ?_ ?_
                  rotate_left
                  · intro w'
                    go_simp
                    with_reducible rfl
                  rotate_left
                  · simp only [Act.put, List.setIfInBounds_toArray, List.set_cons_zero, List.set_cons_succ, i64_w, i32_w]
                    rfl
                  refine one_ (i := 5) (N := some 34) #[true, true, true, true, true, true, false, false, true, true, true, false, false] rfl rfl (one_of HT_.out (by kernel_rfl)) (by decide) (fun K hK => ?_)
                  refine goes_ Try.func75 (by kernel_rfl) rfl #[.pointer (some ⟨g, 0, none⟩), .int .i64 3] (by rfl) rfl rfl (by (try simp only [List.map_toArray, List.map_cons, List.map_nil]); first | done | rfl | (simp only [List.length_drop, List.length_take]; rfl)) ?_
                  with_reducible refine (spec_l01Src_n.calls g s0_0 t167 t168 3 t175 t176 t177 w0 _ ?side1 ?side2 A26.out).mono ?_
                  (case side1 => repeat (first | (with_reducible first | exact HI0.out | apply IsS175.alloc | apply IsS175.drewN | apply IsS175.drew | apply IsS175.set_1 | apply IsS175.set_2) | exact HI0.out))
                  (case side2 => repeat (first | (with_reducible first | exact HB.out | apply below_alloc | apply pw_below_drewN | apply below_drew1 | refine below_set ?_ (IsS175.ge HI0.out)) | exact HB.out))
                  rintro e w36 ⟨rfl, hi, hb, hk⟩
                  refine ⟨_, rfl, ?_⟩
                  have n0_ := Aside0.mk (KeepBut.trans (by repeat (first | (with_reducible first | exact HK.out | apply KeepBut.set_ | apply keep_drewN | apply keep_drew | apply keep_alloc) | exact HK.out)) hk (.inl rfl))
                  have n1_ := Aside0.mk (hb)
                  have n2_ := Aside0.mk (hi)
                  clear HK
                  clear HB
                  clear HI0
                  have HK := n0_
                  have HB := n1_
                  have HI0 := n2_
                  clear n0_ n1_ n2_
                  (try clear hb)
                  (try clear hb2)
                  (try clear hk)
                  (try clear hi)
                  refine hK.out _ _ trivial (fun hHeld => ?_)
                  clear hK K
                  refine norm_ (a' := ?_) ?_ ?_
                  rotate_left
                  · show Act.put _ (some 34) _ = _
                    simp only [Act.put, List.setIfInBounds_toArray, List.set_cons_zero, List.set_cons_succ, i64_w, i32_w]
                    rfl
                  refine one_ (i := 6) (N := some 35) #[true, true, true, true, true, true, true, false, true, true, true, false, false] rfl rfl (one_of HT_.out (by kernel_rfl)) (by decide) (fun K hK => ?_)
                  refine goes_ Try.func86 (by kernel_rfl) rfl #[.pointer (some ⟨g, 0, none⟩), .int .i64 t175] (by rfl) rfl rfl (by (try simp only [List.map_toArray, List.map_cons, List.map_nil]); first | done | rfl | (simp only [List.length_drop, List.length_take]; rfl)) ?_
                  with_reducible refine (spec_l01Src_bytes.calls k g s0_0 t176 t177 t175 t178 t179 t180 w0 _ ?side1 ?side2 A27.out).mono ?_
                  (case side1 => repeat (first | (with_reducible first | exact HI0.out | apply IsS175.alloc | apply IsS175.drewN | apply IsS175.drew | apply IsS175.set_1 | apply IsS175.set_2) | exact HI0.out))
                  (case side2 => repeat (first | (with_reducible first | exact HB.out | apply below_alloc | apply pw_below_drewN | apply below_drew1 | refine below_set ?_ (IsS175.ge HI0.out)) | exact HB.out))
                  rintro e w37 ⟨rfl, hi, hb, hk⟩
                  refine ⟨_, rfl, ?_⟩
                  have n0_ := Aside0.mk (KeepBut.trans (by repeat (first | (with_reducible first | exact HK.out | apply KeepBut.set_ | apply keep_drewN | apply keep_drew | apply keep_alloc) | exact HK.out)) hk (.inl rfl))
                  have n1_ := Aside0.mk (hb)
                  have n2_ := Aside0.mk (hi)
                  clear HK
                  clear HB
                  clear HI0
                  have HK := n0_
                  have HB := n1_
                  have HI0 := n2_
                  clear n0_ n1_ n2_
                  (try clear hb)
                  (try clear hb2)
                  (try clear hk)
                  (try clear hi)
                  refine hK.out _ _ trivial (fun hHeld => ?_)
                  clear hK K
                  refine norm_ (a' := ?_) ?_ ?_
                  rotate_left
                  · show Act.put _ (some 35) _ = _
                    simp only [Act.put, List.setIfInBounds_toArray, List.set_cons_zero, List.set_cons_succ, i64_w, i32_w]
                    rfl
                  refine pure_ (i := 7) (N := some 36) (v := ?_) (a' := ?_) #[true, true, true, true, true, true, true, true, true, true, true, false, false] rfl rfl (any_of HT_.out (by kernel_rfl)) (fun _ _ _ h => h) (Or.inl ⟨by rfl, ?_⟩) ?_ ?_
                  rotate_left
                  · intro w'
                    go_simp
                    with_reducible rfl
                  rotate_left
                  · simp only [Act.put, List.setIfInBounds_toArray, List.set_cons_zero, List.set_cons_succ, i64_w, i32_w]
                    rfl
                  refine pure_ (i := 11) (N := some 40) (v := ?_) (a' := ?_) #[true, true, true, true, true, true, true, true, true, true, true, true, false] rfl rfl (any_of HT_.out (by kernel_rfl)) (fun _ _ _ h => h) (Or.inl ⟨by rfl, ?_⟩) ?_ ?_
                  rotate_left
                  · intro w'
                    go_simp
                    with_reducible rfl
                  rotate_left
                  · simp only [Act.put, List.setIfInBounds_toArray, List.set_cons_zero, List.set_cons_succ, i64_w, i32_w]
                    rfl
                  refine pure_ (i := 12) (N := some 4) (v := ?_) (a' := ?_) #[true, true, true, true, true, true, true, true, true, true, true, true, true] rfl rfl (any_of HT_.out (by kernel_rfl)) (fun _ _ _ h => h) (Or.inl ⟨by rfl, ?_⟩) ?_ ?_
                  rotate_left
                  · intro w'
                    go_simp
                    with_reducible rfl
                  rotate_left
                  · simp only [Act.put, List.setIfInBounds_toArray, List.set_cons_zero, List.set_cons_succ, i64_w, i32_w]
                    rfl
                  refine done_ (done_of HT_.out (by kernel_rfl)) ?_
                  try go_wp2
                  go_ret
                  exact ⟨by first | rfl | (simp [errW_none, errW_some] <;> rfl) | (simp only [← hji29]; first | rfl | (simp [errW_none, errW_some] <;> rfl)) | (simp [*, errW_none, errW_some] <;> rfl), by repeat (first | (with_reducible first | exact HI0.out | apply IsS175.alloc | apply IsS175.drewN | apply IsS175.drew | apply IsS175.set_1 | apply IsS175.set_2) | exact HI0.out), by repeat (first | (with_reducible first | exact HB.out | apply below_alloc | apply pw_below_drewN | apply below_drew1 | refine below_set ?_ (IsS175.ge HI0.out)) | exact HB.out), by repeat (first | (with_reducible first | exact HK.out | apply KeepBut.set_ | apply keep_drewN | apply keep_drew | apply keep_alloc) | exact HK.out)⟩
                · rw [if_neg c32] at H
                  exact absurd H (by simp)
              · rw [if_neg c31] at H
                exact absurd H (by simp)
            · rw [if_neg c30] at H
              exact absurd H (by simp)
          · rw [if_neg c28] at H
            exact absurd H (by simp)
        · rw [if_neg c25] at H
          exact absurd H (by simp)
      · rw [if_neg c24] at H
        exact absurd H (by simp)

/-! ### spec_DrawGlobFits: function 27 -/
def spec_DrawGlobFits.l0 : Nat → ByteArray → ByteArray → Int → List Int → Int → Int → Option (ByteArray × ByteArray)
  | 0, _, _, _, _, _, _ => none
  | k + 1, x5, x6, x7, x185000, x185001, x185002 => if x7 < (x5.size : Int) then ((spec_l01Src_n.f x185000 x185001 x185002 5).bind fun bt191 => (if bt191.1 = 0 then (if x6.size + 1 ≤ 9223372036854775807 then ((spec_l01Src_n.f x185000 bt191.2.1 bt191.2.2 4).bind fun bt194 => (spec_DrawGlobFits.l0 k x5 (x6 ++ (⟨#[42]⟩ : ByteArray)) (wrap64 ((wrap64 ((wrap64 (x7 + bt194.1)) - 1)) + 1)) x185000 bt194.2.1 bt194.2.2)) else (none)) else (if bt191.1 = 1 then (if x6.size + 1 ≤ 9223372036854775807 then (spec_DrawGlobFits.l0 k x5 (x6 ++ (⟨#[63]⟩ : ByteArray)) (wrap64 (x7 + 1)) x185000 bt191.2.1 bt191.2.2) else (none)) else (if 0 ≤ x7 then (if x7 ≤ (wrap64 (x7 + 1)) then (if (wrap64 (x7 + 1)) ≤ (x5.size : Int) then (if x6.size + (x5.extract (x7 : Int).toNat ((wrap64 (x7 + 1)) : Int).toNat).size ≤ 9223372036854775807 then (spec_DrawGlobFits.l0 k x5 (x6 ++ (x5.extract (x7 : Int).toNat ((wrap64 (x7 + 1)) : Int).toNat)) (wrap64 (x7 + 1)) x185000 bt191.2.1 bt191.2.2) else (none)) else (none)) else (none)) else (none))))) else ((spec_l01Src_one.f x185000 x185001 x185002 4).bind fun bt197 => (if bt197.1 = true then ((spec_l01Src_spoil.f k x185000 bt197.2.1 bt197.2.2 x6).bind fun bt200 => (some (bt200.1, x5))) else (some (x6, x5))))
def spec_DrawGlobFits.f (k : Nat) (l0 : List Int) : Option (ByteArray × ByteArray) := (spec_l01Source.f l0).bind fun bt181 => ((spec_l01Src_n.f bt181.1 bt181.2.1 bt181.2.2 10).bind fun bt185 => ((spec_l01Src_bytes.f k bt181.1 bt185.2.1 bt185.2.2 bt185.1).bind fun bt188 => (spec_DrawGlobFits.l0 k bt188.1 (⟨#[]⟩ : ByteArray) 0 bt181.1 bt188.2.1 bt188.2.2)))
theorem spec_DrawGlobFits.mono_l : ∀ k, (∀ y0 y1 y2 y3 y4 y5, LeO (spec_DrawGlobFits.l0 k y0 y1 y2 y3 y4 y5) (spec_DrawGlobFits.l0 (k + 1) y0 y1 y2 y3 y4 y5))
  | 0 => fun _ _ _ _ _ _ r h => by simp [spec_DrawGlobFits.l0] at h
  | k + 1 => by
    have ih0 := spec_DrawGlobFits.mono_l k
    · intro y0 y1 y2 y3 y4 y5
      unfold spec_DrawGlobFits.l0
      repeat' first
      | (with_reducible exact ih0 _ _ _ _ _ _)
      | (with_reducible exact spec_l01Src_bytes.mono _ _ _ _ _)
      | (with_reducible exact spec_l01Src_spoil.mono _ _ _ _ _)
      | (with_reducible exact LeO.refl _)
      | (with_reducible exact LeO.none _)
      | (with_reducible refine LeO.ite ?_ ?_)
      | (with_reducible refine LeO.bind ?_ (fun _ => ?_))
      | exact ih0 _ _ _ _ _ _
      | exact spec_l01Src_bytes.mono _ _ _ _ _
      | exact spec_l01Src_spoil.mono _ _ _ _ _
      | exact LeO.none _
      | refine LeO.ite ?_ ?_
      | refine LeO.bind ?_ (fun _ => ?_)
theorem spec_DrawGlobFits.mono : ∀ a0 k, LeO (spec_DrawGlobFits.f k a0) (spec_DrawGlobFits.f (k + 1) a0) := by
  intro a0 k
  have ih0 := spec_DrawGlobFits.mono_l k
  unfold spec_DrawGlobFits.f
  repeat' first
      | (with_reducible exact ih0 _ _ _ _ _ _)
      | (with_reducible exact spec_l01Src_bytes.mono _ _ _ _ _)
      | (with_reducible exact spec_l01Src_spoil.mono _ _ _ _ _)
      | (with_reducible exact LeO.refl _)
      | (with_reducible exact LeO.none _)
      | (with_reducible refine LeO.ite ?_ ?_)
      | (with_reducible refine LeO.bind ?_ (fun _ => ?_))
      | exact ih0 _ _ _ _ _ _
      | exact spec_l01Src_bytes.mono _ _ _ _ _
      | exact spec_l01Src_spoil.mono _ _ _ _ _
      | exact LeO.none _
      | refine LeO.ite ?_ ?_
      | refine LeO.bind ?_ (fun _ => ?_)
set_option maxHeartbeats 8000000 in
set_option maxRecDepth 100000 in
theorem spec_DrawGlobFits.calls (k : Nat) (A0 : Option Addr) (c0 : Nat) (l0 : List Int) (r1 : ByteArray) (r2 : ByteArray) (w : World) (hr0 : Kd.C (Kd.int .u8) w A0 l0.length l0) (hc0 : l0.length ≤ c0) (h : spec_DrawGlobFits.f k l0 = some (r1, r2)) :
    Calls Try.prog 27 #[.slice A0 l0.length c0] w fun e w' => e = .returned (.tuple #[.string r1, .string r2]) ∧ Below w.heap.size w w' := by
  have HR0 := Aside0.mk hr0
  have HC0 := Aside0.mk hc0
  clear hr0 hc0
  have HB := Aside0.mk (Below.refl w.heap.size w)
  have H : ((spec_l01Source.f l0).bind fun bt181 => ((spec_l01Src_n.f bt181.1 bt181.2.1 bt181.2.2 10).bind fun bt185 => ((spec_l01Src_bytes.f k bt181.1 bt185.2.1 bt185.2.2 bt185.1).bind fun bt188 => (spec_DrawGlobFits.l0 k bt188.1 (⟨#[]⟩ : ByteArray) 0 bt181.1 bt188.2.1 bt188.2.2)))) = some (r1, r2) := h
  clear h
  replace H := Option.bind_eq_some_iff.mp H
  obtain ⟨⟨t181, t182, t183⟩, A20, H⟩ := H
  replace H : ((spec_l01Src_n.f t181 t182 t183 10).bind fun bt185 => ((spec_l01Src_bytes.f k t181 bt185.2.1 bt185.2.2 bt185.1).bind fun bt188 => (spec_DrawGlobFits.l0 k bt188.1 (⟨#[]⟩ : ByteArray) 0 t181 bt188.2.1 bt188.2.2))) = some (r1, r2) := H
  have A2 := Aside0.mk A20
  clear A20
  replace H := Option.bind_eq_some_iff.mp H
  obtain ⟨⟨t185, t186, t187⟩, A30, H⟩ := H
  replace H : ((spec_l01Src_bytes.f k t181 t186 t187 t185).bind fun bt188 => (spec_DrawGlobFits.l0 k bt188.1 (⟨#[]⟩ : ByteArray) 0 t181 bt188.2.1 bt188.2.2)) = some (r1, r2) := H
  have A3 := Aside0.mk A30
  clear A30
  replace H := Option.bind_eq_some_iff.mp H
  obtain ⟨⟨t188, t189, t190⟩, A40, H⟩ := H
  replace H : (spec_DrawGlobFits.l0 k t188 (⟨#[]⟩ : ByteArray) 0 t181 t189 t190) = some (r1, r2) := H
  have A4 := Aside0.mk A40
  clear A40
  have H' := Aside0.mk H
  clear H
  go_enter Try.func27, Try.ntmps27
  go_wp2_with (first | ((with_reducible refine gate_callee (f := 73) rfl ?_); refine goesL_ (some 9) rfl rfl Try.func73 (by kernel_rfl) rfl #[.slice A0 l0.length c0] rfl (by (try simp only [List.map_toArray, List.map_cons, List.map_nil]); first | done | rfl | (simp only [List.length_drop, List.length_take]; rfl)) ?_; (with_reducible refine (spec_l01Source.calls _ _ l0 t181 t182 t183 w _ ?side1 ?side2 ?side3 A2.out).mono ?_); (case side1 => repeat (first | (with_reducible first | exact HB.out | apply below_alloc | apply pw_below_drewN | apply below_drew1) | exact HB.out)); (case side2 => exact HR0.out); (case side3 => exact HC0.out); rintro e w5 ⟨g184, rfl, hi, hb, hb2⟩; refine ⟨_, rfl, ?_⟩; have n0_ := Aside0.mk (hb); have n1_ := Aside0.mk (hi); clear HB; have HB := n0_; have HI184 := n1_; clear n0_ n1_; (try clear hb); (try clear hb2); (try clear hk); (try clear hi)) | ((with_reducible refine gate_callee (f := 75) rfl ?_); refine goesL_ (some 12) rfl rfl Try.func75 (by kernel_rfl) rfl #[.pointer (some ⟨g184, 0, none⟩), .int .i64 10] rfl (by (try simp only [List.map_toArray, List.map_cons, List.map_nil]); first | done | rfl | (simp only [List.length_drop, List.length_take]; rfl)) ?_; (with_reducible refine (spec_l01Src_n.calls g184 t181 t182 t183 10 t185 t186 t187 w _ ?side1 ?side2 A3.out).mono ?_); (case side1 => repeat (first | (with_reducible first | exact HI184.out | apply IsS175.alloc | apply IsS175.drewN | apply IsS175.drew | apply IsS175.set_1 | apply IsS175.set_2) | exact HI184.out)); (case side2 => repeat (first | (with_reducible first | exact HB.out | apply below_alloc | apply pw_below_drewN | apply below_drew1 | refine below_set ?_ (IsS175.ge HI184.out)) | exact HB.out)); rintro e w6 ⟨rfl, hi, hb, hk⟩; refine ⟨_, rfl, ?_⟩; have n0_ := Aside0.mk (hb); have n1_ := Aside0.mk (hi); clear HB; clear HI184; have HB := n0_; have HI184 := n1_; clear n0_ n1_; (try clear hb); (try clear hb2); (try clear hk); (try clear hi)) | ((with_reducible refine gate_callee (f := 86) rfl ?_); refine goesL_ (some 13) rfl rfl Try.func86 (by kernel_rfl) rfl #[.pointer (some ⟨g184, 0, none⟩), .int .i64 t185] rfl (by (try simp only [List.map_toArray, List.map_cons, List.map_nil]); first | done | rfl | (simp only [List.length_drop, List.length_take]; rfl)) ?_; (with_reducible refine (spec_l01Src_bytes.calls k g184 t181 t186 t187 t185 t188 t189 t190 w _ ?side1 ?side2 A4.out).mono ?_); (case side1 => repeat (first | (with_reducible first | exact HI184.out | apply IsS175.alloc | apply IsS175.drewN | apply IsS175.drew | apply IsS175.set_1 | apply IsS175.set_2) | exact HI184.out)); (case side2 => repeat (first | (with_reducible first | exact HB.out | apply below_alloc | apply pw_below_drewN | apply below_drew1 | refine below_set ?_ (IsS175.ge HI184.out)) | exact HB.out)); rintro e w7 ⟨rfl, hi, hb, hk⟩; refine ⟨_, rfl, ?_⟩; have n0_ := Aside0.mk (hb); have n1_ := Aside0.mk (hi); clear HB; clear HI184; have HB := n0_; have HI184 := n1_; clear n0_ n1_; (try clear hb); (try clear hb2); (try clear hk); (try clear hi)))
  go_loopg [6, 7] k (fun kq v6 v7 w' => ∃ (x6_1 : ByteArray) (x7_1 : Int) (x185001_1 : Int) (x185002_1 : Int), v6 = .string x6_1 ∧ v7 = .int .i64 x7_1 ∧ Aside0 (spec_DrawGlobFits.l0 kq t188 x6_1 x7_1 t181 x185001_1 x185002_1 = some (r1, r2)) ∧ Aside0 (kq ≤ k) ∧ Aside0 (IsS175 w w' g184 t181 x185001_1 x185002_1) ∧ Aside0 (Below w.heap.size w w'))
  case atStart => exact ⟨((⟨#[]⟩ : ByteArray)), (0), (t189), (t190), (by first | rfl | (simp; done) | (simp [*]; done)), (by first | rfl | (simp; done) | (simp [*]; done)), H', ⟨Nat.le_refl _⟩, ⟨by repeat (first | (with_reducible first | exact HI184.out | apply IsS175.alloc | apply IsS175.drewN | apply IsS175.drew | apply IsS175.set_1 | apply IsS175.set_2) | exact HI184.out)⟩, ⟨by repeat (first | (with_reducible first | exact HB.out | apply below_alloc | apply pw_below_drewN | apply below_drew1 | refine below_set ?_ (IsS175.ge HI184.out)) | exact HB.out)⟩⟩
  case round =>
    clear H'
    try clear c2
    try clear p2
    try clear c7
    obtain ⟨x6_1, x7_1, x185001_1, x185002_1, rfl, rfl, HA, HK1, HI184, HB⟩ := hrel
    cases gk with
    | zero => exact absurd HA.out (by simp [spec_DrawGlobFits.l0])
    | succ k1 =>
      have H := HA.out
      clear HA
      simp only [spec_DrawGlobFits.l0] at H
      by_cases c8 : x7_1 < (t188.size : Int)
      · rw [if_pos c8] at H
        have c8b0 : decide (x7_1 < (t188.size : Int)) = true := decide_eq_true c8
        clear c8
        replace H := Option.bind_eq_some_iff.mp H
        obtain ⟨⟨t191, t192, t193⟩, A90, H⟩ := H
        replace H : (if t191 = 0 then (if x6_1.size + 1 ≤ 9223372036854775807 then ((spec_l01Src_n.f t181 t192 t193 4).bind fun bt194 => (spec_DrawGlobFits.l0 k1 t188 (x6_1 ++ (⟨#[42]⟩ : ByteArray)) (wrap64 ((wrap64 ((wrap64 (x7_1 + bt194.1)) - 1)) + 1)) t181 bt194.2.1 bt194.2.2)) else (none)) else (if t191 = 1 then (if x6_1.size + 1 ≤ 9223372036854775807 then (spec_DrawGlobFits.l0 k1 t188 (x6_1 ++ (⟨#[63]⟩ : ByteArray)) (wrap64 (x7_1 + 1)) t181 t192 t193) else (none)) else (if 0 ≤ x7_1 then (if x7_1 ≤ (wrap64 (x7_1 + 1)) then (if (wrap64 (x7_1 + 1)) ≤ (t188.size : Int) then (if x6_1.size + (t188.extract (x7_1 : Int).toNat ((wrap64 (x7_1 + 1)) : Int).toNat).size ≤ 9223372036854775807 then (spec_DrawGlobFits.l0 k1 t188 (x6_1 ++ (t188.extract (x7_1 : Int).toNat ((wrap64 (x7_1 + 1)) : Int).toNat)) (wrap64 (x7_1 + 1)) t181 t192 t193) else (none)) else (none)) else (none)) else (none)))) = some (r1, r2) := H
        have A9 := Aside0.mk A90
        clear A90
        by_cases c10 : t191 = 0
        · rw [if_pos c10] at H
          have c10b0 : (t191 == 0) = true := beq_iff_eq.mpr c10
          have c10b1 : (t191 != 0) = false := bne_eq_false_iff_eq.mpr c10
          clear c10
          by_cases c11 : x6_1.size + 1 ≤ 9223372036854775807
          · rw [if_pos c11] at H
            have c11b0 := eq_true c11
            have c11b1 : decide (x6_1.size + 1 ≤ 9223372036854775807) = true := decide_eq_true c11
            try have c11b2 : (9223372036854775807 < x6_1.size + 1) = False := eq_false (Nat.not_lt.2 c11)
            replace H := Option.bind_eq_some_iff.mp H
            obtain ⟨⟨t194, t195, t196⟩, A120, H⟩ := H
            replace H : (spec_DrawGlobFits.l0 k1 t188 (x6_1 ++ (⟨#[42]⟩ : ByteArray)) (wrap64 ((wrap64 ((wrap64 (x7_1 + t194)) - 1)) + 1)) t181 t195 t196) = some (r1, r2) := H
            have A12 := Aside0.mk A120
            clear A120
            have H' := Aside0.mk H
            clear H
            go_wp2_with (first | ((with_reducible refine gate_callee (f := 75) rfl ?_); refine goesL_ (some 21) rfl rfl Try.func75 (by kernel_rfl) rfl #[.pointer (some ⟨g184, 0, none⟩), .int .i64 5] rfl (by (try simp only [List.map_toArray, List.map_cons, List.map_nil]); first | done | rfl | (simp only [List.length_drop, List.length_take]; rfl)) ?_; (with_reducible refine (spec_l01Src_n.calls g184 t181 x185001_1 x185002_1 5 t191 t192 t193 w _ ?side1 ?side2 A9.out).mono ?_); (case side1 => repeat (first | (with_reducible first | exact HI184.out | apply IsS175.alloc | apply IsS175.drewN | apply IsS175.drew | apply IsS175.set_1 | apply IsS175.set_2) | exact HI184.out)); (case side2 => repeat (first | (with_reducible first | exact HB.out | apply below_alloc | apply pw_below_drewN | apply below_drew1 | refine below_set ?_ (IsS175.ge HI184.out)) | exact HB.out)); rintro e w13 ⟨rfl, hi, hb, hk⟩; refine ⟨_, rfl, ?_⟩; have n0_ := Aside0.mk (hb); have n1_ := Aside0.mk (hi); clear HB; clear HI184; have HB := n0_; have HI184 := n1_; clear n0_ n1_; (try clear hb); (try clear hb2); (try clear hk); (try clear hi)) | ((with_reducible refine gate_callee (f := 75) rfl ?_); refine goesL_ (some 35) rfl rfl Try.func75 (by kernel_rfl) rfl #[.pointer (some ⟨g184, 0, none⟩), .int .i64 4] rfl (by (try simp only [List.map_toArray, List.map_cons, List.map_nil]); first | done | rfl | (simp only [List.length_drop, List.length_take]; rfl)) ?_; (with_reducible refine (spec_l01Src_n.calls g184 t181 t192 t193 4 t194 t195 t196 w _ ?side1 ?side2 A12.out).mono ?_); (case side1 => repeat (first | (with_reducible first | exact HI184.out | apply IsS175.alloc | apply IsS175.drewN | apply IsS175.drew | apply IsS175.set_1 | apply IsS175.set_2) | exact HI184.out)); (case side2 => repeat (first | (with_reducible first | exact HB.out | apply below_alloc | apply pw_below_drewN | apply below_drew1 | refine below_set ?_ (IsS175.ge HI184.out)) | exact HB.out)); rintro e w14 ⟨rfl, hi, hb, hk⟩; refine ⟨_, rfl, ?_⟩; have n0_ := Aside0.mk (hb); have n1_ := Aside0.mk (hi); clear HB; clear HI184; have HB := n0_; have HI184 := n1_; clear n0_ n1_; (try clear hb); (try clear hb2); (try clear hk); (try clear hi)))
            go_roundg k1
            case measure => have := HK1.out; omega
            case rel => exact ⟨(x6_1 ++ (⟨#[42]⟩ : ByteArray)), (wrap64 ((wrap64 ((wrap64 (x7_1 + t194)) - 1)) + 1)), (t195), (t196), (by first | rfl | (simp; done) | (simp [*]; done)), (by first | rfl | (simp; done) | (simp [*]; done)), H', ⟨by have := HK1.out; omega⟩, ⟨by repeat (first | (with_reducible first | exact HI184.out | apply IsS175.alloc | apply IsS175.drewN | apply IsS175.drew | apply IsS175.set_1 | apply IsS175.set_2) | exact HI184.out)⟩, ⟨by repeat (first | (with_reducible first | exact HB.out | apply below_alloc | apply pw_below_drewN | apply below_drew1 | refine below_set ?_ (IsS175.ge HI184.out)) | exact HB.out)⟩⟩
          · rw [if_neg c11] at H
            exact absurd H (by simp)
        · rw [if_neg c10] at H
          have c10b0 : (t191 == 0) = false := beq_eq_false_iff_ne.mpr c10
          have c10b1 : (t191 != 0) = true := bne_iff_ne.mpr c10
          by_cases c15 : t191 = 1
          · rw [if_pos c15] at H
            have c15b0 : (t191 == 1) = true := beq_iff_eq.mpr c15
            have c15b1 : (t191 != 1) = false := bne_eq_false_iff_eq.mpr c15
            clear c15
            by_cases c16 : x6_1.size + 1 ≤ 9223372036854775807
            · rw [if_pos c16] at H
              have c16b0 := eq_true c16
              have c16b1 : decide (x6_1.size + 1 ≤ 9223372036854775807) = true := decide_eq_true c16
              try have c16b2 : (9223372036854775807 < x6_1.size + 1) = False := eq_false (Nat.not_lt.2 c16)
              have H' := Aside0.mk H
              clear H
              go_wp2_with (first | ((with_reducible refine gate_callee (f := 75) rfl ?_); refine goesL_ (some 21) rfl rfl Try.func75 (by kernel_rfl) rfl #[.pointer (some ⟨g184, 0, none⟩), .int .i64 5] rfl (by (try simp only [List.map_toArray, List.map_cons, List.map_nil]); first | done | rfl | (simp only [List.length_drop, List.length_take]; rfl)) ?_; (with_reducible refine (spec_l01Src_n.calls g184 t181 x185001_1 x185002_1 5 t191 t192 t193 w _ ?side1 ?side2 A9.out).mono ?_); (case side1 => repeat (first | (with_reducible first | exact HI184.out | apply IsS175.alloc | apply IsS175.drewN | apply IsS175.drew | apply IsS175.set_1 | apply IsS175.set_2) | exact HI184.out)); (case side2 => repeat (first | (with_reducible first | exact HB.out | apply below_alloc | apply pw_below_drewN | apply below_drew1 | refine below_set ?_ (IsS175.ge HI184.out)) | exact HB.out)); rintro e w17 ⟨rfl, hi, hb, hk⟩; refine ⟨_, rfl, ?_⟩; have n0_ := Aside0.mk (hb); have n1_ := Aside0.mk (hi); clear HB; clear HI184; have HB := n0_; have HI184 := n1_; clear n0_ n1_; (try clear hb); (try clear hb2); (try clear hk); (try clear hi)))
              go_roundg k1
              case measure => have := HK1.out; omega
              case rel => exact ⟨(x6_1 ++ (⟨#[63]⟩ : ByteArray)), (wrap64 (x7_1 + 1)), (t192), (t193), (by first | rfl | (simp; done) | (simp [*]; done)), (by first | rfl | (simp; done) | (simp [*]; done)), H', ⟨by have := HK1.out; omega⟩, ⟨by repeat (first | (with_reducible first | exact HI184.out | apply IsS175.alloc | apply IsS175.drewN | apply IsS175.drew | apply IsS175.set_1 | apply IsS175.set_2) | exact HI184.out)⟩, ⟨by repeat (first | (with_reducible first | exact HB.out | apply below_alloc | apply pw_below_drewN | apply below_drew1 | refine below_set ?_ (IsS175.ge HI184.out)) | exact HB.out)⟩⟩
            · rw [if_neg c16] at H
              exact absurd H (by simp)
          · rw [if_neg c15] at H
            have c15b0 : (t191 == 1) = false := beq_eq_false_iff_ne.mpr c15
            have c15b1 : (t191 != 1) = true := bne_iff_ne.mpr c15
            by_cases c18 : 0 ≤ x7_1
            · rw [if_pos c18] at H
              have c18b0 := eq_true c18
              have c18b1 : decide (0 ≤ x7_1) = true := decide_eq_true c18
              clear c18
              by_cases c19 : x7_1 ≤ (wrap64 (x7_1 + 1))
              · rw [if_pos c19] at H
                have c19b0 := eq_true c19
                have c19b1 : decide (x7_1 ≤ (wrap64 (x7_1 + 1))) = true := decide_eq_true c19
                by_cases c20 : (wrap64 (x7_1 + 1)) ≤ (t188.size : Int)
                · rw [if_pos c20] at H
                  have c20b0 := eq_true c20
                  have c20b1 : decide ((wrap64 (x7_1 + 1)) ≤ (t188.size : Int)) = true := decide_eq_true c20
                  by_cases c21 : x6_1.size + (t188.extract (x7_1 : Int).toNat ((wrap64 (x7_1 + 1)) : Int).toNat).size ≤ 9223372036854775807
                  · rw [if_pos c21] at H
                    have c21b0 := eq_true c21
                    have c21b1 : decide (x6_1.size + (t188.extract (x7_1 : Int).toNat ((wrap64 (x7_1 + 1)) : Int).toNat).size ≤ 9223372036854775807) = true := decide_eq_true c21
                    try have c21b2 : (9223372036854775807 < x6_1.size + (t188.extract (x7_1 : Int).toNat ((wrap64 (x7_1 + 1)) : Int).toNat).size) = False := eq_false (Nat.not_lt.2 c21)
                    have H' := Aside0.mk H
                    clear H
                    go_wp2_with (first | ((with_reducible refine gate_callee (f := 75) rfl ?_); refine goesL_ (some 21) rfl rfl Try.func75 (by kernel_rfl) rfl #[.pointer (some ⟨g184, 0, none⟩), .int .i64 5] rfl (by (try simp only [List.map_toArray, List.map_cons, List.map_nil]); first | done | rfl | (simp only [List.length_drop, List.length_take]; rfl)) ?_; (with_reducible refine (spec_l01Src_n.calls g184 t181 x185001_1 x185002_1 5 t191 t192 t193 w _ ?side1 ?side2 A9.out).mono ?_); (case side1 => repeat (first | (with_reducible first | exact HI184.out | apply IsS175.alloc | apply IsS175.drewN | apply IsS175.drew | apply IsS175.set_1 | apply IsS175.set_2) | exact HI184.out)); (case side2 => repeat (first | (with_reducible first | exact HB.out | apply below_alloc | apply pw_below_drewN | apply below_drew1 | refine below_set ?_ (IsS175.ge HI184.out)) | exact HB.out)); rintro e w22 ⟨rfl, hi, hb, hk⟩; refine ⟨_, rfl, ?_⟩; have n0_ := Aside0.mk (hb); have n1_ := Aside0.mk (hi); clear HB; clear HI184; have HB := n0_; have HI184 := n1_; clear n0_ n1_; (try clear hb); (try clear hb2); (try clear hk); (try clear hi)))
                    go_roundg k1
                    case measure => have := HK1.out; omega
                    case rel => exact ⟨(x6_1 ++ (t188.extract (x7_1 : Int).toNat ((wrap64 (x7_1 + 1)) : Int).toNat)), (wrap64 (x7_1 + 1)), (t192), (t193), (by first | rfl | (simp; done) | (simp [*]; done)), (by first | rfl | (simp; done) | (simp [*]; done)), H', ⟨by have := HK1.out; omega⟩, ⟨by repeat (first | (with_reducible first | exact HI184.out | apply IsS175.alloc | apply IsS175.drewN | apply IsS175.drew | apply IsS175.set_1 | apply IsS175.set_2) | exact HI184.out)⟩, ⟨by repeat (first | (with_reducible first | exact HB.out | apply below_alloc | apply pw_below_drewN | apply below_drew1 | refine below_set ?_ (IsS175.ge HI184.out)) | exact HB.out)⟩⟩
                  · rw [if_neg c21] at H
                    exact absurd H (by simp)
                · rw [if_neg c20] at H
                  exact absurd H (by simp)
              · rw [if_neg c19] at H
                exact absurd H (by simp)
            · rw [if_neg c18] at H
              exact absurd H (by simp)
      · rw [if_neg c8] at H
        have c8b0 : decide (x7_1 < (t188.size : Int)) = false := decide_eq_false c8
        clear c8
        replace H := Option.bind_eq_some_iff.mp H
        obtain ⟨⟨t197, t198, t199⟩, A230, H⟩ := H
        replace H : (if t197 = true then ((spec_l01Src_spoil.f k1 t181 t198 t199 x6_1).bind fun bt200 => (some (bt200.1, t188))) else (some (x6_1, t188))) = some (r1, r2) := H
        have A23 := Aside0.mk A230
        clear A230
        by_cases c24 : t197 = true
        · subst c24
          have H1 : ((spec_l01Src_spoil.f k1 t181 t198 t199 x6_1).bind fun bt200 => (some (bt200.1, t188))) = some (r1, r2) := by rw [if_pos rfl] at H; exact H
          clear H
          have H := H1
          clear H1
          replace H := Option.bind_eq_some_iff.mp H
          obtain ⟨⟨t200, t201, t202⟩, A250, H⟩ := H
          replace H : (some (t200, t188)) = some (r1, r2) := H
          have A25 := Aside0.mk A250
          clear A250
          simp only [Option.some.injEq, Prod.mk.injEq] at H
          obtain ⟨rfl, rfl⟩ := H
          go_wp2_with (first | ((with_reducible refine gate_callee (f := 87) rfl ?_); refine goesL_ (some 43) rfl rfl Try.func87 (by kernel_rfl) rfl #[.pointer (some ⟨g184, 0, none⟩), .int .i64 4] rfl (by (try simp only [List.map_toArray, List.map_cons, List.map_nil]); first | done | rfl | (simp only [List.length_drop, List.length_take]; rfl)) ?_; (with_reducible refine (spec_l01Src_one.calls g184 t181 x185001_1 x185002_1 4 true t198 t199 w _ ?side1 ?side2 A23.out).mono ?_); (case side1 => repeat (first | (with_reducible first | exact HI184.out | apply IsS175.alloc | apply IsS175.drewN | apply IsS175.drew | apply IsS175.set_1 | apply IsS175.set_2) | exact HI184.out)); (case side2 => repeat (first | (with_reducible first | exact HB.out | apply below_alloc | apply pw_below_drewN | apply below_drew1 | refine below_set ?_ (IsS175.ge HI184.out)) | exact HB.out)); rintro e w26 ⟨rfl, hi, hb, hk⟩; refine ⟨_, rfl, ?_⟩; have n0_ := Aside0.mk (hb); have n1_ := Aside0.mk (hi); clear HB; clear HI184; have HB := n0_; have HI184 := n1_; clear n0_ n1_; (try clear hb); (try clear hb2); (try clear hk); (try clear hi)) | ((with_reducible refine gate_callee (f := 88) rfl ?_); refine goesL_ (some 46) rfl rfl Try.func88 (by kernel_rfl) rfl #[.pointer (some ⟨g184, 0, none⟩), .string x6_1] rfl (by (try simp only [List.map_toArray, List.map_cons, List.map_nil]); first | done | rfl | (simp only [List.length_drop, List.length_take]; rfl)) ?_; (with_reducible refine (spec_l01Src_spoil.calls k1 g184 t181 t198 t199 x6_1 t200 t201 t202 w _ ?side1 ?side2 A25.out).mono ?_); (case side1 => repeat (first | (with_reducible first | exact HI184.out | apply IsS175.alloc | apply IsS175.drewN | apply IsS175.drew | apply IsS175.set_1 | apply IsS175.set_2) | exact HI184.out)); (case side2 => repeat (first | (with_reducible first | exact HB.out | apply below_alloc | apply pw_below_drewN | apply below_drew1 | refine below_set ?_ (IsS175.ge HI184.out)) | exact HB.out)); rintro e w27 ⟨rfl, hi, hb, hk⟩; refine ⟨_, rfl, ?_⟩; have n0_ := Aside0.mk (hb); have n1_ := Aside0.mk (hi); clear HB; clear HI184; have HB := n0_; have HI184 := n1_; clear n0_ n1_; (try clear hb); (try clear hb2); (try clear hk); (try clear hi)))
          go_ret2
          exact ⟨by first | rfl | (simp [errW_none, errW_some] <;> rfl) | (simp [*, errW_none, errW_some] <;> rfl), by repeat (first | (with_reducible first | exact HB.out | apply below_alloc | apply pw_below_drewN | apply below_drew1 | refine below_set ?_ (IsS175.ge HI184.out)) | exact HB.out)⟩
        · replace c24 := Bool.eq_false_iff.mpr c24
          subst c24
          have H1 : (some (x6_1, t188)) = some (r1, r2) := by rw [if_neg (show ¬ (false = true) by decide)] at H; exact H
          clear H
          have H := H1
          clear H1
          simp only [Option.some.injEq, Prod.mk.injEq] at H
          obtain ⟨rfl, rfl⟩ := H
          go_wp2_with (first | ((with_reducible refine gate_callee (f := 87) rfl ?_); refine goesL_ (some 43) rfl rfl Try.func87 (by kernel_rfl) rfl #[.pointer (some ⟨g184, 0, none⟩), .int .i64 4] rfl (by (try simp only [List.map_toArray, List.map_cons, List.map_nil]); first | done | rfl | (simp only [List.length_drop, List.length_take]; rfl)) ?_; (with_reducible refine (spec_l01Src_one.calls g184 t181 x185001_1 x185002_1 4 false t198 t199 w _ ?side1 ?side2 A23.out).mono ?_); (case side1 => repeat (first | (with_reducible first | exact HI184.out | apply IsS175.alloc | apply IsS175.drewN | apply IsS175.drew | apply IsS175.set_1 | apply IsS175.set_2) | exact HI184.out)); (case side2 => repeat (first | (with_reducible first | exact HB.out | apply below_alloc | apply pw_below_drewN | apply below_drew1 | refine below_set ?_ (IsS175.ge HI184.out)) | exact HB.out)); rintro e w28 ⟨rfl, hi, hb, hk⟩; refine ⟨_, rfl, ?_⟩; have n0_ := Aside0.mk (hb); have n1_ := Aside0.mk (hi); clear HB; clear HI184; have HB := n0_; have HI184 := n1_; clear n0_ n1_; (try clear hb); (try clear hb2); (try clear hk); (try clear hi)))
          go_ret2
          exact ⟨by first | rfl | (simp [errW_none, errW_some] <;> rfl) | (simp [*, errW_none, errW_some] <;> rfl), by repeat (first | (with_reducible first | exact HB.out | apply below_alloc | apply pw_below_drewN | apply below_drew1 | refine below_set ?_ (IsS175.ge HI184.out)) | exact HB.out)⟩

end Go.Proofs.Ytimfdodgecehgaa.QFnGlobs
