-- A text of this session, made by a program of its own (wip/tools/mkq.py).
import Derived.Test.YtimfdodgecehgaaQFnFieldx0
import Derived.Test.YtimfdodgecehgaaQFnFieldx1
import Derived.Test.YtimfdodgecehgaaQFnFieldx2
namespace Go.Proofs.Ytimfdodgecehgaa.QFnField
open Go.RowKit Go.Proofs.YtimfdodgecehgaaW.PrintWords Go.Proofs.YtimfdodgecehgaaW.PrintLast Go.Proofs.YtimfdodgecehgaaW.PrintMore
attribute [local go_sem] max2_int min2_int max_two min_two max_three min_three max_four min_four   -- for this text's walks alone
set_option linter.unusedVariables false
set_option linter.unusedSimpArgs false

/-! ### laws_FnField: function 4 -/
mutual
def laws_FnField.j0 : Nat → List Int → List Int → Bool → Option (Bool)
  | 0, _, _, _ => none
  | k + 1, x0, x1, x18 => if x18 = true then (some true) else ((laws_lwAt.f x0 0).bind fun t151 => ((laws_lwAt.f x0 1).bind fun t152 => ((laws_lwAt.f x0 2).bind fun t153 => ((impl_Mul8.f k t151 t152).bind fun t154 => ((spec_Mul8.f k t151 t152).bind fun t155 => (if t154 = t155 then ((impl_Mul8.f k t151 t152).bind fun t156 => ((impl_Mul8.f k t152 t151).bind fun t157 => (if t156 = t157 then ((impl_Mul8.f k t151 t152).bind fun t158 => ((impl_Mul8.f k t158 t153).bind fun t159 => ((impl_Mul8.f k t152 t153).bind fun t160 => ((impl_Mul8.f k t151 t160).bind fun t161 => (if t159 = t161 then ((impl_Mul8.f k t151 (Go.bits .xor .i64 t152 t153)).bind fun t162 => ((impl_Mul8.f k t151 t152).bind fun t163 => ((impl_Mul8.f k t151 t153).bind fun t164 => (laws_FnField.j1 k x1 t151 t152 t153 (t162 != (Go.bits .xor .i64 t163 t164)))))) else (laws_FnField.j1 k x1 t151 t152 t153 true)))))) else (laws_FnField.j1 k x1 t151 t152 t153 true)))) else (laws_FnField.j1 k x1 t151 t152 t153 true)))))))
def laws_FnField.j1 : Nat → List Int → Int → Int → Int → Bool → Option (Bool)
  | 0, _, _, _, _, _ => none
  | k + 1, x1, x5, x6, x7, x68 => if x68 = true then (some false) else (if x5 > 0 then ((impl_Inv8.f k x5).bind fun t165 => ((impl_Mul8.f k x5 t165).bind fun t166 => (if t166 = 1 then ((impl_Pow8.f k x5 x6).bind fun t167 => ((impl_Pow8.f k x5 x7).bind fun t168 => ((impl_Mul8.f k t167 t168).bind fun t169 => ((impl_Pow8.f k x5 (wrap64 (x6 + x7))).bind fun t170 => (laws_FnField.j2 k x1 (t169 != t170)))))) else (laws_FnField.j2 k x1 true)))) else ((impl_Pow8.f k x5 x6).bind fun t171 => ((impl_Pow8.f k x5 x7).bind fun t172 => ((impl_Mul8.f k t171 t172).bind fun t173 => ((impl_Pow8.f k x5 (wrap64 (x6 + x7))).bind fun t174 => (laws_FnField.j2 k x1 (t173 != t174)))))))
def laws_FnField.j2 : Nat → List Int → Bool → Option (Bool)
  | 0, _, _ => none
  | k + 1, x1, x92 => if x92 = true then (some false) else ((laws_lwAt.f x1 0).bind fun t175 => ((laws_lwAt.f x1 1).bind fun t176 => ((laws_lwAt.f x1 2).bind fun t177 => ((laws_lwAt.f x1 3).bind fun t178 => ((laws_lwAt.f x1 4).bind fun t179 => ((laws_lwAt.f x1 5).bind fun t180 => ((impl_Mul16.f k (wrap64 ((wrap64 (t175 * 256)) + t176)) (wrap64 ((wrap64 (t177 * 256)) + t178))).bind fun t181 => ((spec_Mul16.f k (wrap64 ((wrap64 (t175 * 256)) + t176)) (wrap64 ((wrap64 (t177 * 256)) + t178))).bind fun t182 => (if t181 = t182 then ((impl_Mul16.f k (wrap64 ((wrap64 (t175 * 256)) + t176)) (wrap64 ((wrap64 (t177 * 256)) + t178))).bind fun t183 => ((impl_Mul16.f k (wrap64 ((wrap64 (t177 * 256)) + t178)) (wrap64 ((wrap64 (t175 * 256)) + t176))).bind fun t184 => (if t183 = t184 then ((impl_Mul16.f k (wrap64 ((wrap64 (t175 * 256)) + t176)) (wrap64 ((wrap64 (t177 * 256)) + t178))).bind fun t185 => ((impl_Mul16.f k t185 (wrap64 ((wrap64 (t179 * 256)) + t180))).bind fun t186 => ((impl_Mul16.f k (wrap64 ((wrap64 (t177 * 256)) + t178)) (wrap64 ((wrap64 (t179 * 256)) + t180))).bind fun t187 => ((impl_Mul16.f k (wrap64 ((wrap64 (t175 * 256)) + t176)) t187).bind fun t188 => (if t186 = t188 then ((impl_Mul16.f k (wrap64 ((wrap64 (t175 * 256)) + t176)) (Go.bits .xor .i64 (wrap64 ((wrap64 (t177 * 256)) + t178)) (wrap64 ((wrap64 (t179 * 256)) + t180)))).bind fun t189 => ((impl_Mul16.f k (wrap64 ((wrap64 (t175 * 256)) + t176)) (wrap64 ((wrap64 (t177 * 256)) + t178))).bind fun t190 => ((impl_Mul16.f k (wrap64 ((wrap64 (t175 * 256)) + t176)) (wrap64 ((wrap64 (t179 * 256)) + t180))).bind fun t191 => (laws_FnField.j3 k (wrap64 ((wrap64 (t175 * 256)) + t176)) (t189 != (Go.bits .xor .i64 t190 t191)))))) else (laws_FnField.j3 k (wrap64 ((wrap64 (t175 * 256)) + t176)) true)))))) else (laws_FnField.j3 k (wrap64 ((wrap64 (t175 * 256)) + t176)) true)))) else (laws_FnField.j3 k (wrap64 ((wrap64 (t175 * 256)) + t176)) true))))))))))
def laws_FnField.j3 : Nat → Int → Bool → Option (Bool)
  | 0, _, _ => none
  | k + 1, x8, x154 => if x154 = true then (some false) else (if x8 = 0 then (some true) else ((impl_Inv16.f k x8).bind fun t192 => ((impl_Mul16.f k x8 t192).bind fun t193 => (some (t193 == 1)))))
end
def laws_FnField.f (k : Nat) (l0 : List Int) (l1 : List Int) : Option (Bool) := if (l0.length : Int) > 1048576 then (laws_FnField.j0 k l0 l1 true) else (laws_FnField.j0 k l0 l1 (decide ((l1.length : Int) > 1048576)))
theorem laws_FnField.mono_l : ∀ k, (∀ y0 y1 y2, LeO (laws_FnField.j0 k y0 y1 y2) (laws_FnField.j0 (k + 1) y0 y1 y2)) ∧ (∀ y0 y1 y2 y3 y4, LeO (laws_FnField.j1 k y0 y1 y2 y3 y4) (laws_FnField.j1 (k + 1) y0 y1 y2 y3 y4)) ∧ (∀ y0 y1, LeO (laws_FnField.j2 k y0 y1) (laws_FnField.j2 (k + 1) y0 y1)) ∧ (∀ y0 y1, LeO (laws_FnField.j3 k y0 y1) (laws_FnField.j3 (k + 1) y0 y1))
  | 0 => ⟨fun _ _ _ r h => by simp [laws_FnField.j0] at h, fun _ _ _ _ _ r h => by simp [laws_FnField.j1] at h, fun _ _ r h => by simp [laws_FnField.j2] at h, fun _ _ r h => by simp [laws_FnField.j3] at h⟩
  | k + 1 => by
    obtain ⟨ih0, ih1, ih2, ih3⟩ := laws_FnField.mono_l k
    refine ⟨?_, ?_, ?_, ?_⟩
    · intro y0 y1 y2
      unfold laws_FnField.j0
      repeat' first
      | (with_reducible exact ih0 _ _ _)
      | (with_reducible exact ih1 _ _ _ _ _)
      | (with_reducible exact ih2 _ _)
      | (with_reducible exact ih3 _ _)
      | (with_reducible exact impl_Inv16.mono _ _)
      | (with_reducible exact impl_Inv8.mono _ _)
      | (with_reducible exact impl_Mul16.mono _ _ _)
      | (with_reducible exact impl_Mul8.mono _ _ _)
      | (with_reducible exact impl_Pow8.mono _ _ _)
      | (with_reducible exact spec_Mul16.mono _ _ _)
      | (with_reducible exact spec_Mul8.mono _ _ _)
      | (with_reducible exact LeO.refl _)
      | (with_reducible exact LeO.none _)
      | (with_reducible refine LeO.ite ?_ ?_)
      | (with_reducible refine LeO.bind ?_ (fun _ => ?_))
      | exact ih0 _ _ _
      | exact ih1 _ _ _ _ _
      | exact ih2 _ _
      | exact ih3 _ _
      | exact impl_Inv16.mono _ _
      | exact impl_Inv8.mono _ _
      | exact impl_Mul16.mono _ _ _
      | exact impl_Mul8.mono _ _ _
      | exact impl_Pow8.mono _ _ _
      | exact spec_Mul16.mono _ _ _
      | exact spec_Mul8.mono _ _ _
      | exact LeO.none _
      | refine LeO.ite ?_ ?_
      | refine LeO.bind ?_ (fun _ => ?_)
    · intro y0 y1 y2 y3 y4
      unfold laws_FnField.j1
      repeat' first
      | (with_reducible exact ih0 _ _ _)
      | (with_reducible exact ih1 _ _ _ _ _)
      | (with_reducible exact ih2 _ _)
      | (with_reducible exact ih3 _ _)
      | (with_reducible exact impl_Inv16.mono _ _)
      | (with_reducible exact impl_Inv8.mono _ _)
      | (with_reducible exact impl_Mul16.mono _ _ _)
      | (with_reducible exact impl_Mul8.mono _ _ _)
      | (with_reducible exact impl_Pow8.mono _ _ _)
      | (with_reducible exact spec_Mul16.mono _ _ _)
      | (with_reducible exact spec_Mul8.mono _ _ _)
      | (with_reducible exact LeO.refl _)
      | (with_reducible exact LeO.none _)
      | (with_reducible refine LeO.ite ?_ ?_)
      | (with_reducible refine LeO.bind ?_ (fun _ => ?_))
      | exact ih0 _ _ _
      | exact ih1 _ _ _ _ _
      | exact ih2 _ _
      | exact ih3 _ _
      | exact impl_Inv16.mono _ _
      | exact impl_Inv8.mono _ _
      | exact impl_Mul16.mono _ _ _
      | exact impl_Mul8.mono _ _ _
      | exact impl_Pow8.mono _ _ _
      | exact spec_Mul16.mono _ _ _
      | exact spec_Mul8.mono _ _ _
      | exact LeO.none _
      | refine LeO.ite ?_ ?_
      | refine LeO.bind ?_ (fun _ => ?_)
    · intro y0 y1
      unfold laws_FnField.j2
      repeat' first
      | (with_reducible exact ih0 _ _ _)
      | (with_reducible exact ih1 _ _ _ _ _)
      | (with_reducible exact ih2 _ _)
      | (with_reducible exact ih3 _ _)
      | (with_reducible exact impl_Inv16.mono _ _)
      | (with_reducible exact impl_Inv8.mono _ _)
      | (with_reducible exact impl_Mul16.mono _ _ _)
      | (with_reducible exact impl_Mul8.mono _ _ _)
      | (with_reducible exact impl_Pow8.mono _ _ _)
      | (with_reducible exact spec_Mul16.mono _ _ _)
      | (with_reducible exact spec_Mul8.mono _ _ _)
      | (with_reducible exact LeO.refl _)
      | (with_reducible exact LeO.none _)
      | (with_reducible refine LeO.ite ?_ ?_)
      | (with_reducible refine LeO.bind ?_ (fun _ => ?_))
      | exact ih0 _ _ _
      | exact ih1 _ _ _ _ _
      | exact ih2 _ _
      | exact ih3 _ _
      | exact impl_Inv16.mono _ _
      | exact impl_Inv8.mono _ _
      | exact impl_Mul16.mono _ _ _
      | exact impl_Mul8.mono _ _ _
      | exact impl_Pow8.mono _ _ _
      | exact spec_Mul16.mono _ _ _
      | exact spec_Mul8.mono _ _ _
      | exact LeO.none _
      | refine LeO.ite ?_ ?_
      | refine LeO.bind ?_ (fun _ => ?_)
    · intro y0 y1
      unfold laws_FnField.j3
      repeat' first
      | (with_reducible exact ih0 _ _ _)
      | (with_reducible exact ih1 _ _ _ _ _)
      | (with_reducible exact ih2 _ _)
      | (with_reducible exact ih3 _ _)
      | (with_reducible exact impl_Inv16.mono _ _)
      | (with_reducible exact impl_Inv8.mono _ _)
      | (with_reducible exact impl_Mul16.mono _ _ _)
      | (with_reducible exact impl_Mul8.mono _ _ _)
      | (with_reducible exact impl_Pow8.mono _ _ _)
      | (with_reducible exact spec_Mul16.mono _ _ _)
      | (with_reducible exact spec_Mul8.mono _ _ _)
      | (with_reducible exact LeO.refl _)
      | (with_reducible exact LeO.none _)
      | (with_reducible refine LeO.ite ?_ ?_)
      | (with_reducible refine LeO.bind ?_ (fun _ => ?_))
      | exact ih0 _ _ _
      | exact ih1 _ _ _ _ _
      | exact ih2 _ _
      | exact ih3 _ _
      | exact impl_Inv16.mono _ _
      | exact impl_Inv8.mono _ _
      | exact impl_Mul16.mono _ _ _
      | exact impl_Mul8.mono _ _ _
      | exact impl_Pow8.mono _ _ _
      | exact spec_Mul16.mono _ _ _
      | exact spec_Mul8.mono _ _ _
      | exact LeO.none _
      | refine LeO.ite ?_ ?_
      | refine LeO.bind ?_ (fun _ => ?_)
theorem laws_FnField.mono : ∀ a0 a1 k, LeO (laws_FnField.f k a0 a1) (laws_FnField.f (k + 1) a0 a1) := by
  intro a0 a1 k
  obtain ⟨ih0, ih1, ih2, ih3⟩ := laws_FnField.mono_l k
  unfold laws_FnField.f
  repeat' first
      | (with_reducible exact ih0 _ _ _)
      | (with_reducible exact ih1 _ _ _ _ _)
      | (with_reducible exact ih2 _ _)
      | (with_reducible exact ih3 _ _)
      | (with_reducible exact impl_Inv16.mono _ _)
      | (with_reducible exact impl_Inv8.mono _ _)
      | (with_reducible exact impl_Mul16.mono _ _ _)
      | (with_reducible exact impl_Mul8.mono _ _ _)
      | (with_reducible exact impl_Pow8.mono _ _ _)
      | (with_reducible exact spec_Mul16.mono _ _ _)
      | (with_reducible exact spec_Mul8.mono _ _ _)
      | (with_reducible exact LeO.refl _)
      | (with_reducible exact LeO.none _)
      | (with_reducible refine LeO.ite ?_ ?_)
      | (with_reducible refine LeO.bind ?_ (fun _ => ?_))
      | exact ih0 _ _ _
      | exact ih1 _ _ _ _ _
      | exact ih2 _ _
      | exact ih3 _ _
      | exact impl_Inv16.mono _ _
      | exact impl_Inv8.mono _ _
      | exact impl_Mul16.mono _ _ _
      | exact impl_Mul8.mono _ _ _
      | exact impl_Pow8.mono _ _ _
      | exact spec_Mul16.mono _ _ _
      | exact spec_Mul8.mono _ _ _
      | exact LeO.none _
      | refine LeO.ite ?_ ?_
      | refine LeO.bind ?_ (fun _ => ?_)
set_option maxHeartbeats 8000000 in
set_option maxRecDepth 100000 in
theorem laws_FnField.calls (k : Nat) (A0 : Option Addr) (c0 : Nat) (l0 : List Int) (A1 : Option Addr) (c1 : Nat) (l1 : List Int) (r : Bool) (w : World) (hr0 : Kd.C (Kd.int .u8) w A0 l0.length l0) (hc0 : l0.length ≤ c0) (hr1 : Kd.C (Kd.int .u8) w A1 l1.length l1) (hc1 : l1.length ≤ c1) (h : laws_FnField.f k l0 l1 = some r) :
    Calls Try.prog 4 #[.slice A0 l0.length c0, .slice A1 l1.length c1] w fun e w' => e = .returned (.bool r) ∧ Below w.heap.size w w' := by
  have HR0 := Aside0.mk hr0
  have HC0 := Aside0.mk hc0
  clear hr0 hc0
  have HR1 := Aside0.mk hr1
  have HC1 := Aside0.mk hc1
  clear hr1 hc1
  have HB := Aside0.mk (Below.refl w.heap.size w)
  have H : (if (l0.length : Int) > 1048576 then (laws_FnField.j0 k l0 l1 true) else (laws_FnField.j0 k l0 l1 (decide ((l1.length : Int) > 1048576)))) = some r := h
  clear h
  have HC3 := Aside0.mk H
  clear H
  go_enter Try.func4, Try.ntmps4
  go_upto_region 1 with (fail)
  go_cut [18] (fun v18 wc => ∃ (kq : Nat) (x18_2 : Bool), v18 = .bool x18_2 ∧ Aside0 (laws_FnField.j0 kq l0 l1 x18_2 = some r) ∧ Aside0 (kq ≤ k) ∧ Aside0 (Below w.heap.size w wc))
  case first =>
    have H := HC3.out
    clear HC3
    by_cases c4 : (l0.length : Int) > 1048576
    · rw [if_pos c4] at H
      have c4b0 : decide (1048576 < (l0.length : Int)) = true := decide_eq_true c4
      have c4b1 : decide (1048576 < l0.length) = true := decide_eq_true (by omega)
      clear c4
      (first | rw [c4b0] | (simp only [i64_w, i32_w]; rw [c4b0]) | skip)
      have H' := Aside0.mk H
      clear H
      go_wp2
      go_meet
      case rel => exact ⟨_, (true), (by first | rfl | (simp; done) | (simp [*]; done)), H', ⟨by first | omega | exact Nat.le_refl _⟩, ⟨by repeat (first | (with_reducible first | exact HB.out | apply below_alloc | apply pw_below_drewN | apply below_drew1) | exact HB.out)⟩⟩
    · rw [if_neg c4] at H
      have c4b0 : decide (1048576 < (l0.length : Int)) = false := decide_eq_false c4
      have c4b1 : decide (1048576 < l0.length) = false := decide_eq_false (by omega)
      clear c4
      (first | rw [c4b0] | (simp only [i64_w, i32_w]; rw [c4b0]) | skip)
      have H' := Aside0.mk H
      clear H
      go_wp2
      go_meet
      case rel => exact ⟨_, (decide ((l1.length : Int) > 1048576)), (by first | rfl | (simp; done) | (simp [*]; done)), H', ⟨by first | omega | exact Nat.le_refl _⟩, ⟨by repeat (first | (with_reducible first | exact HB.out | apply below_alloc | apply pw_below_drewN | apply below_drew1) | exact HB.out)⟩⟩
  case rest =>
    clear HC3
    try clear c1
    try clear p2
    try clear c4
    try clear c4b0
    try clear c4b1
    obtain ⟨kq, x18_2, rfl, HA, HJ2, HB⟩ := hcut
    cases kq with
    | zero => exact absurd HA.out (by simp [laws_FnField.j0])
    | succ kj2 =>
      have H := HA.out
      clear HA
      simp only [laws_FnField.j0] at H
      by_cases c5 : x18_2 = true
      · subst c5
        have H1 : (some true) = some r := by rw [if_pos rfl] at H; exact H
        clear H
        have H := H1
        clear H1
        obtain rfl := Option.some.inj H
        go_wp2
        go_ret
        exact ⟨by first | rfl | (simp [errW_none, errW_some] <;> rfl) | (simp [*, errW_none, errW_some] <;> rfl), by repeat (first | (with_reducible first | exact HB.out | apply below_alloc | apply pw_below_drewN | apply below_drew1) | exact HB.out)⟩
      · replace c5 := Bool.eq_false_iff.mpr c5
        subst c5
        have H1 : ((laws_lwAt.f l0 0).bind fun t151 => ((laws_lwAt.f l0 1).bind fun t152 => ((laws_lwAt.f l0 2).bind fun t153 => ((impl_Mul8.f kj2 t151 t152).bind fun t154 => ((spec_Mul8.f kj2 t151 t152).bind fun t155 => (if t154 = t155 then ((impl_Mul8.f kj2 t151 t152).bind fun t156 => ((impl_Mul8.f kj2 t152 t151).bind fun t157 => (if t156 = t157 then ((impl_Mul8.f kj2 t151 t152).bind fun t158 => ((impl_Mul8.f kj2 t158 t153).bind fun t159 => ((impl_Mul8.f kj2 t152 t153).bind fun t160 => ((impl_Mul8.f kj2 t151 t160).bind fun t161 => (if t159 = t161 then ((impl_Mul8.f kj2 t151 (Go.bits .xor .i64 t152 t153)).bind fun t162 => ((impl_Mul8.f kj2 t151 t152).bind fun t163 => ((impl_Mul8.f kj2 t151 t153).bind fun t164 => (laws_FnField.j1 kj2 l1 t151 t152 t153 (t162 != (Go.bits .xor .i64 t163 t164)))))) else (laws_FnField.j1 kj2 l1 t151 t152 t153 true)))))) else (laws_FnField.j1 kj2 l1 t151 t152 t153 true)))) else (laws_FnField.j1 kj2 l1 t151 t152 t153 true))))))) = some r := by rw [if_neg (show ¬ (false = true) by decide)] at H; exact H
        clear H
        have H := H1
        clear H1
        replace H := Option.bind_eq_some_iff.mp H
        obtain ⟨t151, A60, H⟩ := H
        replace H : ((laws_lwAt.f l0 1).bind fun t152 => ((laws_lwAt.f l0 2).bind fun t153 => ((impl_Mul8.f kj2 t151 t152).bind fun t154 => ((spec_Mul8.f kj2 t151 t152).bind fun t155 => (if t154 = t155 then ((impl_Mul8.f kj2 t151 t152).bind fun t156 => ((impl_Mul8.f kj2 t152 t151).bind fun t157 => (if t156 = t157 then ((impl_Mul8.f kj2 t151 t152).bind fun t158 => ((impl_Mul8.f kj2 t158 t153).bind fun t159 => ((impl_Mul8.f kj2 t152 t153).bind fun t160 => ((impl_Mul8.f kj2 t151 t160).bind fun t161 => (if t159 = t161 then ((impl_Mul8.f kj2 t151 (Go.bits .xor .i64 t152 t153)).bind fun t162 => ((impl_Mul8.f kj2 t151 t152).bind fun t163 => ((impl_Mul8.f kj2 t151 t153).bind fun t164 => (laws_FnField.j1 kj2 l1 t151 t152 t153 (t162 != (Go.bits .xor .i64 t163 t164)))))) else (laws_FnField.j1 kj2 l1 t151 t152 t153 true)))))) else (laws_FnField.j1 kj2 l1 t151 t152 t153 true)))) else (laws_FnField.j1 kj2 l1 t151 t152 t153 true)))))) = some r := H
        have A6 := Aside0.mk A60
        clear A60
        replace H := Option.bind_eq_some_iff.mp H
        obtain ⟨t152, A70, H⟩ := H
        replace H : ((laws_lwAt.f l0 2).bind fun t153 => ((impl_Mul8.f kj2 t151 t152).bind fun t154 => ((spec_Mul8.f kj2 t151 t152).bind fun t155 => (if t154 = t155 then ((impl_Mul8.f kj2 t151 t152).bind fun t156 => ((impl_Mul8.f kj2 t152 t151).bind fun t157 => (if t156 = t157 then ((impl_Mul8.f kj2 t151 t152).bind fun t158 => ((impl_Mul8.f kj2 t158 t153).bind fun t159 => ((impl_Mul8.f kj2 t152 t153).bind fun t160 => ((impl_Mul8.f kj2 t151 t160).bind fun t161 => (if t159 = t161 then ((impl_Mul8.f kj2 t151 (Go.bits .xor .i64 t152 t153)).bind fun t162 => ((impl_Mul8.f kj2 t151 t152).bind fun t163 => ((impl_Mul8.f kj2 t151 t153).bind fun t164 => (laws_FnField.j1 kj2 l1 t151 t152 t153 (t162 != (Go.bits .xor .i64 t163 t164)))))) else (laws_FnField.j1 kj2 l1 t151 t152 t153 true)))))) else (laws_FnField.j1 kj2 l1 t151 t152 t153 true)))) else (laws_FnField.j1 kj2 l1 t151 t152 t153 true))))) = some r := H
        have A7 := Aside0.mk A70
        clear A70
        replace H := Option.bind_eq_some_iff.mp H
        obtain ⟨t153, A80, H⟩ := H
        replace H : ((impl_Mul8.f kj2 t151 t152).bind fun t154 => ((spec_Mul8.f kj2 t151 t152).bind fun t155 => (if t154 = t155 then ((impl_Mul8.f kj2 t151 t152).bind fun t156 => ((impl_Mul8.f kj2 t152 t151).bind fun t157 => (if t156 = t157 then ((impl_Mul8.f kj2 t151 t152).bind fun t158 => ((impl_Mul8.f kj2 t158 t153).bind fun t159 => ((impl_Mul8.f kj2 t152 t153).bind fun t160 => ((impl_Mul8.f kj2 t151 t160).bind fun t161 => (if t159 = t161 then ((impl_Mul8.f kj2 t151 (Go.bits .xor .i64 t152 t153)).bind fun t162 => ((impl_Mul8.f kj2 t151 t152).bind fun t163 => ((impl_Mul8.f kj2 t151 t153).bind fun t164 => (laws_FnField.j1 kj2 l1 t151 t152 t153 (t162 != (Go.bits .xor .i64 t163 t164)))))) else (laws_FnField.j1 kj2 l1 t151 t152 t153 true)))))) else (laws_FnField.j1 kj2 l1 t151 t152 t153 true)))) else (laws_FnField.j1 kj2 l1 t151 t152 t153 true)))) = some r := H
        have A8 := Aside0.mk A80
        clear A80
        have HC9 := Aside0.mk H
        clear H
        go_upto_region 6 with (first | ((with_reducible refine gate_callee (f := 19) rfl ?_); refine goesL_ (some 20) rfl rfl Try.func19 (by kernel_rfl) rfl #[.slice A0 l0.length c0, .int .i64 0] rfl (by (try simp only [List.map_toArray, List.map_cons, List.map_nil]); first | done | rfl | (simp only [List.length_drop, List.length_take]; rfl)) ?_; (with_reducible refine (laws_lwAt.calls _ _ l0 0 t151 _ ?side1 ?side2 A6.out).mono ?_); (case side1 => repeat (first | exact (Kd.C_below HR0.out HB.out) | (with_reducible refine Kd.C_alloc ?_ _) | (with_reducible refine Kd.C_drewN ?_ _) | (with_reducible refine Kd.C_drew ?_))); (case side2 => exact HC0.out); rintro e w' ⟨rfl, ⟨nd, rfl⟩⟩; refine ⟨_, rfl, ?_⟩) | ((with_reducible refine gate_callee (f := 19) rfl ?_); refine goesL_ (some 22) rfl rfl Try.func19 (by kernel_rfl) rfl #[.slice A0 l0.length c0, .int .i64 1] rfl (by (try simp only [List.map_toArray, List.map_cons, List.map_nil]); first | done | rfl | (simp only [List.length_drop, List.length_take]; rfl)) ?_; (with_reducible refine (laws_lwAt.calls _ _ l0 1 t152 _ ?side1 ?side2 A7.out).mono ?_); (case side1 => repeat (first | exact (Kd.C_below HR0.out (by repeat (first | (with_reducible first | exact HB.out | apply below_alloc | apply pw_below_drewN | apply below_drew1) | exact HB.out))) | (with_reducible refine Kd.C_alloc ?_ _) | (with_reducible refine Kd.C_drewN ?_ _) | (with_reducible refine Kd.C_drew ?_))); (case side2 => exact HC0.out); rintro e w' ⟨rfl, ⟨nd, rfl⟩⟩; refine ⟨_, rfl, ?_⟩) | ((with_reducible refine gate_callee (f := 19) rfl ?_); refine goesL_ (some 24) rfl rfl Try.func19 (by kernel_rfl) rfl #[.slice A0 l0.length c0, .int .i64 2] rfl (by (try simp only [List.map_toArray, List.map_cons, List.map_nil]); first | done | rfl | (simp only [List.length_drop, List.length_take]; rfl)) ?_; (with_reducible refine (laws_lwAt.calls _ _ l0 2 t153 _ ?side1 ?side2 A8.out).mono ?_); (case side1 => repeat (first | exact (Kd.C_below HR0.out (by repeat (first | (with_reducible first | exact HB.out | apply below_alloc | apply pw_below_drewN | apply below_drew1) | exact HB.out))) | (with_reducible refine Kd.C_alloc ?_ _) | (with_reducible refine Kd.C_drewN ?_ _) | (with_reducible refine Kd.C_drew ?_))); (case side2 => exact HC0.out); rintro e w' ⟨rfl, ⟨nd, rfl⟩⟩; refine ⟨_, rfl, ?_⟩))
        (try simp only [Act.put, List.setIfInBounds_toArray, List.set_cons_zero, List.set_cons_succ])
        go_cut [68] (fun v68 wc => ∃ (kq : Nat) (x68_8 : Bool), v68 = .bool x68_8 ∧ Aside0 (laws_FnField.j1 kq l1 t151 t152 t153 x68_8 = some r) ∧ Aside0 (kq ≤ kj2) ∧ Aside0 (Below w.heap.size w wc))
        case first =>
          have H := HC9.out
          clear HC9
          replace H := Option.bind_eq_some_iff.mp H
          obtain ⟨t154, A100, H⟩ := H
          replace H : ((spec_Mul8.f kj2 t151 t152).bind fun t155 => (if t154 = t155 then ((impl_Mul8.f kj2 t151 t152).bind fun t156 => ((impl_Mul8.f kj2 t152 t151).bind fun t157 => (if t156 = t157 then ((impl_Mul8.f kj2 t151 t152).bind fun t158 => ((impl_Mul8.f kj2 t158 t153).bind fun t159 => ((impl_Mul8.f kj2 t152 t153).bind fun t160 => ((impl_Mul8.f kj2 t151 t160).bind fun t161 => (if t159 = t161 then ((impl_Mul8.f kj2 t151 (Go.bits .xor .i64 t152 t153)).bind fun t162 => ((impl_Mul8.f kj2 t151 t152).bind fun t163 => ((impl_Mul8.f kj2 t151 t153).bind fun t164 => (laws_FnField.j1 kj2 l1 t151 t152 t153 (t162 != (Go.bits .xor .i64 t163 t164)))))) else (laws_FnField.j1 kj2 l1 t151 t152 t153 true)))))) else (laws_FnField.j1 kj2 l1 t151 t152 t153 true)))) else (laws_FnField.j1 kj2 l1 t151 t152 t153 true))) = some r := H
          have A10 := Aside0.mk A100
          clear A100
          replace H := Option.bind_eq_some_iff.mp H
          obtain ⟨t155, A110, H⟩ := H
          replace H : (if t154 = t155 then ((impl_Mul8.f kj2 t151 t152).bind fun t156 => ((impl_Mul8.f kj2 t152 t151).bind fun t157 => (if t156 = t157 then ((impl_Mul8.f kj2 t151 t152).bind fun t158 => ((impl_Mul8.f kj2 t158 t153).bind fun t159 => ((impl_Mul8.f kj2 t152 t153).bind fun t160 => ((impl_Mul8.f kj2 t151 t160).bind fun t161 => (if t159 = t161 then ((impl_Mul8.f kj2 t151 (Go.bits .xor .i64 t152 t153)).bind fun t162 => ((impl_Mul8.f kj2 t151 t152).bind fun t163 => ((impl_Mul8.f kj2 t151 t153).bind fun t164 => (laws_FnField.j1 kj2 l1 t151 t152 t153 (t162 != (Go.bits .xor .i64 t163 t164)))))) else (laws_FnField.j1 kj2 l1 t151 t152 t153 true)))))) else (laws_FnField.j1 kj2 l1 t151 t152 t153 true)))) else (laws_FnField.j1 kj2 l1 t151 t152 t153 true)) = some r := H
          have A11 := Aside0.mk A110
          clear A110
          by_cases c12 : t154 = t155
          · rw [if_pos c12] at H
            have c12b0 : (t154 == t155) = true := beq_iff_eq.mpr c12
            have c12b1 : (t154 != t155) = false := bne_eq_false_iff_eq.mpr c12
            clear c12
            (first | rw [c12b0] | (simp only [i64_w, i32_w]; rw [c12b0]) | skip)
            replace H := Option.bind_eq_some_iff.mp H
            obtain ⟨t156, A130, H⟩ := H
            obtain rfl : t154 = t156 := Option.some.inj (A10.out.symm.trans A130)
            replace H : ((impl_Mul8.f kj2 t152 t151).bind fun t157 => (if t154 = t157 then ((impl_Mul8.f kj2 t151 t152).bind fun t158 => ((impl_Mul8.f kj2 t158 t153).bind fun t159 => ((impl_Mul8.f kj2 t152 t153).bind fun t160 => ((impl_Mul8.f kj2 t151 t160).bind fun t161 => (if t159 = t161 then ((impl_Mul8.f kj2 t151 (Go.bits .xor .i64 t152 t153)).bind fun t162 => ((impl_Mul8.f kj2 t151 t152).bind fun t163 => ((impl_Mul8.f kj2 t151 t153).bind fun t164 => (laws_FnField.j1 kj2 l1 t151 t152 t153 (t162 != (Go.bits .xor .i64 t163 t164)))))) else (laws_FnField.j1 kj2 l1 t151 t152 t153 true)))))) else (laws_FnField.j1 kj2 l1 t151 t152 t153 true))) = some r := H
            have A13 := Aside0.mk A130
            clear A130
            replace H := Option.bind_eq_some_iff.mp H
            obtain ⟨t157, A140, H⟩ := H
            replace H : (if t154 = t157 then ((impl_Mul8.f kj2 t151 t152).bind fun t158 => ((impl_Mul8.f kj2 t158 t153).bind fun t159 => ((impl_Mul8.f kj2 t152 t153).bind fun t160 => ((impl_Mul8.f kj2 t151 t160).bind fun t161 => (if t159 = t161 then ((impl_Mul8.f kj2 t151 (Go.bits .xor .i64 t152 t153)).bind fun t162 => ((impl_Mul8.f kj2 t151 t152).bind fun t163 => ((impl_Mul8.f kj2 t151 t153).bind fun t164 => (laws_FnField.j1 kj2 l1 t151 t152 t153 (t162 != (Go.bits .xor .i64 t163 t164)))))) else (laws_FnField.j1 kj2 l1 t151 t152 t153 true)))))) else (laws_FnField.j1 kj2 l1 t151 t152 t153 true)) = some r := H
            have A14 := Aside0.mk A140
            clear A140
            by_cases c15 : t154 = t157
            · rw [if_pos c15] at H
              have c15b0 : (t154 == t157) = true := beq_iff_eq.mpr c15
              have c15b1 : (t154 != t157) = false := bne_eq_false_iff_eq.mpr c15
              clear c15
              replace H := Option.bind_eq_some_iff.mp H
              obtain ⟨t158, A160, H⟩ := H
              obtain rfl : t154 = t158 := Option.some.inj (A10.out.symm.trans A160)
              replace H : ((impl_Mul8.f kj2 t154 t153).bind fun t159 => ((impl_Mul8.f kj2 t152 t153).bind fun t160 => ((impl_Mul8.f kj2 t151 t160).bind fun t161 => (if t159 = t161 then ((impl_Mul8.f kj2 t151 (Go.bits .xor .i64 t152 t153)).bind fun t162 => ((impl_Mul8.f kj2 t151 t152).bind fun t163 => ((impl_Mul8.f kj2 t151 t153).bind fun t164 => (laws_FnField.j1 kj2 l1 t151 t152 t153 (t162 != (Go.bits .xor .i64 t163 t164)))))) else (laws_FnField.j1 kj2 l1 t151 t152 t153 true))))) = some r := H
              have A16 := Aside0.mk A160
              clear A160
              replace H := Option.bind_eq_some_iff.mp H
              obtain ⟨t159, A170, H⟩ := H
              replace H : ((impl_Mul8.f kj2 t152 t153).bind fun t160 => ((impl_Mul8.f kj2 t151 t160).bind fun t161 => (if t159 = t161 then ((impl_Mul8.f kj2 t151 (Go.bits .xor .i64 t152 t153)).bind fun t162 => ((impl_Mul8.f kj2 t151 t152).bind fun t163 => ((impl_Mul8.f kj2 t151 t153).bind fun t164 => (laws_FnField.j1 kj2 l1 t151 t152 t153 (t162 != (Go.bits .xor .i64 t163 t164)))))) else (laws_FnField.j1 kj2 l1 t151 t152 t153 true)))) = some r := H
              have A17 := Aside0.mk A170
              clear A170
              replace H := Option.bind_eq_some_iff.mp H
              obtain ⟨t160, A180, H⟩ := H
              replace H : ((impl_Mul8.f kj2 t151 t160).bind fun t161 => (if t159 = t161 then ((impl_Mul8.f kj2 t151 (Go.bits .xor .i64 t152 t153)).bind fun t162 => ((impl_Mul8.f kj2 t151 t152).bind fun t163 => ((impl_Mul8.f kj2 t151 t153).bind fun t164 => (laws_FnField.j1 kj2 l1 t151 t152 t153 (t162 != (Go.bits .xor .i64 t163 t164)))))) else (laws_FnField.j1 kj2 l1 t151 t152 t153 true))) = some r := H
              have A18 := Aside0.mk A180
              clear A180
              replace H := Option.bind_eq_some_iff.mp H
              obtain ⟨t161, A190, H⟩ := H
              replace H : (if t159 = t161 then ((impl_Mul8.f kj2 t151 (Go.bits .xor .i64 t152 t153)).bind fun t162 => ((impl_Mul8.f kj2 t151 t152).bind fun t163 => ((impl_Mul8.f kj2 t151 t153).bind fun t164 => (laws_FnField.j1 kj2 l1 t151 t152 t153 (t162 != (Go.bits .xor .i64 t163 t164)))))) else (laws_FnField.j1 kj2 l1 t151 t152 t153 true)) = some r := H
              have A19 := Aside0.mk A190
              clear A190
              by_cases c20 : t159 = t161
              · rw [if_pos c20] at H
                have c20b0 : (t159 == t161) = true := beq_iff_eq.mpr c20
                have c20b1 : (t159 != t161) = false := bne_eq_false_iff_eq.mpr c20
                clear c20
                replace H := Option.bind_eq_some_iff.mp H
                obtain ⟨t162, A210, H⟩ := H
                replace H : ((impl_Mul8.f kj2 t151 t152).bind fun t163 => ((impl_Mul8.f kj2 t151 t153).bind fun t164 => (laws_FnField.j1 kj2 l1 t151 t152 t153 (t162 != (Go.bits .xor .i64 t163 t164))))) = some r := H
                have A21 := Aside0.mk A210
                clear A210
                replace H := Option.bind_eq_some_iff.mp H
                obtain ⟨t163, A220, H⟩ := H
                obtain rfl : t154 = t163 := Option.some.inj (A10.out.symm.trans A220)
                replace H : ((impl_Mul8.f kj2 t151 t153).bind fun t164 => (laws_FnField.j1 kj2 l1 t151 t152 t153 (t162 != (Go.bits .xor .i64 t154 t164)))) = some r := H
                have A22 := Aside0.mk A220
                clear A220
                replace H := Option.bind_eq_some_iff.mp H
                obtain ⟨t164, A230, H⟩ := H
                replace H : (laws_FnField.j1 kj2 l1 t151 t152 t153 (t162 != (Go.bits .xor .i64 t154 t164))) = some r := H
                have A23 := Aside0.mk A230
                clear A230
                have H' := Aside0.mk H
                clear H
                go_wp2_with (first | ((with_reducible refine gate_callee (f := 20) rfl ?_); refine goesL_ (some 27) rfl rfl Try.func20 (by kernel_rfl) rfl #[.int .i64 t151, .int .i64 t152] rfl (by (try simp only [List.map_toArray, List.map_cons, List.map_nil]); first | done | rfl | (simp only [List.length_drop, List.length_take]; rfl)) ?_; (with_reducible refine (impl_Mul8.calls kj2 t151 t152 t154 _ A10.out).mono ?_); rintro e w24 ⟨rfl, hb⟩; refine ⟨_, rfl, ?_⟩; have n0_ := Aside0.mk (below_step (by repeat (first | (with_reducible first | exact HB.out | apply below_alloc | apply pw_below_drewN | apply below_drew1) | exact HB.out)) hb); clear HB; have HB := n0_; clear n0_; (try clear hb); (try clear hb2); (try clear hk); (try clear hi)) | ((with_reducible refine gate_callee (f := 21) rfl ?_); refine goesL_ (some 30) rfl rfl Try.func21 (by kernel_rfl) rfl #[.int .i64 t151, .int .i64 t152] rfl (by (try simp only [List.map_toArray, List.map_cons, List.map_nil]); first | done | rfl | (simp only [List.length_drop, List.length_take]; rfl)) ?_; (with_reducible refine (spec_Mul8.calls kj2 t151 t152 t155 _ A11.out).mono ?_); rintro e w' ⟨rfl, ⟨nd, rfl⟩⟩; refine ⟨_, rfl, ?_⟩) | (go_at_call 20; (with_reducible refine (impl_Mul8.calls kj2 t151 t152 t154 _ A13.out).mono ?_); rintro e w25 ⟨rfl, hb⟩; have n0_ := Aside0.mk (below_step (by repeat (first | (with_reducible first | exact HB.out | apply below_alloc | apply pw_below_drewN | apply below_drew1) | exact HB.out)) hb); clear HB; have HB := n0_; clear n0_; (try clear hb); (try clear hb2); (try clear hk); (try clear hi)) | (go_at_call 20; (with_reducible refine (impl_Mul8.calls kj2 t152 t151 t157 _ A14.out).mono ?_); rintro e w26 ⟨rfl, hb⟩; have n0_ := Aside0.mk (below_step (by repeat (first | (with_reducible first | exact HB.out | apply below_alloc | apply pw_below_drewN | apply below_drew1) | exact HB.out)) hb); clear HB; have HB := n0_; clear n0_; (try clear hb); (try clear hb2); (try clear hk); (try clear hi)) | (go_at_call 20; (with_reducible refine (impl_Mul8.calls kj2 t151 t152 t154 _ A16.out).mono ?_); rintro e w27 ⟨rfl, hb⟩; have n0_ := Aside0.mk (below_step (by repeat (first | (with_reducible first | exact HB.out | apply below_alloc | apply pw_below_drewN | apply below_drew1) | exact HB.out)) hb); clear HB; have HB := n0_; clear n0_; (try clear hb); (try clear hb2); (try clear hk); (try clear hi)) | (go_at_call 20; (with_reducible refine (impl_Mul8.calls kj2 t154 t153 t159 _ A17.out).mono ?_); rintro e w28 ⟨rfl, hb⟩; have n0_ := Aside0.mk (below_step (by repeat (first | (with_reducible first | exact HB.out | apply below_alloc | apply pw_below_drewN | apply below_drew1) | exact HB.out)) hb); clear HB; have HB := n0_; clear n0_; (try clear hb); (try clear hb2); (try clear hk); (try clear hi)) | (go_at_call 20; (with_reducible refine (impl_Mul8.calls kj2 t152 t153 t160 _ A18.out).mono ?_); rintro e w29 ⟨rfl, hb⟩; have n0_ := Aside0.mk (below_step (by repeat (first | (with_reducible first | exact HB.out | apply below_alloc | apply pw_below_drewN | apply below_drew1) | exact HB.out)) hb); clear HB; have HB := n0_; clear n0_; (try clear hb); (try clear hb2); (try clear hk); (try clear hi)) | (go_at_call 20; (with_reducible refine (impl_Mul8.calls kj2 t151 t160 t161 _ A19.out).mono ?_); rintro e w30 ⟨rfl, hb⟩; have n0_ := Aside0.mk (below_step (by repeat (first | (with_reducible first | exact HB.out | apply below_alloc | apply pw_below_drewN | apply below_drew1) | exact HB.out)) hb); clear HB; have HB := n0_; clear n0_; (try clear hb); (try clear hb2); (try clear hk); (try clear hi)) | (go_at_call 20; (with_reducible refine (impl_Mul8.calls kj2 t151 (Go.bits .xor .i64 t152 t153) t162 _ A21.out).mono ?_); rintro e w31 ⟨rfl, hb⟩; have n0_ := Aside0.mk (below_step (by repeat (first | (with_reducible first | exact HB.out | apply below_alloc | apply pw_below_drewN | apply below_drew1) | exact HB.out)) hb); clear HB; have HB := n0_; clear n0_; (try clear hb); (try clear hb2); (try clear hk); (try clear hi)) | (go_at_call 20; (with_reducible refine (impl_Mul8.calls kj2 t151 t152 t154 _ A22.out).mono ?_); rintro e w32 ⟨rfl, hb⟩; have n0_ := Aside0.mk (below_step (by repeat (first | (with_reducible first | exact HB.out | apply below_alloc | apply pw_below_drewN | apply below_drew1) | exact HB.out)) hb); clear HB; have HB := n0_; clear n0_; (try clear hb); (try clear hb2); (try clear hk); (try clear hi)) | (go_at_call 20; (with_reducible refine (impl_Mul8.calls kj2 t151 t153 t164 _ A23.out).mono ?_); rintro e w33 ⟨rfl, hb⟩; have n0_ := Aside0.mk (below_step (by repeat (first | (with_reducible first | exact HB.out | apply below_alloc | apply pw_below_drewN | apply below_drew1) | exact HB.out)) hb); clear HB; have HB := n0_; clear n0_; (try clear hb); (try clear hb2); (try clear hk); (try clear hi)))
                go_meet
                case rel => exact ⟨_, ((t162 != (Go.bits .xor .i64 t154 t164))), (by first | rfl | (simp; done) | (simp [*]; done)), H', ⟨by have := HJ2.out; first | omega | exact Nat.le_refl _⟩, ⟨by repeat (first | (with_reducible first | exact HB.out | apply below_alloc | apply pw_below_drewN | apply below_drew1) | exact HB.out)⟩⟩
              · rw [if_neg c20] at H
                have c20b0 : (t159 == t161) = false := beq_eq_false_iff_ne.mpr c20
                have c20b1 : (t159 != t161) = true := bne_iff_ne.mpr c20
                have H' := Aside0.mk H
                clear H
                go_wp2_with (first | ((with_reducible refine gate_callee (f := 20) rfl ?_); refine goesL_ (some 27) rfl rfl Try.func20 (by kernel_rfl) rfl #[.int .i64 t151, .int .i64 t152] rfl (by (try simp only [List.map_toArray, List.map_cons, List.map_nil]); first | done | rfl | (simp only [List.length_drop, List.length_take]; rfl)) ?_; (with_reducible refine (impl_Mul8.calls kj2 t151 t152 t154 _ A10.out).mono ?_); rintro e w34 ⟨rfl, hb⟩; refine ⟨_, rfl, ?_⟩; have n0_ := Aside0.mk (below_step (by repeat (first | (with_reducible first | exact HB.out | apply below_alloc | apply pw_below_drewN | apply below_drew1) | exact HB.out)) hb); clear HB; have HB := n0_; clear n0_; (try clear hb); (try clear hb2); (try clear hk); (try clear hi)) | ((with_reducible refine gate_callee (f := 21) rfl ?_); refine goesL_ (some 30) rfl rfl Try.func21 (by kernel_rfl) rfl #[.int .i64 t151, .int .i64 t152] rfl (by (try simp only [List.map_toArray, List.map_cons, List.map_nil]); first | done | rfl | (simp only [List.length_drop, List.length_take]; rfl)) ?_; (with_reducible refine (spec_Mul8.calls kj2 t151 t152 t155 _ A11.out).mono ?_); rintro e w' ⟨rfl, ⟨nd, rfl⟩⟩; refine ⟨_, rfl, ?_⟩) | (go_at_call 20; (with_reducible refine (impl_Mul8.calls kj2 t151 t152 t154 _ A13.out).mono ?_); rintro e w35 ⟨rfl, hb⟩; have n0_ := Aside0.mk (below_step (by repeat (first | (with_reducible first | exact HB.out | apply below_alloc | apply pw_below_drewN | apply below_drew1) | exact HB.out)) hb); clear HB; have HB := n0_; clear n0_; (try clear hb); (try clear hb2); (try clear hk); (try clear hi)) | (go_at_call 20; (with_reducible refine (impl_Mul8.calls kj2 t152 t151 t157 _ A14.out).mono ?_); rintro e w36 ⟨rfl, hb⟩; have n0_ := Aside0.mk (below_step (by repeat (first | (with_reducible first | exact HB.out | apply below_alloc | apply pw_below_drewN | apply below_drew1) | exact HB.out)) hb); clear HB; have HB := n0_; clear n0_; (try clear hb); (try clear hb2); (try clear hk); (try clear hi)) | (go_at_call 20; (with_reducible refine (impl_Mul8.calls kj2 t151 t152 t154 _ A16.out).mono ?_); rintro e w37 ⟨rfl, hb⟩; have n0_ := Aside0.mk (below_step (by repeat (first | (with_reducible first | exact HB.out | apply below_alloc | apply pw_below_drewN | apply below_drew1) | exact HB.out)) hb); clear HB; have HB := n0_; clear n0_; (try clear hb); (try clear hb2); (try clear hk); (try clear hi)) | (go_at_call 20; (with_reducible refine (impl_Mul8.calls kj2 t154 t153 t159 _ A17.out).mono ?_); rintro e w38 ⟨rfl, hb⟩; have n0_ := Aside0.mk (below_step (by repeat (first | (with_reducible first | exact HB.out | apply below_alloc | apply pw_below_drewN | apply below_drew1) | exact HB.out)) hb); clear HB; have HB := n0_; clear n0_; (try clear hb); (try clear hb2); (try clear hk); (try clear hi)) | (go_at_call 20; (with_reducible refine (impl_Mul8.calls kj2 t152 t153 t160 _ A18.out).mono ?_); rintro e w39 ⟨rfl, hb⟩; have n0_ := Aside0.mk (below_step (by repeat (first | (with_reducible first | exact HB.out | apply below_alloc | apply pw_below_drewN | apply below_drew1) | exact HB.out)) hb); clear HB; have HB := n0_; clear n0_; (try clear hb); (try clear hb2); (try clear hk); (try clear hi)) | (go_at_call 20; (with_reducible refine (impl_Mul8.calls kj2 t151 t160 t161 _ A19.out).mono ?_); rintro e w40 ⟨rfl, hb⟩; have n0_ := Aside0.mk (below_step (by repeat (first | (with_reducible first | exact HB.out | apply below_alloc | apply pw_below_drewN | apply below_drew1) | exact HB.out)) hb); clear HB; have HB := n0_; clear n0_; (try clear hb); (try clear hb2); (try clear hk); (try clear hi)))
                go_meet
                case rel => exact ⟨_, (true), (by first | rfl | (simp; done) | (simp [*]; done)), H', ⟨by have := HJ2.out; first | omega | exact Nat.le_refl _⟩, ⟨by repeat (first | (with_reducible first | exact HB.out | apply below_alloc | apply pw_below_drewN | apply below_drew1) | exact HB.out)⟩⟩
            · rw [if_neg c15] at H
              have c15b0 : (t154 == t157) = false := beq_eq_false_iff_ne.mpr c15
              have c15b1 : (t154 != t157) = true := bne_iff_ne.mpr c15
              have H' := Aside0.mk H
              clear H
              go_wp2_with (first | ((with_reducible refine gate_callee (f := 20) rfl ?_); refine goesL_ (some 27) rfl rfl Try.func20 (by kernel_rfl) rfl #[.int .i64 t151, .int .i64 t152] rfl (by (try simp only [List.map_toArray, List.map_cons, List.map_nil]); first | done | rfl | (simp only [List.length_drop, List.length_take]; rfl)) ?_; (with_reducible refine (impl_Mul8.calls kj2 t151 t152 t154 _ A10.out).mono ?_); rintro e w41 ⟨rfl, hb⟩; refine ⟨_, rfl, ?_⟩; have n0_ := Aside0.mk (below_step (by repeat (first | (with_reducible first | exact HB.out | apply below_alloc | apply pw_below_drewN | apply below_drew1) | exact HB.out)) hb); clear HB; have HB := n0_; clear n0_; (try clear hb); (try clear hb2); (try clear hk); (try clear hi)) | ((with_reducible refine gate_callee (f := 21) rfl ?_); refine goesL_ (some 30) rfl rfl Try.func21 (by kernel_rfl) rfl #[.int .i64 t151, .int .i64 t152] rfl (by (try simp only [List.map_toArray, List.map_cons, List.map_nil]); first | done | rfl | (simp only [List.length_drop, List.length_take]; rfl)) ?_; (with_reducible refine (spec_Mul8.calls kj2 t151 t152 t155 _ A11.out).mono ?_); rintro e w' ⟨rfl, ⟨nd, rfl⟩⟩; refine ⟨_, rfl, ?_⟩) | (go_at_call 20; (with_reducible refine (impl_Mul8.calls kj2 t151 t152 t154 _ A13.out).mono ?_); rintro e w42 ⟨rfl, hb⟩; have n0_ := Aside0.mk (below_step (by repeat (first | (with_reducible first | exact HB.out | apply below_alloc | apply pw_below_drewN | apply below_drew1) | exact HB.out)) hb); clear HB; have HB := n0_; clear n0_; (try clear hb); (try clear hb2); (try clear hk); (try clear hi)) | (go_at_call 20; (with_reducible refine (impl_Mul8.calls kj2 t152 t151 t157 _ A14.out).mono ?_); rintro e w43 ⟨rfl, hb⟩; have n0_ := Aside0.mk (below_step (by repeat (first | (with_reducible first | exact HB.out | apply below_alloc | apply pw_below_drewN | apply below_drew1) | exact HB.out)) hb); clear HB; have HB := n0_; clear n0_; (try clear hb); (try clear hb2); (try clear hk); (try clear hi)))
              go_meet
              case rel => exact ⟨_, (true), (by first | rfl | (simp; done) | (simp [*]; done)), H', ⟨by have := HJ2.out; first | omega | exact Nat.le_refl _⟩, ⟨by repeat (first | (with_reducible first | exact HB.out | apply below_alloc | apply pw_below_drewN | apply below_drew1) | exact HB.out)⟩⟩
          · rw [if_neg c12] at H
            have c12b0 : (t154 == t155) = false := beq_eq_false_iff_ne.mpr c12
            have c12b1 : (t154 != t155) = true := bne_iff_ne.mpr c12
            (first | rw [c12b0] | (simp only [i64_w, i32_w]; rw [c12b0]) | skip)
            have H' := Aside0.mk H
            clear H
            go_wp2_with (first | ((with_reducible refine gate_callee (f := 20) rfl ?_); refine goesL_ (some 27) rfl rfl Try.func20 (by kernel_rfl) rfl #[.int .i64 t151, .int .i64 t152] rfl (by (try simp only [List.map_toArray, List.map_cons, List.map_nil]); first | done | rfl | (simp only [List.length_drop, List.length_take]; rfl)) ?_; (with_reducible refine (impl_Mul8.calls kj2 t151 t152 t154 _ A10.out).mono ?_); rintro e w44 ⟨rfl, hb⟩; refine ⟨_, rfl, ?_⟩; have n0_ := Aside0.mk (below_step (by repeat (first | (with_reducible first | exact HB.out | apply below_alloc | apply pw_below_drewN | apply below_drew1) | exact HB.out)) hb); clear HB; have HB := n0_; clear n0_; (try clear hb); (try clear hb2); (try clear hk); (try clear hi)) | ((with_reducible refine gate_callee (f := 21) rfl ?_); refine goesL_ (some 30) rfl rfl Try.func21 (by kernel_rfl) rfl #[.int .i64 t151, .int .i64 t152] rfl (by (try simp only [List.map_toArray, List.map_cons, List.map_nil]); first | done | rfl | (simp only [List.length_drop, List.length_take]; rfl)) ?_; (with_reducible refine (spec_Mul8.calls kj2 t151 t152 t155 _ A11.out).mono ?_); rintro e w' ⟨rfl, ⟨nd, rfl⟩⟩; refine ⟨_, rfl, ?_⟩))
            go_meet
            case rel => exact ⟨_, (true), (by first | rfl | (simp; done) | (simp [*]; done)), H', ⟨by have := HJ2.out; first | omega | exact Nat.le_refl _⟩, ⟨by repeat (first | (with_reducible first | exact HB.out | apply below_alloc | apply pw_below_drewN | apply below_drew1) | exact HB.out)⟩⟩
        case rest =>
          clear HC9
          try clear c1
          try clear c2
          try clear p2
          try clear c4
          try clear c4b0
          try clear c4b1
          try clear c5
          try clear c12
          try clear c12b0
          try clear c12b1
          try clear c15
          try clear c15b0
          try clear c15b1
          try clear c19
          try clear c20
          try clear c20b0
          try clear c20b1
          try clear c21
          try clear p2
          obtain ⟨kq, x68_8, rfl, HA, HJ8, HB⟩ := hcut
          cases kq with
          | zero => exact absurd HA.out (by simp [laws_FnField.j1])
          | succ kj8 =>
            have H := HA.out
            clear HA
            simp only [laws_FnField.j1] at H
            by_cases c45 : x68_8 = true
            · subst c45
              have H1 : (some false) = some r := by rw [if_pos rfl] at H; exact H
              clear H
              have H := H1
              clear H1
              obtain rfl := Option.some.inj H
              go_wp2
              go_ret
              exact ⟨by first | rfl | (simp [errW_none, errW_some] <;> rfl) | (simp [*, errW_none, errW_some] <;> rfl), by repeat (first | (with_reducible first | exact HB.out | apply below_alloc | apply pw_below_drewN | apply below_drew1) | exact HB.out)⟩
            · replace c45 := Bool.eq_false_iff.mpr c45
              subst c45
              have H1 : (if t151 > 0 then ((impl_Inv8.f kj8 t151).bind fun t165 => ((impl_Mul8.f kj8 t151 t165).bind fun t166 => (if t166 = 1 then ((impl_Pow8.f kj8 t151 t152).bind fun t167 => ((impl_Pow8.f kj8 t151 t153).bind fun t168 => ((impl_Mul8.f kj8 t167 t168).bind fun t169 => ((impl_Pow8.f kj8 t151 (wrap64 (t152 + t153))).bind fun t170 => (laws_FnField.j2 kj8 l1 (t169 != t170)))))) else (laws_FnField.j2 kj8 l1 true)))) else ((impl_Pow8.f kj8 t151 t152).bind fun t171 => ((impl_Pow8.f kj8 t151 t153).bind fun t172 => ((impl_Mul8.f kj8 t171 t172).bind fun t173 => ((impl_Pow8.f kj8 t151 (wrap64 (t152 + t153))).bind fun t174 => (laws_FnField.j2 kj8 l1 (t173 != t174))))))) = some r := by rw [if_neg (show ¬ (false = true) by decide)] at H; exact H
              clear H
              have H := H1
              clear H1
              have HC46 := Aside0.mk H
              clear H
              go_upto_region 8 with (fail)
              go_cut [92] (fun v92 wc => ∃ (kq : Nat) (x92_45 : Bool), v92 = .bool x92_45 ∧ Aside0 (laws_FnField.j2 kq l1 x92_45 = some r) ∧ Aside0 (kq ≤ kj8) ∧ Aside0 (Below w.heap.size w wc))
              case first =>
                have H := HC46.out
                clear HC46
                by_cases c47 : t151 > 0
                · rw [if_pos c47] at H
                  have c47b0 : decide (0 < t151) = true := decide_eq_true c47
                  clear c47
                  (first | rw [c47b0] | (simp only [i64_w, i32_w]; rw [c47b0]) | skip)
                  replace H := Option.bind_eq_some_iff.mp H
                  obtain ⟨t165, A480, H⟩ := H
                  replace H : ((impl_Mul8.f kj8 t151 t165).bind fun t166 => (if t166 = 1 then ((impl_Pow8.f kj8 t151 t152).bind fun t167 => ((impl_Pow8.f kj8 t151 t153).bind fun t168 => ((impl_Mul8.f kj8 t167 t168).bind fun t169 => ((impl_Pow8.f kj8 t151 (wrap64 (t152 + t153))).bind fun t170 => (laws_FnField.j2 kj8 l1 (t169 != t170)))))) else (laws_FnField.j2 kj8 l1 true))) = some r := H
                  have A48 := Aside0.mk A480
                  clear A480
                  replace H := Option.bind_eq_some_iff.mp H
                  obtain ⟨t166, A490, H⟩ := H
                  replace H : (if t166 = 1 then ((impl_Pow8.f kj8 t151 t152).bind fun t167 => ((impl_Pow8.f kj8 t151 t153).bind fun t168 => ((impl_Mul8.f kj8 t167 t168).bind fun t169 => ((impl_Pow8.f kj8 t151 (wrap64 (t152 + t153))).bind fun t170 => (laws_FnField.j2 kj8 l1 (t169 != t170)))))) else (laws_FnField.j2 kj8 l1 true)) = some r := H
                  have A49 := Aside0.mk A490
                  clear A490
                  by_cases c50 : t166 = 1
                  · rw [if_pos c50] at H
                    have c50b0 : (t166 == 1) = true := beq_iff_eq.mpr c50
                    have c50b1 : (t166 != 1) = false := bne_eq_false_iff_eq.mpr c50
                    clear c50
                    replace H := Option.bind_eq_some_iff.mp H
                    obtain ⟨t167, A510, H⟩ := H
                    replace H : ((impl_Pow8.f kj8 t151 t153).bind fun t168 => ((impl_Mul8.f kj8 t167 t168).bind fun t169 => ((impl_Pow8.f kj8 t151 (wrap64 (t152 + t153))).bind fun t170 => (laws_FnField.j2 kj8 l1 (t169 != t170))))) = some r := H
                    have A51 := Aside0.mk A510
                    clear A510
                    replace H := Option.bind_eq_some_iff.mp H
                    obtain ⟨t168, A520, H⟩ := H
                    replace H : ((impl_Mul8.f kj8 t167 t168).bind fun t169 => ((impl_Pow8.f kj8 t151 (wrap64 (t152 + t153))).bind fun t170 => (laws_FnField.j2 kj8 l1 (t169 != t170)))) = some r := H
                    have A52 := Aside0.mk A520
                    clear A520
                    replace H := Option.bind_eq_some_iff.mp H
                    obtain ⟨t169, A530, H⟩ := H
                    replace H : ((impl_Pow8.f kj8 t151 (wrap64 (t152 + t153))).bind fun t170 => (laws_FnField.j2 kj8 l1 (t169 != t170))) = some r := H
                    have A53 := Aside0.mk A530
                    clear A530
                    replace H := Option.bind_eq_some_iff.mp H
                    obtain ⟨t170, A540, H⟩ := H
                    replace H : (laws_FnField.j2 kj8 l1 (t169 != t170)) = some r := H
                    have A54 := Aside0.mk A540
                    clear A540
                    have H' := Aside0.mk H
                    clear H
                    go_wp2_with (first | (go_at_call 22; (with_reducible refine (impl_Inv8.calls kj8 t151 t165 _ A48.out).mono ?_); rintro e w55 ⟨rfl, hb⟩; have n0_ := Aside0.mk (below_step (by repeat (first | (with_reducible first | exact HB.out | apply below_alloc | apply pw_below_drewN | apply below_drew1) | exact HB.out)) hb); clear HB; have HB := n0_; clear n0_; (try clear hb); (try clear hb2); (try clear hk); (try clear hi)) | (go_at_call 20; (with_reducible refine (impl_Mul8.calls kj8 t151 t165 t166 _ A49.out).mono ?_); rintro e w56 ⟨rfl, hb⟩; have n0_ := Aside0.mk (below_step (by repeat (first | (with_reducible first | exact HB.out | apply below_alloc | apply pw_below_drewN | apply below_drew1) | exact HB.out)) hb); clear HB; have HB := n0_; clear n0_; (try clear hb); (try clear hb2); (try clear hk); (try clear hi)) | (go_at_call 23; (with_reducible refine (impl_Pow8.calls kj8 t151 t152 t167 _ A51.out).mono ?_); rintro e w57 ⟨rfl, hb⟩; have n0_ := Aside0.mk (below_step (by repeat (first | (with_reducible first | exact HB.out | apply below_alloc | apply pw_below_drewN | apply below_drew1) | exact HB.out)) hb); clear HB; have HB := n0_; clear n0_; (try clear hb); (try clear hb2); (try clear hk); (try clear hi)) | (go_at_call 23; (with_reducible refine (impl_Pow8.calls kj8 t151 t153 t168 _ A52.out).mono ?_); rintro e w58 ⟨rfl, hb⟩; have n0_ := Aside0.mk (below_step (by repeat (first | (with_reducible first | exact HB.out | apply below_alloc | apply pw_below_drewN | apply below_drew1) | exact HB.out)) hb); clear HB; have HB := n0_; clear n0_; (try clear hb); (try clear hb2); (try clear hk); (try clear hi)) | (go_at_call 20; (with_reducible refine (impl_Mul8.calls kj8 t167 t168 t169 _ A53.out).mono ?_); rintro e w59 ⟨rfl, hb⟩; have n0_ := Aside0.mk (below_step (by repeat (first | (with_reducible first | exact HB.out | apply below_alloc | apply pw_below_drewN | apply below_drew1) | exact HB.out)) hb); clear HB; have HB := n0_; clear n0_; (try clear hb); (try clear hb2); (try clear hk); (try clear hi)) | (go_at_call 23; (with_reducible refine (impl_Pow8.calls kj8 t151 (wrap64 (t152 + t153)) t170 _ A54.out).mono ?_); rintro e w60 ⟨rfl, hb⟩; have n0_ := Aside0.mk (below_step (by repeat (first | (with_reducible first | exact HB.out | apply below_alloc | apply pw_below_drewN | apply below_drew1) | exact HB.out)) hb); clear HB; have HB := n0_; clear n0_; (try clear hb); (try clear hb2); (try clear hk); (try clear hi)))
                    go_meet
                    case rel => exact ⟨_, ((t169 != t170)), (by first | rfl | (simp; done) | (simp [*]; done)), H', ⟨by have := HJ2.out; have := HJ8.out; first | omega | exact Nat.le_refl _⟩, ⟨by repeat (first | (with_reducible first | exact HB.out | apply below_alloc | apply pw_below_drewN | apply below_drew1) | exact HB.out)⟩⟩
                  · rw [if_neg c50] at H
                    have c50b0 : (t166 == 1) = false := beq_eq_false_iff_ne.mpr c50
                    have c50b1 : (t166 != 1) = true := bne_iff_ne.mpr c50
                    have H' := Aside0.mk H
                    clear H
                    go_wp2_with (first | (go_at_call 22; (with_reducible refine (impl_Inv8.calls kj8 t151 t165 _ A48.out).mono ?_); rintro e w61 ⟨rfl, hb⟩; have n0_ := Aside0.mk (below_step (by repeat (first | (with_reducible first | exact HB.out | apply below_alloc | apply pw_below_drewN | apply below_drew1) | exact HB.out)) hb); clear HB; have HB := n0_; clear n0_; (try clear hb); (try clear hb2); (try clear hk); (try clear hi)) | (go_at_call 20; (with_reducible refine (impl_Mul8.calls kj8 t151 t165 t166 _ A49.out).mono ?_); rintro e w62 ⟨rfl, hb⟩; have n0_ := Aside0.mk (below_step (by repeat (first | (with_reducible first | exact HB.out | apply below_alloc | apply pw_below_drewN | apply below_drew1) | exact HB.out)) hb); clear HB; have HB := n0_; clear n0_; (try clear hb); (try clear hb2); (try clear hk); (try clear hi)))
                    go_meet
                    case rel => exact ⟨_, (true), (by first | rfl | (simp; done) | (simp [*]; done)), H', ⟨by have := HJ2.out; have := HJ8.out; first | omega | exact Nat.le_refl _⟩, ⟨by repeat (first | (with_reducible first | exact HB.out | apply below_alloc | apply pw_below_drewN | apply below_drew1) | exact HB.out)⟩⟩
                · rw [if_neg c47] at H
                  have c47b0 : decide (0 < t151) = false := decide_eq_false c47
                  clear c47
                  (first | rw [c47b0] | (simp only [i64_w, i32_w]; rw [c47b0]) | skip)
                  replace H := Option.bind_eq_some_iff.mp H
                  obtain ⟨t171, A630, H⟩ := H
                  replace H : ((impl_Pow8.f kj8 t151 t153).bind fun t172 => ((impl_Mul8.f kj8 t171 t172).bind fun t173 => ((impl_Pow8.f kj8 t151 (wrap64 (t152 + t153))).bind fun t174 => (laws_FnField.j2 kj8 l1 (t173 != t174))))) = some r := H
                  have A63 := Aside0.mk A630
                  clear A630
                  replace H := Option.bind_eq_some_iff.mp H
                  obtain ⟨t172, A640, H⟩ := H
                  replace H : ((impl_Mul8.f kj8 t171 t172).bind fun t173 => ((impl_Pow8.f kj8 t151 (wrap64 (t152 + t153))).bind fun t174 => (laws_FnField.j2 kj8 l1 (t173 != t174)))) = some r := H
                  have A64 := Aside0.mk A640
                  clear A640
                  replace H := Option.bind_eq_some_iff.mp H
                  obtain ⟨t173, A650, H⟩ := H
                  replace H : ((impl_Pow8.f kj8 t151 (wrap64 (t152 + t153))).bind fun t174 => (laws_FnField.j2 kj8 l1 (t173 != t174))) = some r := H
                  have A65 := Aside0.mk A650
                  clear A650
                  replace H := Option.bind_eq_some_iff.mp H
                  obtain ⟨t174, A660, H⟩ := H
                  replace H : (laws_FnField.j2 kj8 l1 (t173 != t174)) = some r := H
                  have A66 := Aside0.mk A660
                  clear A660
                  have H' := Aside0.mk H
                  clear H
                  go_wp2_with (first | (go_at_call 23; (with_reducible refine (impl_Pow8.calls kj8 t151 t152 t171 _ A63.out).mono ?_); rintro e w67 ⟨rfl, hb⟩; have n0_ := Aside0.mk (below_step (by repeat (first | (with_reducible first | exact HB.out | apply below_alloc | apply pw_below_drewN | apply below_drew1) | exact HB.out)) hb); clear HB; have HB := n0_; clear n0_; (try clear hb); (try clear hb2); (try clear hk); (try clear hi)) | (go_at_call 23; (with_reducible refine (impl_Pow8.calls kj8 t151 t153 t172 _ A64.out).mono ?_); rintro e w68 ⟨rfl, hb⟩; have n0_ := Aside0.mk (below_step (by repeat (first | (with_reducible first | exact HB.out | apply below_alloc | apply pw_below_drewN | apply below_drew1) | exact HB.out)) hb); clear HB; have HB := n0_; clear n0_; (try clear hb); (try clear hb2); (try clear hk); (try clear hi)) | (go_at_call 20; (with_reducible refine (impl_Mul8.calls kj8 t171 t172 t173 _ A65.out).mono ?_); rintro e w69 ⟨rfl, hb⟩; have n0_ := Aside0.mk (below_step (by repeat (first | (with_reducible first | exact HB.out | apply below_alloc | apply pw_below_drewN | apply below_drew1) | exact HB.out)) hb); clear HB; have HB := n0_; clear n0_; (try clear hb); (try clear hb2); (try clear hk); (try clear hi)) | (go_at_call 23; (with_reducible refine (impl_Pow8.calls kj8 t151 (wrap64 (t152 + t153)) t174 _ A66.out).mono ?_); rintro e w70 ⟨rfl, hb⟩; have n0_ := Aside0.mk (below_step (by repeat (first | (with_reducible first | exact HB.out | apply below_alloc | apply pw_below_drewN | apply below_drew1) | exact HB.out)) hb); clear HB; have HB := n0_; clear n0_; (try clear hb); (try clear hb2); (try clear hk); (try clear hi)))
                  go_meet
                  case rel => exact ⟨_, ((t173 != t174)), (by first | rfl | (simp; done) | (simp [*]; done)), H', ⟨by have := HJ2.out; have := HJ8.out; first | omega | exact Nat.le_refl _⟩, ⟨by repeat (first | (with_reducible first | exact HB.out | apply below_alloc | apply pw_below_drewN | apply below_drew1) | exact HB.out)⟩⟩
              case rest =>
                clear HC46
                try clear c1
                try clear c2
                try clear p2
                try clear c4
                try clear c4b0
                try clear c4b1
                try clear c5
                try clear p6
                try clear c12
                try clear c12b0
                try clear c12b1
                try clear c15
                try clear c15b0
                try clear c15b1
                try clear c19
                try clear c20
                try clear c20b0
                try clear c20b1
                try clear c21
                try clear c45
                try clear c47
                try clear c47b0
                try clear c50
                try clear c50b0
                try clear c50b1
                try clear p64
                try clear p2
                obtain ⟨kq, x92_45, rfl, HA, HJ45, HB⟩ := hcut
                cases kq with
                | zero => exact absurd HA.out (by simp [laws_FnField.j2])
                | succ kj45 =>
                  have H := HA.out
                  clear HA
                  simp only [laws_FnField.j2] at H
                  by_cases c71 : x92_45 = true
                  · subst c71
                    have H1 : (some false) = some r := by rw [if_pos rfl] at H; exact H
                    clear H
                    have H := H1
                    clear H1
                    obtain rfl := Option.some.inj H
                    go_wp2
                    go_ret
                    exact ⟨by first | rfl | (simp [errW_none, errW_some] <;> rfl) | (simp [*, errW_none, errW_some] <;> rfl), by repeat (first | (with_reducible first | exact HB.out | apply below_alloc | apply pw_below_drewN | apply below_drew1) | exact HB.out)⟩
                  · replace c71 := Bool.eq_false_iff.mpr c71
                    subst c71
                    have H1 : ((laws_lwAt.f l1 0).bind fun t175 => ((laws_lwAt.f l1 1).bind fun t176 => ((laws_lwAt.f l1 2).bind fun t177 => ((laws_lwAt.f l1 3).bind fun t178 => ((laws_lwAt.f l1 4).bind fun t179 => ((laws_lwAt.f l1 5).bind fun t180 => ((impl_Mul16.f kj45 (wrap64 ((wrap64 (t175 * 256)) + t176)) (wrap64 ((wrap64 (t177 * 256)) + t178))).bind fun t181 => ((spec_Mul16.f kj45 (wrap64 ((wrap64 (t175 * 256)) + t176)) (wrap64 ((wrap64 (t177 * 256)) + t178))).bind fun t182 => (if t181 = t182 then ((impl_Mul16.f kj45 (wrap64 ((wrap64 (t175 * 256)) + t176)) (wrap64 ((wrap64 (t177 * 256)) + t178))).bind fun t183 => ((impl_Mul16.f kj45 (wrap64 ((wrap64 (t177 * 256)) + t178)) (wrap64 ((wrap64 (t175 * 256)) + t176))).bind fun t184 => (if t183 = t184 then ((impl_Mul16.f kj45 (wrap64 ((wrap64 (t175 * 256)) + t176)) (wrap64 ((wrap64 (t177 * 256)) + t178))).bind fun t185 => ((impl_Mul16.f kj45 t185 (wrap64 ((wrap64 (t179 * 256)) + t180))).bind fun t186 => ((impl_Mul16.f kj45 (wrap64 ((wrap64 (t177 * 256)) + t178)) (wrap64 ((wrap64 (t179 * 256)) + t180))).bind fun t187 => ((impl_Mul16.f kj45 (wrap64 ((wrap64 (t175 * 256)) + t176)) t187).bind fun t188 => (if t186 = t188 then ((impl_Mul16.f kj45 (wrap64 ((wrap64 (t175 * 256)) + t176)) (Go.bits .xor .i64 (wrap64 ((wrap64 (t177 * 256)) + t178)) (wrap64 ((wrap64 (t179 * 256)) + t180)))).bind fun t189 => ((impl_Mul16.f kj45 (wrap64 ((wrap64 (t175 * 256)) + t176)) (wrap64 ((wrap64 (t177 * 256)) + t178))).bind fun t190 => ((impl_Mul16.f kj45 (wrap64 ((wrap64 (t175 * 256)) + t176)) (wrap64 ((wrap64 (t179 * 256)) + t180))).bind fun t191 => (laws_FnField.j3 kj45 (wrap64 ((wrap64 (t175 * 256)) + t176)) (t189 != (Go.bits .xor .i64 t190 t191)))))) else (laws_FnField.j3 kj45 (wrap64 ((wrap64 (t175 * 256)) + t176)) true)))))) else (laws_FnField.j3 kj45 (wrap64 ((wrap64 (t175 * 256)) + t176)) true)))) else (laws_FnField.j3 kj45 (wrap64 ((wrap64 (t175 * 256)) + t176)) true)))))))))) = some r := by rw [if_neg (show ¬ (false = true) by decide)] at H; exact H
                    clear H
                    have H := H1
                    clear H1
                    replace H := Option.bind_eq_some_iff.mp H
                    obtain ⟨t175, A720, H⟩ := H
                    replace H : ((laws_lwAt.f l1 1).bind fun t176 => ((laws_lwAt.f l1 2).bind fun t177 => ((laws_lwAt.f l1 3).bind fun t178 => ((laws_lwAt.f l1 4).bind fun t179 => ((laws_lwAt.f l1 5).bind fun t180 => ((impl_Mul16.f kj45 (wrap64 ((wrap64 (t175 * 256)) + t176)) (wrap64 ((wrap64 (t177 * 256)) + t178))).bind fun t181 => ((spec_Mul16.f kj45 (wrap64 ((wrap64 (t175 * 256)) + t176)) (wrap64 ((wrap64 (t177 * 256)) + t178))).bind fun t182 => (if t181 = t182 then ((impl_Mul16.f kj45 (wrap64 ((wrap64 (t175 * 256)) + t176)) (wrap64 ((wrap64 (t177 * 256)) + t178))).bind fun t183 => ((impl_Mul16.f kj45 (wrap64 ((wrap64 (t177 * 256)) + t178)) (wrap64 ((wrap64 (t175 * 256)) + t176))).bind fun t184 => (if t183 = t184 then ((impl_Mul16.f kj45 (wrap64 ((wrap64 (t175 * 256)) + t176)) (wrap64 ((wrap64 (t177 * 256)) + t178))).bind fun t185 => ((impl_Mul16.f kj45 t185 (wrap64 ((wrap64 (t179 * 256)) + t180))).bind fun t186 => ((impl_Mul16.f kj45 (wrap64 ((wrap64 (t177 * 256)) + t178)) (wrap64 ((wrap64 (t179 * 256)) + t180))).bind fun t187 => ((impl_Mul16.f kj45 (wrap64 ((wrap64 (t175 * 256)) + t176)) t187).bind fun t188 => (if t186 = t188 then ((impl_Mul16.f kj45 (wrap64 ((wrap64 (t175 * 256)) + t176)) (Go.bits .xor .i64 (wrap64 ((wrap64 (t177 * 256)) + t178)) (wrap64 ((wrap64 (t179 * 256)) + t180)))).bind fun t189 => ((impl_Mul16.f kj45 (wrap64 ((wrap64 (t175 * 256)) + t176)) (wrap64 ((wrap64 (t177 * 256)) + t178))).bind fun t190 => ((impl_Mul16.f kj45 (wrap64 ((wrap64 (t175 * 256)) + t176)) (wrap64 ((wrap64 (t179 * 256)) + t180))).bind fun t191 => (laws_FnField.j3 kj45 (wrap64 ((wrap64 (t175 * 256)) + t176)) (t189 != (Go.bits .xor .i64 t190 t191)))))) else (laws_FnField.j3 kj45 (wrap64 ((wrap64 (t175 * 256)) + t176)) true)))))) else (laws_FnField.j3 kj45 (wrap64 ((wrap64 (t175 * 256)) + t176)) true)))) else (laws_FnField.j3 kj45 (wrap64 ((wrap64 (t175 * 256)) + t176)) true))))))))) = some r := H
                    have A72 := Aside0.mk A720
                    clear A720
                    replace H := Option.bind_eq_some_iff.mp H
                    obtain ⟨t176, A730, H⟩ := H
                    replace H : ((laws_lwAt.f l1 2).bind fun t177 => ((laws_lwAt.f l1 3).bind fun t178 => ((laws_lwAt.f l1 4).bind fun t179 => ((laws_lwAt.f l1 5).bind fun t180 => ((impl_Mul16.f kj45 (wrap64 ((wrap64 (t175 * 256)) + t176)) (wrap64 ((wrap64 (t177 * 256)) + t178))).bind fun t181 => ((spec_Mul16.f kj45 (wrap64 ((wrap64 (t175 * 256)) + t176)) (wrap64 ((wrap64 (t177 * 256)) + t178))).bind fun t182 => (if t181 = t182 then ((impl_Mul16.f kj45 (wrap64 ((wrap64 (t175 * 256)) + t176)) (wrap64 ((wrap64 (t177 * 256)) + t178))).bind fun t183 => ((impl_Mul16.f kj45 (wrap64 ((wrap64 (t177 * 256)) + t178)) (wrap64 ((wrap64 (t175 * 256)) + t176))).bind fun t184 => (if t183 = t184 then ((impl_Mul16.f kj45 (wrap64 ((wrap64 (t175 * 256)) + t176)) (wrap64 ((wrap64 (t177 * 256)) + t178))).bind fun t185 => ((impl_Mul16.f kj45 t185 (wrap64 ((wrap64 (t179 * 256)) + t180))).bind fun t186 => ((impl_Mul16.f kj45 (wrap64 ((wrap64 (t177 * 256)) + t178)) (wrap64 ((wrap64 (t179 * 256)) + t180))).bind fun t187 => ((impl_Mul16.f kj45 (wrap64 ((wrap64 (t175 * 256)) + t176)) t187).bind fun t188 => (if t186 = t188 then ((impl_Mul16.f kj45 (wrap64 ((wrap64 (t175 * 256)) + t176)) (Go.bits .xor .i64 (wrap64 ((wrap64 (t177 * 256)) + t178)) (wrap64 ((wrap64 (t179 * 256)) + t180)))).bind fun t189 => ((impl_Mul16.f kj45 (wrap64 ((wrap64 (t175 * 256)) + t176)) (wrap64 ((wrap64 (t177 * 256)) + t178))).bind fun t190 => ((impl_Mul16.f kj45 (wrap64 ((wrap64 (t175 * 256)) + t176)) (wrap64 ((wrap64 (t179 * 256)) + t180))).bind fun t191 => (laws_FnField.j3 kj45 (wrap64 ((wrap64 (t175 * 256)) + t176)) (t189 != (Go.bits .xor .i64 t190 t191)))))) else (laws_FnField.j3 kj45 (wrap64 ((wrap64 (t175 * 256)) + t176)) true)))))) else (laws_FnField.j3 kj45 (wrap64 ((wrap64 (t175 * 256)) + t176)) true)))) else (laws_FnField.j3 kj45 (wrap64 ((wrap64 (t175 * 256)) + t176)) true)))))))) = some r := H
                    have A73 := Aside0.mk A730
                    clear A730
                    replace H := Option.bind_eq_some_iff.mp H
                    obtain ⟨t177, A740, H⟩ := H
                    replace H : ((laws_lwAt.f l1 3).bind fun t178 => ((laws_lwAt.f l1 4).bind fun t179 => ((laws_lwAt.f l1 5).bind fun t180 => ((impl_Mul16.f kj45 (wrap64 ((wrap64 (t175 * 256)) + t176)) (wrap64 ((wrap64 (t177 * 256)) + t178))).bind fun t181 => ((spec_Mul16.f kj45 (wrap64 ((wrap64 (t175 * 256)) + t176)) (wrap64 ((wrap64 (t177 * 256)) + t178))).bind fun t182 => (if t181 = t182 then ((impl_Mul16.f kj45 (wrap64 ((wrap64 (t175 * 256)) + t176)) (wrap64 ((wrap64 (t177 * 256)) + t178))).bind fun t183 => ((impl_Mul16.f kj45 (wrap64 ((wrap64 (t177 * 256)) + t178)) (wrap64 ((wrap64 (t175 * 256)) + t176))).bind fun t184 => (if t183 = t184 then ((impl_Mul16.f kj45 (wrap64 ((wrap64 (t175 * 256)) + t176)) (wrap64 ((wrap64 (t177 * 256)) + t178))).bind fun t185 => ((impl_Mul16.f kj45 t185 (wrap64 ((wrap64 (t179 * 256)) + t180))).bind fun t186 => ((impl_Mul16.f kj45 (wrap64 ((wrap64 (t177 * 256)) + t178)) (wrap64 ((wrap64 (t179 * 256)) + t180))).bind fun t187 => ((impl_Mul16.f kj45 (wrap64 ((wrap64 (t175 * 256)) + t176)) t187).bind fun t188 => (if t186 = t188 then ((impl_Mul16.f kj45 (wrap64 ((wrap64 (t175 * 256)) + t176)) (Go.bits .xor .i64 (wrap64 ((wrap64 (t177 * 256)) + t178)) (wrap64 ((wrap64 (t179 * 256)) + t180)))).bind fun t189 => ((impl_Mul16.f kj45 (wrap64 ((wrap64 (t175 * 256)) + t176)) (wrap64 ((wrap64 (t177 * 256)) + t178))).bind fun t190 => ((impl_Mul16.f kj45 (wrap64 ((wrap64 (t175 * 256)) + t176)) (wrap64 ((wrap64 (t179 * 256)) + t180))).bind fun t191 => (laws_FnField.j3 kj45 (wrap64 ((wrap64 (t175 * 256)) + t176)) (t189 != (Go.bits .xor .i64 t190 t191)))))) else (laws_FnField.j3 kj45 (wrap64 ((wrap64 (t175 * 256)) + t176)) true)))))) else (laws_FnField.j3 kj45 (wrap64 ((wrap64 (t175 * 256)) + t176)) true)))) else (laws_FnField.j3 kj45 (wrap64 ((wrap64 (t175 * 256)) + t176)) true))))))) = some r := H
                    have A74 := Aside0.mk A740
                    clear A740
                    replace H := Option.bind_eq_some_iff.mp H
                    obtain ⟨t178, A750, H⟩ := H
                    replace H : ((laws_lwAt.f l1 4).bind fun t179 => ((laws_lwAt.f l1 5).bind fun t180 => ((impl_Mul16.f kj45 (wrap64 ((wrap64 (t175 * 256)) + t176)) (wrap64 ((wrap64 (t177 * 256)) + t178))).bind fun t181 => ((spec_Mul16.f kj45 (wrap64 ((wrap64 (t175 * 256)) + t176)) (wrap64 ((wrap64 (t177 * 256)) + t178))).bind fun t182 => (if t181 = t182 then ((impl_Mul16.f kj45 (wrap64 ((wrap64 (t175 * 256)) + t176)) (wrap64 ((wrap64 (t177 * 256)) + t178))).bind fun t183 => ((impl_Mul16.f kj45 (wrap64 ((wrap64 (t177 * 256)) + t178)) (wrap64 ((wrap64 (t175 * 256)) + t176))).bind fun t184 => (if t183 = t184 then ((impl_Mul16.f kj45 (wrap64 ((wrap64 (t175 * 256)) + t176)) (wrap64 ((wrap64 (t177 * 256)) + t178))).bind fun t185 => ((impl_Mul16.f kj45 t185 (wrap64 ((wrap64 (t179 * 256)) + t180))).bind fun t186 => ((impl_Mul16.f kj45 (wrap64 ((wrap64 (t177 * 256)) + t178)) (wrap64 ((wrap64 (t179 * 256)) + t180))).bind fun t187 => ((impl_Mul16.f kj45 (wrap64 ((wrap64 (t175 * 256)) + t176)) t187).bind fun t188 => (if t186 = t188 then ((impl_Mul16.f kj45 (wrap64 ((wrap64 (t175 * 256)) + t176)) (Go.bits .xor .i64 (wrap64 ((wrap64 (t177 * 256)) + t178)) (wrap64 ((wrap64 (t179 * 256)) + t180)))).bind fun t189 => ((impl_Mul16.f kj45 (wrap64 ((wrap64 (t175 * 256)) + t176)) (wrap64 ((wrap64 (t177 * 256)) + t178))).bind fun t190 => ((impl_Mul16.f kj45 (wrap64 ((wrap64 (t175 * 256)) + t176)) (wrap64 ((wrap64 (t179 * 256)) + t180))).bind fun t191 => (laws_FnField.j3 kj45 (wrap64 ((wrap64 (t175 * 256)) + t176)) (t189 != (Go.bits .xor .i64 t190 t191)))))) else (laws_FnField.j3 kj45 (wrap64 ((wrap64 (t175 * 256)) + t176)) true)))))) else (laws_FnField.j3 kj45 (wrap64 ((wrap64 (t175 * 256)) + t176)) true)))) else (laws_FnField.j3 kj45 (wrap64 ((wrap64 (t175 * 256)) + t176)) true)))))) = some r := H
                    have A75 := Aside0.mk A750
                    clear A750
                    replace H := Option.bind_eq_some_iff.mp H
                    obtain ⟨t179, A760, H⟩ := H
                    replace H : ((laws_lwAt.f l1 5).bind fun t180 => ((impl_Mul16.f kj45 (wrap64 ((wrap64 (t175 * 256)) + t176)) (wrap64 ((wrap64 (t177 * 256)) + t178))).bind fun t181 => ((spec_Mul16.f kj45 (wrap64 ((wrap64 (t175 * 256)) + t176)) (wrap64 ((wrap64 (t177 * 256)) + t178))).bind fun t182 => (if t181 = t182 then ((impl_Mul16.f kj45 (wrap64 ((wrap64 (t175 * 256)) + t176)) (wrap64 ((wrap64 (t177 * 256)) + t178))).bind fun t183 => ((impl_Mul16.f kj45 (wrap64 ((wrap64 (t177 * 256)) + t178)) (wrap64 ((wrap64 (t175 * 256)) + t176))).bind fun t184 => (if t183 = t184 then ((impl_Mul16.f kj45 (wrap64 ((wrap64 (t175 * 256)) + t176)) (wrap64 ((wrap64 (t177 * 256)) + t178))).bind fun t185 => ((impl_Mul16.f kj45 t185 (wrap64 ((wrap64 (t179 * 256)) + t180))).bind fun t186 => ((impl_Mul16.f kj45 (wrap64 ((wrap64 (t177 * 256)) + t178)) (wrap64 ((wrap64 (t179 * 256)) + t180))).bind fun t187 => ((impl_Mul16.f kj45 (wrap64 ((wrap64 (t175 * 256)) + t176)) t187).bind fun t188 => (if t186 = t188 then ((impl_Mul16.f kj45 (wrap64 ((wrap64 (t175 * 256)) + t176)) (Go.bits .xor .i64 (wrap64 ((wrap64 (t177 * 256)) + t178)) (wrap64 ((wrap64 (t179 * 256)) + t180)))).bind fun t189 => ((impl_Mul16.f kj45 (wrap64 ((wrap64 (t175 * 256)) + t176)) (wrap64 ((wrap64 (t177 * 256)) + t178))).bind fun t190 => ((impl_Mul16.f kj45 (wrap64 ((wrap64 (t175 * 256)) + t176)) (wrap64 ((wrap64 (t179 * 256)) + t180))).bind fun t191 => (laws_FnField.j3 kj45 (wrap64 ((wrap64 (t175 * 256)) + t176)) (t189 != (Go.bits .xor .i64 t190 t191)))))) else (laws_FnField.j3 kj45 (wrap64 ((wrap64 (t175 * 256)) + t176)) true)))))) else (laws_FnField.j3 kj45 (wrap64 ((wrap64 (t175 * 256)) + t176)) true)))) else (laws_FnField.j3 kj45 (wrap64 ((wrap64 (t175 * 256)) + t176)) true))))) = some r := H
                    have A76 := Aside0.mk A760
                    clear A760
                    replace H := Option.bind_eq_some_iff.mp H
                    obtain ⟨t180, A770, H⟩ := H
                    replace H : ((impl_Mul16.f kj45 (wrap64 ((wrap64 (t175 * 256)) + t176)) (wrap64 ((wrap64 (t177 * 256)) + t178))).bind fun t181 => ((spec_Mul16.f kj45 (wrap64 ((wrap64 (t175 * 256)) + t176)) (wrap64 ((wrap64 (t177 * 256)) + t178))).bind fun t182 => (if t181 = t182 then ((impl_Mul16.f kj45 (wrap64 ((wrap64 (t175 * 256)) + t176)) (wrap64 ((wrap64 (t177 * 256)) + t178))).bind fun t183 => ((impl_Mul16.f kj45 (wrap64 ((wrap64 (t177 * 256)) + t178)) (wrap64 ((wrap64 (t175 * 256)) + t176))).bind fun t184 => (if t183 = t184 then ((impl_Mul16.f kj45 (wrap64 ((wrap64 (t175 * 256)) + t176)) (wrap64 ((wrap64 (t177 * 256)) + t178))).bind fun t185 => ((impl_Mul16.f kj45 t185 (wrap64 ((wrap64 (t179 * 256)) + t180))).bind fun t186 => ((impl_Mul16.f kj45 (wrap64 ((wrap64 (t177 * 256)) + t178)) (wrap64 ((wrap64 (t179 * 256)) + t180))).bind fun t187 => ((impl_Mul16.f kj45 (wrap64 ((wrap64 (t175 * 256)) + t176)) t187).bind fun t188 => (if t186 = t188 then ((impl_Mul16.f kj45 (wrap64 ((wrap64 (t175 * 256)) + t176)) (Go.bits .xor .i64 (wrap64 ((wrap64 (t177 * 256)) + t178)) (wrap64 ((wrap64 (t179 * 256)) + t180)))).bind fun t189 => ((impl_Mul16.f kj45 (wrap64 ((wrap64 (t175 * 256)) + t176)) (wrap64 ((wrap64 (t177 * 256)) + t178))).bind fun t190 => ((impl_Mul16.f kj45 (wrap64 ((wrap64 (t175 * 256)) + t176)) (wrap64 ((wrap64 (t179 * 256)) + t180))).bind fun t191 => (laws_FnField.j3 kj45 (wrap64 ((wrap64 (t175 * 256)) + t176)) (t189 != (Go.bits .xor .i64 t190 t191)))))) else (laws_FnField.j3 kj45 (wrap64 ((wrap64 (t175 * 256)) + t176)) true)))))) else (laws_FnField.j3 kj45 (wrap64 ((wrap64 (t175 * 256)) + t176)) true)))) else (laws_FnField.j3 kj45 (wrap64 ((wrap64 (t175 * 256)) + t176)) true)))) = some r := H
                    have A77 := Aside0.mk A770
                    clear A770
                    have HC78 := Aside0.mk H
                    clear H
                    go_upto_region 13 with (first | ((with_reducible refine gate_callee (f := 19) rfl ?_); refine goesL_ (some 94) rfl rfl Try.func19 (by kernel_rfl) rfl #[.slice A1 l1.length c1, .int .i64 0] rfl (by (try simp only [List.map_toArray, List.map_cons, List.map_nil]); first | done | rfl | (simp only [List.length_drop, List.length_take]; rfl)) ?_; (with_reducible refine (laws_lwAt.calls _ _ l1 0 t175 _ ?side1 ?side2 A72.out).mono ?_); (case side1 => repeat (first | exact (Kd.C_below HR1.out HB.out) | (with_reducible refine Kd.C_alloc ?_ _) | (with_reducible refine Kd.C_drewN ?_ _) | (with_reducible refine Kd.C_drew ?_))); (case side2 => exact HC1.out); rintro e w' ⟨rfl, ⟨nd, rfl⟩⟩; refine ⟨_, rfl, ?_⟩) | ((with_reducible refine gate_callee (f := 19) rfl ?_); refine goesL_ (some 97) rfl rfl Try.func19 (by kernel_rfl) rfl #[.slice A1 l1.length c1, .int .i64 1] rfl (by (try simp only [List.map_toArray, List.map_cons, List.map_nil]); first | done | rfl | (simp only [List.length_drop, List.length_take]; rfl)) ?_; (with_reducible refine (laws_lwAt.calls _ _ l1 1 t176 _ ?side1 ?side2 A73.out).mono ?_); (case side1 => repeat (first | exact (Kd.C_below HR1.out (by repeat (first | (with_reducible first | exact HB.out | apply below_alloc | apply pw_below_drewN | apply below_drew1) | exact HB.out))) | (with_reducible refine Kd.C_alloc ?_ _) | (with_reducible refine Kd.C_drewN ?_ _) | (with_reducible refine Kd.C_drew ?_))); (case side2 => exact HC1.out); rintro e w' ⟨rfl, ⟨nd, rfl⟩⟩; refine ⟨_, rfl, ?_⟩) | ((with_reducible refine gate_callee (f := 19) rfl ?_); refine goesL_ (some 100) rfl rfl Try.func19 (by kernel_rfl) rfl #[.slice A1 l1.length c1, .int .i64 2] rfl (by (try simp only [List.map_toArray, List.map_cons, List.map_nil]); first | done | rfl | (simp only [List.length_drop, List.length_take]; rfl)) ?_; (with_reducible refine (laws_lwAt.calls _ _ l1 2 t177 _ ?side1 ?side2 A74.out).mono ?_); (case side1 => repeat (first | exact (Kd.C_below HR1.out (by repeat (first | (with_reducible first | exact HB.out | apply below_alloc | apply pw_below_drewN | apply below_drew1) | exact HB.out))) | (with_reducible refine Kd.C_alloc ?_ _) | (with_reducible refine Kd.C_drewN ?_ _) | (with_reducible refine Kd.C_drew ?_))); (case side2 => exact HC1.out); rintro e w' ⟨rfl, ⟨nd, rfl⟩⟩; refine ⟨_, rfl, ?_⟩) | ((with_reducible refine gate_callee (f := 19) rfl ?_); refine goesL_ (some 103) rfl rfl Try.func19 (by kernel_rfl) rfl #[.slice A1 l1.length c1, .int .i64 3] rfl (by (try simp only [List.map_toArray, List.map_cons, List.map_nil]); first | done | rfl | (simp only [List.length_drop, List.length_take]; rfl)) ?_; (with_reducible refine (laws_lwAt.calls _ _ l1 3 t178 _ ?side1 ?side2 A75.out).mono ?_); (case side1 => repeat (first | exact (Kd.C_below HR1.out (by repeat (first | (with_reducible first | exact HB.out | apply below_alloc | apply pw_below_drewN | apply below_drew1) | exact HB.out))) | (with_reducible refine Kd.C_alloc ?_ _) | (with_reducible refine Kd.C_drewN ?_ _) | (with_reducible refine Kd.C_drew ?_))); (case side2 => exact HC1.out); rintro e w' ⟨rfl, ⟨nd, rfl⟩⟩; refine ⟨_, rfl, ?_⟩) | ((with_reducible refine gate_callee (f := 19) rfl ?_); refine goesL_ (some 106) rfl rfl Try.func19 (by kernel_rfl) rfl #[.slice A1 l1.length c1, .int .i64 4] rfl (by (try simp only [List.map_toArray, List.map_cons, List.map_nil]); first | done | rfl | (simp only [List.length_drop, List.length_take]; rfl)) ?_; (with_reducible refine (laws_lwAt.calls _ _ l1 4 t179 _ ?side1 ?side2 A76.out).mono ?_); (case side1 => repeat (first | exact (Kd.C_below HR1.out (by repeat (first | (with_reducible first | exact HB.out | apply below_alloc | apply pw_below_drewN | apply below_drew1) | exact HB.out))) | (with_reducible refine Kd.C_alloc ?_ _) | (with_reducible refine Kd.C_drewN ?_ _) | (with_reducible refine Kd.C_drew ?_))); (case side2 => exact HC1.out); rintro e w' ⟨rfl, ⟨nd, rfl⟩⟩; refine ⟨_, rfl, ?_⟩) | ((with_reducible refine gate_callee (f := 19) rfl ?_); refine goesL_ (some 109) rfl rfl Try.func19 (by kernel_rfl) rfl #[.slice A1 l1.length c1, .int .i64 5] rfl (by (try simp only [List.map_toArray, List.map_cons, List.map_nil]); first | done | rfl | (simp only [List.length_drop, List.length_take]; rfl)) ?_; (with_reducible refine (laws_lwAt.calls _ _ l1 5 t180 _ ?side1 ?side2 A77.out).mono ?_); (case side1 => repeat (first | exact (Kd.C_below HR1.out (by repeat (first | (with_reducible first | exact HB.out | apply below_alloc | apply pw_below_drewN | apply below_drew1) | exact HB.out))) | (with_reducible refine Kd.C_alloc ?_ _) | (with_reducible refine Kd.C_drewN ?_ _) | (with_reducible refine Kd.C_drew ?_))); (case side2 => exact HC1.out); rintro e w' ⟨rfl, ⟨nd, rfl⟩⟩; refine ⟨_, rfl, ?_⟩))
                    (try simp only [Act.put, List.setIfInBounds_toArray, List.set_cons_zero, List.set_cons_succ])
                    go_cut [154] (fun v154 wc => ∃ (kq : Nat) (x154_77 : Bool), v154 = .bool x154_77 ∧ Aside0 (laws_FnField.j3 kq (wrap64 ((wrap64 (t175 * 256)) + t176)) x154_77 = some r) ∧ Aside0 (kq ≤ kj45) ∧ Aside0 (Below w.heap.size w wc))
                    case first =>
                      have H := HC78.out
                      clear HC78
                      replace H := Option.bind_eq_some_iff.mp H
                      obtain ⟨t181, A790, H⟩ := H
                      replace H : ((spec_Mul16.f kj45 (wrap64 ((wrap64 (t175 * 256)) + t176)) (wrap64 ((wrap64 (t177 * 256)) + t178))).bind fun t182 => (if t181 = t182 then ((impl_Mul16.f kj45 (wrap64 ((wrap64 (t175 * 256)) + t176)) (wrap64 ((wrap64 (t177 * 256)) + t178))).bind fun t183 => ((impl_Mul16.f kj45 (wrap64 ((wrap64 (t177 * 256)) + t178)) (wrap64 ((wrap64 (t175 * 256)) + t176))).bind fun t184 => (if t183 = t184 then ((impl_Mul16.f kj45 (wrap64 ((wrap64 (t175 * 256)) + t176)) (wrap64 ((wrap64 (t177 * 256)) + t178))).bind fun t185 => ((impl_Mul16.f kj45 t185 (wrap64 ((wrap64 (t179 * 256)) + t180))).bind fun t186 => ((impl_Mul16.f kj45 (wrap64 ((wrap64 (t177 * 256)) + t178)) (wrap64 ((wrap64 (t179 * 256)) + t180))).bind fun t187 => ((impl_Mul16.f kj45 (wrap64 ((wrap64 (t175 * 256)) + t176)) t187).bind fun t188 => (if t186 = t188 then ((impl_Mul16.f kj45 (wrap64 ((wrap64 (t175 * 256)) + t176)) (Go.bits .xor .i64 (wrap64 ((wrap64 (t177 * 256)) + t178)) (wrap64 ((wrap64 (t179 * 256)) + t180)))).bind fun t189 => ((impl_Mul16.f kj45 (wrap64 ((wrap64 (t175 * 256)) + t176)) (wrap64 ((wrap64 (t177 * 256)) + t178))).bind fun t190 => ((impl_Mul16.f kj45 (wrap64 ((wrap64 (t175 * 256)) + t176)) (wrap64 ((wrap64 (t179 * 256)) + t180))).bind fun t191 => (laws_FnField.j3 kj45 (wrap64 ((wrap64 (t175 * 256)) + t176)) (t189 != (Go.bits .xor .i64 t190 t191)))))) else (laws_FnField.j3 kj45 (wrap64 ((wrap64 (t175 * 256)) + t176)) true)))))) else (laws_FnField.j3 kj45 (wrap64 ((wrap64 (t175 * 256)) + t176)) true)))) else (laws_FnField.j3 kj45 (wrap64 ((wrap64 (t175 * 256)) + t176)) true))) = some r := H
                      have A79 := Aside0.mk A790
                      clear A790
                      replace H := Option.bind_eq_some_iff.mp H
                      obtain ⟨t182, A800, H⟩ := H
                      replace H : (if t181 = t182 then ((impl_Mul16.f kj45 (wrap64 ((wrap64 (t175 * 256)) + t176)) (wrap64 ((wrap64 (t177 * 256)) + t178))).bind fun t183 => ((impl_Mul16.f kj45 (wrap64 ((wrap64 (t177 * 256)) + t178)) (wrap64 ((wrap64 (t175 * 256)) + t176))).bind fun t184 => (if t183 = t184 then ((impl_Mul16.f kj45 (wrap64 ((wrap64 (t175 * 256)) + t176)) (wrap64 ((wrap64 (t177 * 256)) + t178))).bind fun t185 => ((impl_Mul16.f kj45 t185 (wrap64 ((wrap64 (t179 * 256)) + t180))).bind fun t186 => ((impl_Mul16.f kj45 (wrap64 ((wrap64 (t177 * 256)) + t178)) (wrap64 ((wrap64 (t179 * 256)) + t180))).bind fun t187 => ((impl_Mul16.f kj45 (wrap64 ((wrap64 (t175 * 256)) + t176)) t187).bind fun t188 => (if t186 = t188 then ((impl_Mul16.f kj45 (wrap64 ((wrap64 (t175 * 256)) + t176)) (Go.bits .xor .i64 (wrap64 ((wrap64 (t177 * 256)) + t178)) (wrap64 ((wrap64 (t179 * 256)) + t180)))).bind fun t189 => ((impl_Mul16.f kj45 (wrap64 ((wrap64 (t175 * 256)) + t176)) (wrap64 ((wrap64 (t177 * 256)) + t178))).bind fun t190 => ((impl_Mul16.f kj45 (wrap64 ((wrap64 (t175 * 256)) + t176)) (wrap64 ((wrap64 (t179 * 256)) + t180))).bind fun t191 => (laws_FnField.j3 kj45 (wrap64 ((wrap64 (t175 * 256)) + t176)) (t189 != (Go.bits .xor .i64 t190 t191)))))) else (laws_FnField.j3 kj45 (wrap64 ((wrap64 (t175 * 256)) + t176)) true)))))) else (laws_FnField.j3 kj45 (wrap64 ((wrap64 (t175 * 256)) + t176)) true)))) else (laws_FnField.j3 kj45 (wrap64 ((wrap64 (t175 * 256)) + t176)) true)) = some r := H
                      have A80 := Aside0.mk A800
                      clear A800
                      by_cases c81 : t181 = t182
                      · rw [if_pos c81] at H
                        have c81b0 : (t181 == t182) = true := beq_iff_eq.mpr c81
                        have c81b1 : (t181 != t182) = false := bne_eq_false_iff_eq.mpr c81
                        clear c81
                        (first | rw [c81b0] | (simp only [i64_w, i32_w]; rw [c81b0]) | skip)
                        replace H := Option.bind_eq_some_iff.mp H
                        obtain ⟨t183, A820, H⟩ := H
                        obtain rfl : t181 = t183 := Option.some.inj (A79.out.symm.trans A820)
                        replace H : ((impl_Mul16.f kj45 (wrap64 ((wrap64 (t177 * 256)) + t178)) (wrap64 ((wrap64 (t175 * 256)) + t176))).bind fun t184 => (if t181 = t184 then ((impl_Mul16.f kj45 (wrap64 ((wrap64 (t175 * 256)) + t176)) (wrap64 ((wrap64 (t177 * 256)) + t178))).bind fun t185 => ((impl_Mul16.f kj45 t185 (wrap64 ((wrap64 (t179 * 256)) + t180))).bind fun t186 => ((impl_Mul16.f kj45 (wrap64 ((wrap64 (t177 * 256)) + t178)) (wrap64 ((wrap64 (t179 * 256)) + t180))).bind fun t187 => ((impl_Mul16.f kj45 (wrap64 ((wrap64 (t175 * 256)) + t176)) t187).bind fun t188 => (if t186 = t188 then ((impl_Mul16.f kj45 (wrap64 ((wrap64 (t175 * 256)) + t176)) (Go.bits .xor .i64 (wrap64 ((wrap64 (t177 * 256)) + t178)) (wrap64 ((wrap64 (t179 * 256)) + t180)))).bind fun t189 => ((impl_Mul16.f kj45 (wrap64 ((wrap64 (t175 * 256)) + t176)) (wrap64 ((wrap64 (t177 * 256)) + t178))).bind fun t190 => ((impl_Mul16.f kj45 (wrap64 ((wrap64 (t175 * 256)) + t176)) (wrap64 ((wrap64 (t179 * 256)) + t180))).bind fun t191 => (laws_FnField.j3 kj45 (wrap64 ((wrap64 (t175 * 256)) + t176)) (t189 != (Go.bits .xor .i64 t190 t191)))))) else (laws_FnField.j3 kj45 (wrap64 ((wrap64 (t175 * 256)) + t176)) true)))))) else (laws_FnField.j3 kj45 (wrap64 ((wrap64 (t175 * 256)) + t176)) true))) = some r := H
                        have A82 := Aside0.mk A820
                        clear A820
                        replace H := Option.bind_eq_some_iff.mp H
                        obtain ⟨t184, A830, H⟩ := H
                        replace H : (if t181 = t184 then ((impl_Mul16.f kj45 (wrap64 ((wrap64 (t175 * 256)) + t176)) (wrap64 ((wrap64 (t177 * 256)) + t178))).bind fun t185 => ((impl_Mul16.f kj45 t185 (wrap64 ((wrap64 (t179 * 256)) + t180))).bind fun t186 => ((impl_Mul16.f kj45 (wrap64 ((wrap64 (t177 * 256)) + t178)) (wrap64 ((wrap64 (t179 * 256)) + t180))).bind fun t187 => ((impl_Mul16.f kj45 (wrap64 ((wrap64 (t175 * 256)) + t176)) t187).bind fun t188 => (if t186 = t188 then ((impl_Mul16.f kj45 (wrap64 ((wrap64 (t175 * 256)) + t176)) (Go.bits .xor .i64 (wrap64 ((wrap64 (t177 * 256)) + t178)) (wrap64 ((wrap64 (t179 * 256)) + t180)))).bind fun t189 => ((impl_Mul16.f kj45 (wrap64 ((wrap64 (t175 * 256)) + t176)) (wrap64 ((wrap64 (t177 * 256)) + t178))).bind fun t190 => ((impl_Mul16.f kj45 (wrap64 ((wrap64 (t175 * 256)) + t176)) (wrap64 ((wrap64 (t179 * 256)) + t180))).bind fun t191 => (laws_FnField.j3 kj45 (wrap64 ((wrap64 (t175 * 256)) + t176)) (t189 != (Go.bits .xor .i64 t190 t191)))))) else (laws_FnField.j3 kj45 (wrap64 ((wrap64 (t175 * 256)) + t176)) true)))))) else (laws_FnField.j3 kj45 (wrap64 ((wrap64 (t175 * 256)) + t176)) true)) = some r := H
                        have A83 := Aside0.mk A830
                        clear A830
                        by_cases c84 : t181 = t184
                        · rw [if_pos c84] at H
                          have c84b0 : (t181 == t184) = true := beq_iff_eq.mpr c84
                          have c84b1 : (t181 != t184) = false := bne_eq_false_iff_eq.mpr c84
                          clear c84
                          replace H := Option.bind_eq_some_iff.mp H
                          obtain ⟨t185, A850, H⟩ := H
                          obtain rfl : t181 = t185 := Option.some.inj (A79.out.symm.trans A850)
                          replace H : ((impl_Mul16.f kj45 t181 (wrap64 ((wrap64 (t179 * 256)) + t180))).bind fun t186 => ((impl_Mul16.f kj45 (wrap64 ((wrap64 (t177 * 256)) + t178)) (wrap64 ((wrap64 (t179 * 256)) + t180))).bind fun t187 => ((impl_Mul16.f kj45 (wrap64 ((wrap64 (t175 * 256)) + t176)) t187).bind fun t188 => (if t186 = t188 then ((impl_Mul16.f kj45 (wrap64 ((wrap64 (t175 * 256)) + t176)) (Go.bits .xor .i64 (wrap64 ((wrap64 (t177 * 256)) + t178)) (wrap64 ((wrap64 (t179 * 256)) + t180)))).bind fun t189 => ((impl_Mul16.f kj45 (wrap64 ((wrap64 (t175 * 256)) + t176)) (wrap64 ((wrap64 (t177 * 256)) + t178))).bind fun t190 => ((impl_Mul16.f kj45 (wrap64 ((wrap64 (t175 * 256)) + t176)) (wrap64 ((wrap64 (t179 * 256)) + t180))).bind fun t191 => (laws_FnField.j3 kj45 (wrap64 ((wrap64 (t175 * 256)) + t176)) (t189 != (Go.bits .xor .i64 t190 t191)))))) else (laws_FnField.j3 kj45 (wrap64 ((wrap64 (t175 * 256)) + t176)) true))))) = some r := H
                          have A85 := Aside0.mk A850
                          clear A850
                          replace H := Option.bind_eq_some_iff.mp H
                          obtain ⟨t186, A860, H⟩ := H
                          replace H : ((impl_Mul16.f kj45 (wrap64 ((wrap64 (t177 * 256)) + t178)) (wrap64 ((wrap64 (t179 * 256)) + t180))).bind fun t187 => ((impl_Mul16.f kj45 (wrap64 ((wrap64 (t175 * 256)) + t176)) t187).bind fun t188 => (if t186 = t188 then ((impl_Mul16.f kj45 (wrap64 ((wrap64 (t175 * 256)) + t176)) (Go.bits .xor .i64 (wrap64 ((wrap64 (t177 * 256)) + t178)) (wrap64 ((wrap64 (t179 * 256)) + t180)))).bind fun t189 => ((impl_Mul16.f kj45 (wrap64 ((wrap64 (t175 * 256)) + t176)) (wrap64 ((wrap64 (t177 * 256)) + t178))).bind fun t190 => ((impl_Mul16.f kj45 (wrap64 ((wrap64 (t175 * 256)) + t176)) (wrap64 ((wrap64 (t179 * 256)) + t180))).bind fun t191 => (laws_FnField.j3 kj45 (wrap64 ((wrap64 (t175 * 256)) + t176)) (t189 != (Go.bits .xor .i64 t190 t191)))))) else (laws_FnField.j3 kj45 (wrap64 ((wrap64 (t175 * 256)) + t176)) true)))) = some r := H
                          have A86 := Aside0.mk A860
                          clear A860
                          replace H := Option.bind_eq_some_iff.mp H
                          obtain ⟨t187, A870, H⟩ := H
                          replace H : ((impl_Mul16.f kj45 (wrap64 ((wrap64 (t175 * 256)) + t176)) t187).bind fun t188 => (if t186 = t188 then ((impl_Mul16.f kj45 (wrap64 ((wrap64 (t175 * 256)) + t176)) (Go.bits .xor .i64 (wrap64 ((wrap64 (t177 * 256)) + t178)) (wrap64 ((wrap64 (t179 * 256)) + t180)))).bind fun t189 => ((impl_Mul16.f kj45 (wrap64 ((wrap64 (t175 * 256)) + t176)) (wrap64 ((wrap64 (t177 * 256)) + t178))).bind fun t190 => ((impl_Mul16.f kj45 (wrap64 ((wrap64 (t175 * 256)) + t176)) (wrap64 ((wrap64 (t179 * 256)) + t180))).bind fun t191 => (laws_FnField.j3 kj45 (wrap64 ((wrap64 (t175 * 256)) + t176)) (t189 != (Go.bits .xor .i64 t190 t191)))))) else (laws_FnField.j3 kj45 (wrap64 ((wrap64 (t175 * 256)) + t176)) true))) = some r := H
                          have A87 := Aside0.mk A870
                          clear A870
                          replace H := Option.bind_eq_some_iff.mp H
                          obtain ⟨t188, A880, H⟩ := H
                          replace H : (if t186 = t188 then ((impl_Mul16.f kj45 (wrap64 ((wrap64 (t175 * 256)) + t176)) (Go.bits .xor .i64 (wrap64 ((wrap64 (t177 * 256)) + t178)) (wrap64 ((wrap64 (t179 * 256)) + t180)))).bind fun t189 => ((impl_Mul16.f kj45 (wrap64 ((wrap64 (t175 * 256)) + t176)) (wrap64 ((wrap64 (t177 * 256)) + t178))).bind fun t190 => ((impl_Mul16.f kj45 (wrap64 ((wrap64 (t175 * 256)) + t176)) (wrap64 ((wrap64 (t179 * 256)) + t180))).bind fun t191 => (laws_FnField.j3 kj45 (wrap64 ((wrap64 (t175 * 256)) + t176)) (t189 != (Go.bits .xor .i64 t190 t191)))))) else (laws_FnField.j3 kj45 (wrap64 ((wrap64 (t175 * 256)) + t176)) true)) = some r := H
                          have A88 := Aside0.mk A880
                          clear A880
                          by_cases c89 : t186 = t188
                          · rw [if_pos c89] at H
                            have c89b0 : (t186 == t188) = true := beq_iff_eq.mpr c89
                            have c89b1 : (t186 != t188) = false := bne_eq_false_iff_eq.mpr c89
                            clear c89
                            replace H := Option.bind_eq_some_iff.mp H
                            obtain ⟨t189, A900, H⟩ := H
                            replace H : ((impl_Mul16.f kj45 (wrap64 ((wrap64 (t175 * 256)) + t176)) (wrap64 ((wrap64 (t177 * 256)) + t178))).bind fun t190 => ((impl_Mul16.f kj45 (wrap64 ((wrap64 (t175 * 256)) + t176)) (wrap64 ((wrap64 (t179 * 256)) + t180))).bind fun t191 => (laws_FnField.j3 kj45 (wrap64 ((wrap64 (t175 * 256)) + t176)) (t189 != (Go.bits .xor .i64 t190 t191))))) = some r := H
                            have A90 := Aside0.mk A900
                            clear A900
                            replace H := Option.bind_eq_some_iff.mp H
                            obtain ⟨t190, A910, H⟩ := H
                            obtain rfl : t181 = t190 := Option.some.inj (A79.out.symm.trans A910)
                            replace H : ((impl_Mul16.f kj45 (wrap64 ((wrap64 (t175 * 256)) + t176)) (wrap64 ((wrap64 (t179 * 256)) + t180))).bind fun t191 => (laws_FnField.j3 kj45 (wrap64 ((wrap64 (t175 * 256)) + t176)) (t189 != (Go.bits .xor .i64 t181 t191)))) = some r := H
                            have A91 := Aside0.mk A910
                            clear A910
                            replace H := Option.bind_eq_some_iff.mp H
                            obtain ⟨t191, A920, H⟩ := H
                            replace H : (laws_FnField.j3 kj45 (wrap64 ((wrap64 (t175 * 256)) + t176)) (t189 != (Go.bits .xor .i64 t181 t191))) = some r := H
                            have A92 := Aside0.mk A920
                            clear A920
                            have H' := Aside0.mk H
                            clear H
                            go_wp2_with (first | ((with_reducible refine gate_callee (f := 24) rfl ?_); refine goesL_ (some 113) rfl rfl Try.func24 (by kernel_rfl) rfl #[.int .i64 (wrap64 ((wrap64 (t175 * 256)) + t176)), .int .i64 (wrap64 ((wrap64 (t177 * 256)) + t178))] rfl (by (try simp only [List.map_toArray, List.map_cons, List.map_nil]); first | done | rfl | (simp only [List.length_drop, List.length_take]; rfl)) ?_; (with_reducible refine (impl_Mul16.calls kj45 (wrap64 ((wrap64 (t175 * 256)) + t176)) (wrap64 ((wrap64 (t177 * 256)) + t178)) t181 _ A79.out).mono ?_); rintro e w93 ⟨rfl, hb⟩; refine ⟨_, rfl, ?_⟩; have n0_ := Aside0.mk (below_step (by repeat (first | (with_reducible first | exact HB.out | apply below_alloc | apply pw_below_drewN | apply below_drew1) | exact HB.out)) hb); clear HB; have HB := n0_; clear n0_; (try clear hb); (try clear hb2); (try clear hk); (try clear hi)) | ((with_reducible refine gate_callee (f := 25) rfl ?_); refine goesL_ (some 116) rfl rfl Try.func25 (by kernel_rfl) rfl #[.int .i64 (wrap64 ((wrap64 (t175 * 256)) + t176)), .int .i64 (wrap64 ((wrap64 (t177 * 256)) + t178))] rfl (by (try simp only [List.map_toArray, List.map_cons, List.map_nil]); first | done | rfl | (simp only [List.length_drop, List.length_take]; rfl)) ?_; (with_reducible refine (spec_Mul16.calls kj45 (wrap64 ((wrap64 (t175 * 256)) + t176)) (wrap64 ((wrap64 (t177 * 256)) + t178)) t182 _ A80.out).mono ?_); rintro e w' ⟨rfl, ⟨nd, rfl⟩⟩; refine ⟨_, rfl, ?_⟩) | (go_at_call 24; (with_reducible refine (impl_Mul16.calls kj45 (wrap64 ((wrap64 (t175 * 256)) + t176)) (wrap64 ((wrap64 (t177 * 256)) + t178)) t181 _ A82.out).mono ?_); rintro e w94 ⟨rfl, hb⟩; have n0_ := Aside0.mk (below_step (by repeat (first | (with_reducible first | exact HB.out | apply below_alloc | apply pw_below_drewN | apply below_drew1) | exact HB.out)) hb); clear HB; have HB := n0_; clear n0_; (try clear hb); (try clear hb2); (try clear hk); (try clear hi)) | (go_at_call 24; (with_reducible refine (impl_Mul16.calls kj45 (wrap64 ((wrap64 (t177 * 256)) + t178)) (wrap64 ((wrap64 (t175 * 256)) + t176)) t184 _ A83.out).mono ?_); rintro e w95 ⟨rfl, hb⟩; have n0_ := Aside0.mk (below_step (by repeat (first | (with_reducible first | exact HB.out | apply below_alloc | apply pw_below_drewN | apply below_drew1) | exact HB.out)) hb); clear HB; have HB := n0_; clear n0_; (try clear hb); (try clear hb2); (try clear hk); (try clear hi)) | (go_at_call 24; (with_reducible refine (impl_Mul16.calls kj45 (wrap64 ((wrap64 (t175 * 256)) + t176)) (wrap64 ((wrap64 (t177 * 256)) + t178)) t181 _ A85.out).mono ?_); rintro e w96 ⟨rfl, hb⟩; have n0_ := Aside0.mk (below_step (by repeat (first | (with_reducible first | exact HB.out | apply below_alloc | apply pw_below_drewN | apply below_drew1) | exact HB.out)) hb); clear HB; have HB := n0_; clear n0_; (try clear hb); (try clear hb2); (try clear hk); (try clear hi)) | (go_at_call 24; (with_reducible refine (impl_Mul16.calls kj45 t181 (wrap64 ((wrap64 (t179 * 256)) + t180)) t186 _ A86.out).mono ?_); rintro e w97 ⟨rfl, hb⟩; have n0_ := Aside0.mk (below_step (by repeat (first | (with_reducible first | exact HB.out | apply below_alloc | apply pw_below_drewN | apply below_drew1) | exact HB.out)) hb); clear HB; have HB := n0_; clear n0_; (try clear hb); (try clear hb2); (try clear hk); (try clear hi)) | (go_at_call 24; (with_reducible refine (impl_Mul16.calls kj45 (wrap64 ((wrap64 (t177 * 256)) + t178)) (wrap64 ((wrap64 (t179 * 256)) + t180)) t187 _ A87.out).mono ?_); rintro e w98 ⟨rfl, hb⟩; have n0_ := Aside0.mk (below_step (by repeat (first | (with_reducible first | exact HB.out | apply below_alloc | apply pw_below_drewN | apply below_drew1) | exact HB.out)) hb); clear HB; have HB := n0_; clear n0_; (try clear hb); (try clear hb2); (try clear hk); (try clear hi)) | (go_at_call 24; (with_reducible refine (impl_Mul16.calls kj45 (wrap64 ((wrap64 (t175 * 256)) + t176)) t187 t188 _ A88.out).mono ?_); rintro e w99 ⟨rfl, hb⟩; have n0_ := Aside0.mk (below_step (by repeat (first | (with_reducible first | exact HB.out | apply below_alloc | apply pw_below_drewN | apply below_drew1) | exact HB.out)) hb); clear HB; have HB := n0_; clear n0_; (try clear hb); (try clear hb2); (try clear hk); (try clear hi)) | (go_at_call 24; (with_reducible refine (impl_Mul16.calls kj45 (wrap64 ((wrap64 (t175 * 256)) + t176)) (Go.bits .xor .i64 (wrap64 ((wrap64 (t177 * 256)) + t178)) (wrap64 ((wrap64 (t179 * 256)) + t180))) t189 _ A90.out).mono ?_); rintro e w100 ⟨rfl, hb⟩; have n0_ := Aside0.mk (below_step (by repeat (first | (with_reducible first | exact HB.out | apply below_alloc | apply pw_below_drewN | apply below_drew1) | exact HB.out)) hb); clear HB; have HB := n0_; clear n0_; (try clear hb); (try clear hb2); (try clear hk); (try clear hi)) | (go_at_call 24; (with_reducible refine (impl_Mul16.calls kj45 (wrap64 ((wrap64 (t175 * 256)) + t176)) (wrap64 ((wrap64 (t177 * 256)) + t178)) t181 _ A91.out).mono ?_); rintro e w101 ⟨rfl, hb⟩; have n0_ := Aside0.mk (below_step (by repeat (first | (with_reducible first | exact HB.out | apply below_alloc | apply pw_below_drewN | apply below_drew1) | exact HB.out)) hb); clear HB; have HB := n0_; clear n0_; (try clear hb); (try clear hb2); (try clear hk); (try clear hi)) | (go_at_call 24; (with_reducible refine (impl_Mul16.calls kj45 (wrap64 ((wrap64 (t175 * 256)) + t176)) (wrap64 ((wrap64 (t179 * 256)) + t180)) t191 _ A92.out).mono ?_); rintro e w102 ⟨rfl, hb⟩; have n0_ := Aside0.mk (below_step (by repeat (first | (with_reducible first | exact HB.out | apply below_alloc | apply pw_below_drewN | apply below_drew1) | exact HB.out)) hb); clear HB; have HB := n0_; clear n0_; (try clear hb); (try clear hb2); (try clear hk); (try clear hi)))
                            go_meet
                            case rel => exact ⟨_, ((t189 != (Go.bits .xor .i64 t181 t191))), (by first | rfl | (simp; done) | (simp [*]; done)), H', ⟨by have := HJ2.out; have := HJ8.out; have := HJ45.out; first | omega | exact Nat.le_refl _⟩, ⟨by repeat (first | (with_reducible first | exact HB.out | apply below_alloc | apply pw_below_drewN | apply below_drew1) | exact HB.out)⟩⟩
                          · rw [if_neg c89] at H
                            have c89b0 : (t186 == t188) = false := beq_eq_false_iff_ne.mpr c89
                            have c89b1 : (t186 != t188) = true := bne_iff_ne.mpr c89
                            have H' := Aside0.mk H
                            clear H
                            go_wp2_with (first | ((with_reducible refine gate_callee (f := 24) rfl ?_); refine goesL_ (some 113) rfl rfl Try.func24 (by kernel_rfl) rfl #[.int .i64 (wrap64 ((wrap64 (t175 * 256)) + t176)), .int .i64 (wrap64 ((wrap64 (t177 * 256)) + t178))] rfl (by (try simp only [List.map_toArray, List.map_cons, List.map_nil]); first | done | rfl | (simp only [List.length_drop, List.length_take]; rfl)) ?_; (with_reducible refine (impl_Mul16.calls kj45 (wrap64 ((wrap64 (t175 * 256)) + t176)) (wrap64 ((wrap64 (t177 * 256)) + t178)) t181 _ A79.out).mono ?_); rintro e w103 ⟨rfl, hb⟩; refine ⟨_, rfl, ?_⟩; have n0_ := Aside0.mk (below_step (by repeat (first | (with_reducible first | exact HB.out | apply below_alloc | apply pw_below_drewN | apply below_drew1) | exact HB.out)) hb); clear HB; have HB := n0_; clear n0_; (try clear hb); (try clear hb2); (try clear hk); (try clear hi)) | ((with_reducible refine gate_callee (f := 25) rfl ?_); refine goesL_ (some 116) rfl rfl Try.func25 (by kernel_rfl) rfl #[.int .i64 (wrap64 ((wrap64 (t175 * 256)) + t176)), .int .i64 (wrap64 ((wrap64 (t177 * 256)) + t178))] rfl (by (try simp only [List.map_toArray, List.map_cons, List.map_nil]); first | done | rfl | (simp only [List.length_drop, List.length_take]; rfl)) ?_; (with_reducible refine (spec_Mul16.calls kj45 (wrap64 ((wrap64 (t175 * 256)) + t176)) (wrap64 ((wrap64 (t177 * 256)) + t178)) t182 _ A80.out).mono ?_); rintro e w' ⟨rfl, ⟨nd, rfl⟩⟩; refine ⟨_, rfl, ?_⟩) | (go_at_call 24; (with_reducible refine (impl_Mul16.calls kj45 (wrap64 ((wrap64 (t175 * 256)) + t176)) (wrap64 ((wrap64 (t177 * 256)) + t178)) t181 _ A82.out).mono ?_); rintro e w104 ⟨rfl, hb⟩; have n0_ := Aside0.mk (below_step (by repeat (first | (with_reducible first | exact HB.out | apply below_alloc | apply pw_below_drewN | apply below_drew1) | exact HB.out)) hb); clear HB; have HB := n0_; clear n0_; (try clear hb); (try clear hb2); (try clear hk); (try clear hi)) | (go_at_call 24; (with_reducible refine (impl_Mul16.calls kj45 (wrap64 ((wrap64 (t177 * 256)) + t178)) (wrap64 ((wrap64 (t175 * 256)) + t176)) t184 _ A83.out).mono ?_); rintro e w105 ⟨rfl, hb⟩; have n0_ := Aside0.mk (below_step (by repeat (first | (with_reducible first | exact HB.out | apply below_alloc | apply pw_below_drewN | apply below_drew1) | exact HB.out)) hb); clear HB; have HB := n0_; clear n0_; (try clear hb); (try clear hb2); (try clear hk); (try clear hi)) | (go_at_call 24; (with_reducible refine (impl_Mul16.calls kj45 (wrap64 ((wrap64 (t175 * 256)) + t176)) (wrap64 ((wrap64 (t177 * 256)) + t178)) t181 _ A85.out).mono ?_); rintro e w106 ⟨rfl, hb⟩; have n0_ := Aside0.mk (below_step (by repeat (first | (with_reducible first | exact HB.out | apply below_alloc | apply pw_below_drewN | apply below_drew1) | exact HB.out)) hb); clear HB; have HB := n0_; clear n0_; (try clear hb); (try clear hb2); (try clear hk); (try clear hi)) | (go_at_call 24; (with_reducible refine (impl_Mul16.calls kj45 t181 (wrap64 ((wrap64 (t179 * 256)) + t180)) t186 _ A86.out).mono ?_); rintro e w107 ⟨rfl, hb⟩; have n0_ := Aside0.mk (below_step (by repeat (first | (with_reducible first | exact HB.out | apply below_alloc | apply pw_below_drewN | apply below_drew1) | exact HB.out)) hb); clear HB; have HB := n0_; clear n0_; (try clear hb); (try clear hb2); (try clear hk); (try clear hi)) | (go_at_call 24; (with_reducible refine (impl_Mul16.calls kj45 (wrap64 ((wrap64 (t177 * 256)) + t178)) (wrap64 ((wrap64 (t179 * 256)) + t180)) t187 _ A87.out).mono ?_); rintro e w108 ⟨rfl, hb⟩; have n0_ := Aside0.mk (below_step (by repeat (first | (with_reducible first | exact HB.out | apply below_alloc | apply pw_below_drewN | apply below_drew1) | exact HB.out)) hb); clear HB; have HB := n0_; clear n0_; (try clear hb); (try clear hb2); (try clear hk); (try clear hi)) | (go_at_call 24; (with_reducible refine (impl_Mul16.calls kj45 (wrap64 ((wrap64 (t175 * 256)) + t176)) t187 t188 _ A88.out).mono ?_); rintro e w109 ⟨rfl, hb⟩; have n0_ := Aside0.mk (below_step (by repeat (first | (with_reducible first | exact HB.out | apply below_alloc | apply pw_below_drewN | apply below_drew1) | exact HB.out)) hb); clear HB; have HB := n0_; clear n0_; (try clear hb); (try clear hb2); (try clear hk); (try clear hi)))
                            go_meet
                            case rel => exact ⟨_, (true), (by first | rfl | (simp; done) | (simp [*]; done)), H', ⟨by have := HJ2.out; have := HJ8.out; have := HJ45.out; first | omega | exact Nat.le_refl _⟩, ⟨by repeat (first | (with_reducible first | exact HB.out | apply below_alloc | apply pw_below_drewN | apply below_drew1) | exact HB.out)⟩⟩
                        · rw [if_neg c84] at H
                          have c84b0 : (t181 == t184) = false := beq_eq_false_iff_ne.mpr c84
                          have c84b1 : (t181 != t184) = true := bne_iff_ne.mpr c84
                          have H' := Aside0.mk H
                          clear H
                          go_wp2_with (first | ((with_reducible refine gate_callee (f := 24) rfl ?_); refine goesL_ (some 113) rfl rfl Try.func24 (by kernel_rfl) rfl #[.int .i64 (wrap64 ((wrap64 (t175 * 256)) + t176)), .int .i64 (wrap64 ((wrap64 (t177 * 256)) + t178))] rfl (by (try simp only [List.map_toArray, List.map_cons, List.map_nil]); first | done | rfl | (simp only [List.length_drop, List.length_take]; rfl)) ?_; (with_reducible refine (impl_Mul16.calls kj45 (wrap64 ((wrap64 (t175 * 256)) + t176)) (wrap64 ((wrap64 (t177 * 256)) + t178)) t181 _ A79.out).mono ?_); rintro e w110 ⟨rfl, hb⟩; refine ⟨_, rfl, ?_⟩; have n0_ := Aside0.mk (below_step (by repeat (first | (with_reducible first | exact HB.out | apply below_alloc | apply pw_below_drewN | apply below_drew1) | exact HB.out)) hb); clear HB; have HB := n0_; clear n0_; (try clear hb); (try clear hb2); (try clear hk); (try clear hi)) | ((with_reducible refine gate_callee (f := 25) rfl ?_); refine goesL_ (some 116) rfl rfl Try.func25 (by kernel_rfl) rfl #[.int .i64 (wrap64 ((wrap64 (t175 * 256)) + t176)), .int .i64 (wrap64 ((wrap64 (t177 * 256)) + t178))] rfl (by (try simp only [List.map_toArray, List.map_cons, List.map_nil]); first | done | rfl | (simp only [List.length_drop, List.length_take]; rfl)) ?_; (with_reducible refine (spec_Mul16.calls kj45 (wrap64 ((wrap64 (t175 * 256)) + t176)) (wrap64 ((wrap64 (t177 * 256)) + t178)) t182 _ A80.out).mono ?_); rintro e w' ⟨rfl, ⟨nd, rfl⟩⟩; refine ⟨_, rfl, ?_⟩) | (go_at_call 24; (with_reducible refine (impl_Mul16.calls kj45 (wrap64 ((wrap64 (t175 * 256)) + t176)) (wrap64 ((wrap64 (t177 * 256)) + t178)) t181 _ A82.out).mono ?_); rintro e w111 ⟨rfl, hb⟩; have n0_ := Aside0.mk (below_step (by repeat (first | (with_reducible first | exact HB.out | apply below_alloc | apply pw_below_drewN | apply below_drew1) | exact HB.out)) hb); clear HB; have HB := n0_; clear n0_; (try clear hb); (try clear hb2); (try clear hk); (try clear hi)) | (go_at_call 24; (with_reducible refine (impl_Mul16.calls kj45 (wrap64 ((wrap64 (t177 * 256)) + t178)) (wrap64 ((wrap64 (t175 * 256)) + t176)) t184 _ A83.out).mono ?_); rintro e w112 ⟨rfl, hb⟩; have n0_ := Aside0.mk (below_step (by repeat (first | (with_reducible first | exact HB.out | apply below_alloc | apply pw_below_drewN | apply below_drew1) | exact HB.out)) hb); clear HB; have HB := n0_; clear n0_; (try clear hb); (try clear hb2); (try clear hk); (try clear hi)))
                          go_meet
                          case rel => exact ⟨_, (true), (by first | rfl | (simp; done) | (simp [*]; done)), H', ⟨by have := HJ2.out; have := HJ8.out; have := HJ45.out; first | omega | exact Nat.le_refl _⟩, ⟨by repeat (first | (with_reducible first | exact HB.out | apply below_alloc | apply pw_below_drewN | apply below_drew1) | exact HB.out)⟩⟩
                      · rw [if_neg c81] at H
                        have c81b0 : (t181 == t182) = false := beq_eq_false_iff_ne.mpr c81
                        have c81b1 : (t181 != t182) = true := bne_iff_ne.mpr c81
                        (first | rw [c81b0] | (simp only [i64_w, i32_w]; rw [c81b0]) | skip)
                        have H' := Aside0.mk H
                        clear H
                        go_wp2_with (first | ((with_reducible refine gate_callee (f := 24) rfl ?_); refine goesL_ (some 113) rfl rfl Try.func24 (by kernel_rfl) rfl #[.int .i64 (wrap64 ((wrap64 (t175 * 256)) + t176)), .int .i64 (wrap64 ((wrap64 (t177 * 256)) + t178))] rfl (by (try simp only [List.map_toArray, List.map_cons, List.map_nil]); first | done | rfl | (simp only [List.length_drop, List.length_take]; rfl)) ?_; (with_reducible refine (impl_Mul16.calls kj45 (wrap64 ((wrap64 (t175 * 256)) + t176)) (wrap64 ((wrap64 (t177 * 256)) + t178)) t181 _ A79.out).mono ?_); rintro e w113 ⟨rfl, hb⟩; refine ⟨_, rfl, ?_⟩; have n0_ := Aside0.mk (below_step (by repeat (first | (with_reducible first | exact HB.out | apply below_alloc | apply pw_below_drewN | apply below_drew1) | exact HB.out)) hb); clear HB; have HB := n0_; clear n0_; (try clear hb); (try clear hb2); (try clear hk); (try clear hi)) | ((with_reducible refine gate_callee (f := 25) rfl ?_); refine goesL_ (some 116) rfl rfl Try.func25 (by kernel_rfl) rfl #[.int .i64 (wrap64 ((wrap64 (t175 * 256)) + t176)), .int .i64 (wrap64 ((wrap64 (t177 * 256)) + t178))] rfl (by (try simp only [List.map_toArray, List.map_cons, List.map_nil]); first | done | rfl | (simp only [List.length_drop, List.length_take]; rfl)) ?_; (with_reducible refine (spec_Mul16.calls kj45 (wrap64 ((wrap64 (t175 * 256)) + t176)) (wrap64 ((wrap64 (t177 * 256)) + t178)) t182 _ A80.out).mono ?_); rintro e w' ⟨rfl, ⟨nd, rfl⟩⟩; refine ⟨_, rfl, ?_⟩))
                        go_meet
                        case rel => exact ⟨_, (true), (by first | rfl | (simp; done) | (simp [*]; done)), H', ⟨by have := HJ2.out; have := HJ8.out; have := HJ45.out; first | omega | exact Nat.le_refl _⟩, ⟨by repeat (first | (with_reducible first | exact HB.out | apply below_alloc | apply pw_below_drewN | apply below_drew1) | exact HB.out)⟩⟩
                    case rest =>
                      clear HC78
                      try clear c1
                      try clear c2
                      try clear p2
                      try clear c4
                      try clear c4b0
                      try clear c4b1
                      try clear c5
                      try clear p6
                      try clear c7
                      try clear c8
                      try clear c12
                      try clear c12b0
                      try clear c12b1
                      try clear c15
                      try clear c15b0
                      try clear c15b1
                      try clear c19
                      try clear c20
                      try clear c20b0
                      try clear c20b1
                      try clear c21
                      try clear c24
                      try clear c25
                      try clear c45
                      try clear c47
                      try clear c47b0
                      try clear c50
                      try clear c50b0
                      try clear c50b1
                      try clear p64
                      try clear c71
                      try clear c81
                      try clear c81b0
                      try clear c81b1
                      try clear c84
                      try clear c84b0
                      try clear c84b1
                      try clear c89
                      try clear c89b0
                      try clear c89b1
                      try clear p2
                      try clear p6
                      try clear p64
                      obtain ⟨kq, x154_77, rfl, HA, HJ77, HB⟩ := hcut
                      cases kq with
                      | zero => exact absurd HA.out (by simp [laws_FnField.j3])
                      | succ kj77 =>
                        have H := HA.out
                        clear HA
                        simp only [laws_FnField.j3] at H
                        by_cases c114 : x154_77 = true
                        · subst c114
                          have H1 : (some false) = some r := by rw [if_pos rfl] at H; exact H
                          clear H
                          have H := H1
                          clear H1
                          obtain rfl := Option.some.inj H
                          go_wp2
                          go_ret
                          exact ⟨by first | rfl | (simp [errW_none, errW_some] <;> rfl) | (simp [*, errW_none, errW_some] <;> rfl), by repeat (first | (with_reducible first | exact HB.out | apply below_alloc | apply pw_below_drewN | apply below_drew1) | exact HB.out)⟩
                        · replace c114 := Bool.eq_false_iff.mpr c114
                          subst c114
                          have H1 : (if (wrap64 ((wrap64 (t175 * 256)) + t176)) = 0 then (some true) else ((impl_Inv16.f kj77 (wrap64 ((wrap64 (t175 * 256)) + t176))).bind fun t192 => ((impl_Mul16.f kj77 (wrap64 ((wrap64 (t175 * 256)) + t176)) t192).bind fun t193 => (some (t193 == 1))))) = some r := by rw [if_neg (show ¬ (false = true) by decide)] at H; exact H
                          clear H
                          have H := H1
                          clear H1
                          by_cases c115 : (wrap64 ((wrap64 (t175 * 256)) + t176)) = 0
                          · rw [if_pos c115] at H
                            have c115b0 : ((wrap64 ((wrap64 (t175 * 256)) + t176)) == 0) = true := beq_iff_eq.mpr c115
                            have c115b1 : ((wrap64 ((wrap64 (t175 * 256)) + t176)) != 0) = false := bne_eq_false_iff_eq.mpr c115
                            clear c115
                            obtain rfl := Option.some.inj H
                            go_wp2
                            go_ret
                            exact ⟨by first | rfl | (simp [errW_none, errW_some] <;> rfl) | (simp [*, errW_none, errW_some] <;> rfl), by repeat (first | (with_reducible first | exact HB.out | apply below_alloc | apply pw_below_drewN | apply below_drew1) | exact HB.out)⟩
                          · rw [if_neg c115] at H
                            have c115b0 : ((wrap64 ((wrap64 (t175 * 256)) + t176)) == 0) = false := beq_eq_false_iff_ne.mpr c115
                            have c115b1 : ((wrap64 ((wrap64 (t175 * 256)) + t176)) != 0) = true := bne_iff_ne.mpr c115
                            replace H := Option.bind_eq_some_iff.mp H
                            obtain ⟨t192, A1160, H⟩ := H
                            replace H : ((impl_Mul16.f kj77 (wrap64 ((wrap64 (t175 * 256)) + t176)) t192).bind fun t193 => (some (t193 == 1))) = some r := H
                            have A116 := Aside0.mk A1160
                            clear A1160
                            replace H := Option.bind_eq_some_iff.mp H
                            obtain ⟨t193, A1170, H⟩ := H
                            replace H : (some (t193 == 1)) = some r := H
                            have A117 := Aside0.mk A1170
                            clear A1170
                            obtain rfl := Option.some.inj H
                            go_wp2_with (first | (go_at_call 26; (with_reducible refine (impl_Inv16.calls kj77 (wrap64 ((wrap64 (t175 * 256)) + t176)) t192 _ A116.out).mono ?_); rintro e w118 ⟨rfl, hb⟩; have n0_ := Aside0.mk (below_step (by repeat (first | (with_reducible first | exact HB.out | apply below_alloc | apply pw_below_drewN | apply below_drew1) | exact HB.out)) hb); clear HB; have HB := n0_; clear n0_; (try clear hb); (try clear hb2); (try clear hk); (try clear hi)) | (go_at_call 24; (with_reducible refine (impl_Mul16.calls kj77 (wrap64 ((wrap64 (t175 * 256)) + t176)) t192 t193 _ A117.out).mono ?_); rintro e w119 ⟨rfl, hb⟩; have n0_ := Aside0.mk (below_step (by repeat (first | (with_reducible first | exact HB.out | apply below_alloc | apply pw_below_drewN | apply below_drew1) | exact HB.out)) hb); clear HB; have HB := n0_; clear n0_; (try clear hb); (try clear hb2); (try clear hk); (try clear hi)))
                            go_ret
                            exact ⟨by first | rfl | (simp [errW_none, errW_some] <;> rfl) | (simp [*, errW_none, errW_some] <;> rfl), by repeat (first | (with_reducible first | exact HB.out | apply below_alloc | apply pw_below_drewN | apply below_drew1) | exact HB.out)⟩

/-- THE ONE PURE STATEMENT of laws_FnField: yours. -/
def laws_FnField.Pure : Prop := ∀ (l0 : List Int) (l1 : List Int), l0.length ≤ maxLen → l0.length * 1 ≤ 140737488351232 → (∀ x ∈ l0, (Lit.int .u8 x).wf = true) → l1.length ≤ maxLen → l1.length * 1 ≤ 140737488351232 → (∀ x ∈ l1, (Lit.int .u8 x).wf = true) → ∃ k, laws_FnField.f k l0 l1 = some true
theorem laws_FnField.walk (P : laws_FnField.Pure) (a0 : Option Addr) (len0 cap0 : Nat) (z0 : List Int) (a1 : Option Addr) (len1 cap1 : Nat) (z1 : List Int) (w : World) (w0 : (a0 = none ∧ len0 = 0 ∧ cap0 = 0 ∧ z0 = []) ∨ ∃ x, a0 = some x ∧ len0 ≤ cap0 ∧ cap0 ≤ maxLen ∧ z0.length = cap0 ∧ (∀ i, i < z0.length → w.cell? (x.add i) = some (.int .u8 (z0.getD i 0))) ∧ ∀ n ∈ z0, (Lit.int .u8 n).wf = true) (y0 : len0 * 1 ≤ 140737488351232) (w1 : (a1 = none ∧ len1 = 0 ∧ cap1 = 0 ∧ z1 = []) ∨ ∃ x, a1 = some x ∧ len1 ≤ cap1 ∧ cap1 ≤ maxLen ∧ z1.length = cap1 ∧ (∀ i, i < z1.length → w.cell? (x.add i) = some (.int .u8 (z1.getD i 0))) ∧ ∀ n ∈ z1, (Lit.int .u8 n).wf = true) (y1 : len1 * 1 ≤ 140737488351232) :
    Calls Try.prog 4 #[.slice a0 len0 cap0, .slice a1 len1 cap1] w fun e w' => e = .returned (.bool true) ∧ Below w.heap.size w w' := by
  obtain ⟨l0, rfl, hr0, hm0, hw0, hc0⟩ := ReadsInt.ofRowC w0
  obtain ⟨l1, rfl, hr1, hm1, hw1, hc1⟩ := ReadsInt.ofRowC w1
  obtain ⟨k, h⟩ := P l0 l1 hm0 y0 hw0 hm1 y1 hw1
  refine (laws_FnField.calls k _ _ l0 _ _ l1 true w (Kd.C_of_reads (d := (0 : Int)) (h1 := fun _ => rfl) hr0) hc0 (Kd.C_of_reads (d := (0 : Int)) (h1 := fun _ => rfl) hr1) hc1 h).mono ?_
  rintro e w' ⟨rfl, hd⟩
  exact ⟨rfl, hd⟩

end Go.Proofs.Ytimfdodgecehgaa.QFnField
