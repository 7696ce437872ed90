-- A text of this session, printed by a program of its own (wip/tools: xpatch.py, xprint.sh, mkq.py). No condition.
import Derived.Test.YtepnjhmdcaolkaaDoorV0
import Derived.Test.YtepnjhmdcaolkaaDoorQFnExactWriteRequestx0
namespace Go.Proofs.YtepnjhmdcaolkaaDoor.QFnExactWriteRequest
open Go.RowKit Go.Proofs.YtepnjhmdcaolkaaDoorW.PrintWords Go.Proofs.YtepnjhmdcaolkaaDoorW.PrintLast Go.Proofs.YtepnjhmdcaolkaaDoorW.PrintMore
attribute [local go_sem] max2_int min2_int max_two min_two max_three min_three max_four min_four   -- for this text's walks alone
set_option linter.unusedVariables false
set_option linter.unusedSimpArgs false

/-! ### spec_l10Plain: function 83 -/
def spec_l10Plain.f (a0 : Int) : Option (Bool) := if a0 ≥ 97 then (if a0 ≤ 122 then (some true) else (if a0 ≥ 65 then (if a0 ≤ 90 then (some true) else (if a0 ≥ 48 then (if a0 ≤ 57 then (some true) else (if a0 = 45 then (some true) else (if a0 = 95 then (some true) else (if a0 = 46 then (some true) else (some (a0 == 47)))))) else (if a0 = 45 then (some true) else (if a0 = 95 then (some true) else (if a0 = 46 then (some true) else (some (a0 == 47))))))) else (if a0 ≥ 48 then (if a0 ≤ 57 then (some true) else (if a0 = 45 then (some true) else (if a0 = 95 then (some true) else (if a0 = 46 then (some true) else (some (a0 == 47)))))) else (if a0 = 45 then (some true) else (if a0 = 95 then (some true) else (if a0 = 46 then (some true) else (some (a0 == 47)))))))) else (if a0 ≥ 65 then (if a0 ≤ 90 then (some true) else (if a0 ≥ 48 then (if a0 ≤ 57 then (some true) else (if a0 = 45 then (some true) else (if a0 = 95 then (some true) else (if a0 = 46 then (some true) else (some (a0 == 47)))))) else (if a0 = 45 then (some true) else (if a0 = 95 then (some true) else (if a0 = 46 then (some true) else (some (a0 == 47))))))) else (if a0 ≥ 48 then (if a0 ≤ 57 then (some true) else (if a0 = 45 then (some true) else (if a0 = 95 then (some true) else (if a0 = 46 then (some true) else (some (a0 == 47)))))) else (if a0 = 45 then (some true) else (if a0 = 95 then (some true) else (if a0 = 46 then (some true) else (some (a0 == 47)))))))
set_option maxHeartbeats 8000000 in
set_option maxRecDepth 100000 in
theorem spec_l10Plain.calls (a0 : Int) (r : Bool) (w : World) (h : spec_l10Plain.f a0 = some r) :
  Calls Tryd.prog 83 #[.int .u8 a0] w fun e w' => e = .returned (.bool r) ∧ Drawn0 w w' := by
 have H : (if a0 ≥ 97 then (if a0 ≤ 122 then (some true) else (if a0 ≥ 65 then (if a0 ≤ 90 then (some true) else (if a0 ≥ 48 then (if a0 ≤ 57 then (some true) else (if a0 = 45 then (some true) else (if a0 = 95 then (some true) else (if a0 = 46 then (some true) else (some (a0 == 47)))))) else (if a0 = 45 then (some true) else (if a0 = 95 then (some true) else (if a0 = 46 then (some true) else (some (a0 == 47))))))) else (if a0 ≥ 48 then (if a0 ≤ 57 then (some true) else (if a0 = 45 then (some true) else (if a0 = 95 then (some true) else (if a0 = 46 then (some true) else (some (a0 == 47)))))) else (if a0 = 45 then (some true) else (if a0 = 95 then (some true) else (if a0 = 46 then (some true) else (some (a0 == 47)))))))) else (if a0 ≥ 65 then (if a0 ≤ 90 then (some true) else (if a0 ≥ 48 then (if a0 ≤ 57 then (some true) else (if a0 = 45 then (some true) else (if a0 = 95 then (some true) else (if a0 = 46 then (some true) else (some (a0 == 47)))))) else (if a0 = 45 then (some true) else (if a0 = 95 then (some true) else (if a0 = 46 then (some true) else (some (a0 == 47))))))) else (if a0 ≥ 48 then (if a0 ≤ 57 then (some true) else (if a0 = 45 then (some true) else (if a0 = 95 then (some true) else (if a0 = 46 then (some true) else (some (a0 == 47)))))) else (if a0 = 45 then (some true) else (if a0 = 95 then (some true) else (if a0 = 46 then (some true) else (some (a0 == 47)))))))) = some r := h
 clear h
 by_cases c2 : a0 ≥ 97
 rotate_left
 ·
  rw [if_neg c2] at H
  have c2b0 : decide (97 ≤ a0) = false := decide_eq_false c2
  clear c2
  by_cases c22 : a0 ≥ 65
  rotate_left
  ·
   rw [if_neg c22] at H
   have c22b0 : decide (65 ≤ a0) = false := decide_eq_false c22
   clear c22
   by_cases c32 : a0 ≥ 48
   rotate_left
   ·
    rw [if_neg c32] at H
    have c32b0 : decide (48 ≤ a0) = false := decide_eq_false c32
    clear c32
    by_cases c37 : a0 = 45
    ·
     rw [if_pos c37] at H
     have c37b0 : (a0 == 45) = true := beq_iff_eq.mpr c37
     have c37b1 : (a0 != 45) = false := bne_eq_false_iff_eq.mpr c37
     clear c37
     obtain rfl := Option.some.inj H
     go_enter Tryd.func83, Tryd.ntmps83
     go_wp2
     go_ret
     exact ⟨by first | rfl | (simp; done) | (simp [*]; done), by repeat (first | exact Drawn0.refl _ | apply Drawn0.step)⟩
    rw [if_neg c37] at H
    have c37b0 : (a0 == 45) = false := beq_eq_false_iff_ne.mpr c37
    have c37b1 : (a0 != 45) = true := bne_iff_ne.mpr c37
    by_cases c38 : a0 = 95
    ·
     rw [if_pos c38] at H
     have c38b0 : (a0 == 95) = true := beq_iff_eq.mpr c38
     have c38b1 : (a0 != 95) = false := bne_eq_false_iff_eq.mpr c38
     clear c38
     obtain rfl := Option.some.inj H
     go_enter Tryd.func83, Tryd.ntmps83
     go_wp2
     go_ret
     exact ⟨by first | rfl | (simp; done) | (simp [*]; done), by repeat (first | exact Drawn0.refl _ | apply Drawn0.step)⟩
    rw [if_neg c38] at H
    have c38b0 : (a0 == 95) = false := beq_eq_false_iff_ne.mpr c38
    have c38b1 : (a0 != 95) = true := bne_iff_ne.mpr c38
    by_cases c39 : a0 = 46
    rotate_left
    ·
     rw [if_neg c39] at H
     have c39b0 : (a0 == 46) = false := beq_eq_false_iff_ne.mpr c39
     have c39b1 : (a0 != 46) = true := bne_iff_ne.mpr c39
     obtain rfl := Option.some.inj H
     go_enter Tryd.func83, Tryd.ntmps83
     go_wp2
     go_ret
     exact ⟨by first | rfl | (simp; done) | (simp [*]; done), by repeat (first | exact Drawn0.refl _ | apply Drawn0.step)⟩
    rw [if_pos c39] at H
    have c39b0 : (a0 == 46) = true := beq_iff_eq.mpr c39
    have c39b1 : (a0 != 46) = false := bne_eq_false_iff_eq.mpr c39
    clear c39
    obtain rfl := Option.some.inj H
    go_enter Tryd.func83, Tryd.ntmps83
    go_wp2
    go_ret
    exact ⟨by first | rfl | (simp; done) | (simp [*]; done), by repeat (first | exact Drawn0.refl _ | apply Drawn0.step)⟩
   rw [if_pos c32] at H
   have c32b0 : decide (48 ≤ a0) = true := decide_eq_true c32
   clear c32
   by_cases c33 : a0 ≤ 57
   ·
    rw [if_pos c33] at H
    have c33b0 : decide (a0 ≤ 57) = true := decide_eq_true c33
    clear c33
    obtain rfl := Option.some.inj H
    go_enter Tryd.func83, Tryd.ntmps83
    go_wp2
    go_ret
    exact ⟨by first | rfl | (simp; done) | (simp [*]; done), by repeat (first | exact Drawn0.refl _ | apply Drawn0.step)⟩
   rw [if_neg c33] at H
   have c33b0 : decide (a0 ≤ 57) = false := decide_eq_false c33
   clear c33
   by_cases c34 : a0 = 45
   ·
    rw [if_pos c34] at H
    have c34b0 : (a0 == 45) = true := beq_iff_eq.mpr c34
    have c34b1 : (a0 != 45) = false := bne_eq_false_iff_eq.mpr c34
    clear c34
    obtain rfl := Option.some.inj H
    go_enter Tryd.func83, Tryd.ntmps83
    go_wp2
    go_ret
    exact ⟨by first | rfl | (simp; done) | (simp [*]; done), by repeat (first | exact Drawn0.refl _ | apply Drawn0.step)⟩
   rw [if_neg c34] at H
   have c34b0 : (a0 == 45) = false := beq_eq_false_iff_ne.mpr c34
   have c34b1 : (a0 != 45) = true := bne_iff_ne.mpr c34
   by_cases c35 : a0 = 95
   ·
    rw [if_pos c35] at H
    have c35b0 : (a0 == 95) = true := beq_iff_eq.mpr c35
    have c35b1 : (a0 != 95) = false := bne_eq_false_iff_eq.mpr c35
    clear c35
    obtain rfl := Option.some.inj H
    go_enter Tryd.func83, Tryd.ntmps83
    go_wp2
    go_ret
    exact ⟨by first | rfl | (simp; done) | (simp [*]; done), by repeat (first | exact Drawn0.refl _ | apply Drawn0.step)⟩
   rw [if_neg c35] at H
   have c35b0 : (a0 == 95) = false := beq_eq_false_iff_ne.mpr c35
   have c35b1 : (a0 != 95) = true := bne_iff_ne.mpr c35
   by_cases c36 : a0 = 46
   rotate_left
   ·
    rw [if_neg c36] at H
    have c36b0 : (a0 == 46) = false := beq_eq_false_iff_ne.mpr c36
    have c36b1 : (a0 != 46) = true := bne_iff_ne.mpr c36
    obtain rfl := Option.some.inj H
    go_enter Tryd.func83, Tryd.ntmps83
    go_wp2
    go_ret
    exact ⟨by first | rfl | (simp; done) | (simp [*]; done), by repeat (first | exact Drawn0.refl _ | apply Drawn0.step)⟩
   rw [if_pos c36] at H
   have c36b0 : (a0 == 46) = true := beq_iff_eq.mpr c36
   have c36b1 : (a0 != 46) = false := bne_eq_false_iff_eq.mpr c36
   clear c36
   obtain rfl := Option.some.inj H
   go_enter Tryd.func83, Tryd.ntmps83
   go_wp2
   go_ret
   exact ⟨by first | rfl | (simp; done) | (simp [*]; done), by repeat (first | exact Drawn0.refl _ | apply Drawn0.step)⟩
  rw [if_pos c22] at H
  have c22b0 : decide (65 ≤ a0) = true := decide_eq_true c22
  clear c22
  by_cases c23 : a0 ≤ 90
  ·
   rw [if_pos c23] at H
   have c23b0 : decide (a0 ≤ 90) = true := decide_eq_true c23
   clear c23
   obtain rfl := Option.some.inj H
   go_enter Tryd.func83, Tryd.ntmps83
   go_wp2
   go_ret
   exact ⟨by first | rfl | (simp; done) | (simp [*]; done), by repeat (first | exact Drawn0.refl _ | apply Drawn0.step)⟩
  rw [if_neg c23] at H
  have c23b0 : decide (a0 ≤ 90) = false := decide_eq_false c23
  clear c23
  by_cases c24 : a0 ≥ 48
  rotate_left
  ·
   rw [if_neg c24] at H
   have c24b0 : decide (48 ≤ a0) = false := decide_eq_false c24
   clear c24
   by_cases c29 : a0 = 45
   ·
    rw [if_pos c29] at H
    have c29b0 : (a0 == 45) = true := beq_iff_eq.mpr c29
    have c29b1 : (a0 != 45) = false := bne_eq_false_iff_eq.mpr c29
    clear c29
    obtain rfl := Option.some.inj H
    go_enter Tryd.func83, Tryd.ntmps83
    go_wp2
    go_ret
    exact ⟨by first | rfl | (simp; done) | (simp [*]; done), by repeat (first | exact Drawn0.refl _ | apply Drawn0.step)⟩
   rw [if_neg c29] at H
   have c29b0 : (a0 == 45) = false := beq_eq_false_iff_ne.mpr c29
   have c29b1 : (a0 != 45) = true := bne_iff_ne.mpr c29
   by_cases c30 : a0 = 95
   ·
    rw [if_pos c30] at H
    have c30b0 : (a0 == 95) = true := beq_iff_eq.mpr c30
    have c30b1 : (a0 != 95) = false := bne_eq_false_iff_eq.mpr c30
    clear c30
    obtain rfl := Option.some.inj H
    go_enter Tryd.func83, Tryd.ntmps83
    go_wp2
    go_ret
    exact ⟨by first | rfl | (simp; done) | (simp [*]; done), by repeat (first | exact Drawn0.refl _ | apply Drawn0.step)⟩
   rw [if_neg c30] at H
   have c30b0 : (a0 == 95) = false := beq_eq_false_iff_ne.mpr c30
   have c30b1 : (a0 != 95) = true := bne_iff_ne.mpr c30
   by_cases c31 : a0 = 46
   rotate_left
   ·
    rw [if_neg c31] at H
    have c31b0 : (a0 == 46) = false := beq_eq_false_iff_ne.mpr c31
    have c31b1 : (a0 != 46) = true := bne_iff_ne.mpr c31
    obtain rfl := Option.some.inj H
    go_enter Tryd.func83, Tryd.ntmps83
    go_wp2
    go_ret
    exact ⟨by first | rfl | (simp; done) | (simp [*]; done), by repeat (first | exact Drawn0.refl _ | apply Drawn0.step)⟩
   rw [if_pos c31] at H
   have c31b0 : (a0 == 46) = true := beq_iff_eq.mpr c31
   have c31b1 : (a0 != 46) = false := bne_eq_false_iff_eq.mpr c31
   clear c31
   obtain rfl := Option.some.inj H
   go_enter Tryd.func83, Tryd.ntmps83
   go_wp2
   go_ret
   exact ⟨by first | rfl | (simp; done) | (simp [*]; done), by repeat (first | exact Drawn0.refl _ | apply Drawn0.step)⟩
  rw [if_pos c24] at H
  have c24b0 : decide (48 ≤ a0) = true := decide_eq_true c24
  clear c24
  by_cases c25 : a0 ≤ 57
  ·
   rw [if_pos c25] at H
   have c25b0 : decide (a0 ≤ 57) = true := decide_eq_true c25
   clear c25
   obtain rfl := Option.some.inj H
   go_enter Tryd.func83, Tryd.ntmps83
   go_wp2
   go_ret
   exact ⟨by first | rfl | (simp; done) | (simp [*]; done), by repeat (first | exact Drawn0.refl _ | apply Drawn0.step)⟩
  rw [if_neg c25] at H
  have c25b0 : decide (a0 ≤ 57) = false := decide_eq_false c25
  clear c25
  by_cases c26 : a0 = 45
  ·
   rw [if_pos c26] at H
   have c26b0 : (a0 == 45) = true := beq_iff_eq.mpr c26
   have c26b1 : (a0 != 45) = false := bne_eq_false_iff_eq.mpr c26
   clear c26
   obtain rfl := Option.some.inj H
   go_enter Tryd.func83, Tryd.ntmps83
   go_wp2
   go_ret
   exact ⟨by first | rfl | (simp; done) | (simp [*]; done), by repeat (first | exact Drawn0.refl _ | apply Drawn0.step)⟩
  rw [if_neg c26] at H
  have c26b0 : (a0 == 45) = false := beq_eq_false_iff_ne.mpr c26
  have c26b1 : (a0 != 45) = true := bne_iff_ne.mpr c26
  by_cases c27 : a0 = 95
  ·
   rw [if_pos c27] at H
   have c27b0 : (a0 == 95) = true := beq_iff_eq.mpr c27
   have c27b1 : (a0 != 95) = false := bne_eq_false_iff_eq.mpr c27
   clear c27
   obtain rfl := Option.some.inj H
   go_enter Tryd.func83, Tryd.ntmps83
   go_wp2
   go_ret
   exact ⟨by first | rfl | (simp; done) | (simp [*]; done), by repeat (first | exact Drawn0.refl _ | apply Drawn0.step)⟩
  rw [if_neg c27] at H
  have c27b0 : (a0 == 95) = false := beq_eq_false_iff_ne.mpr c27
  have c27b1 : (a0 != 95) = true := bne_iff_ne.mpr c27
  by_cases c28 : a0 = 46
  rotate_left
  ·
   rw [if_neg c28] at H
   have c28b0 : (a0 == 46) = false := beq_eq_false_iff_ne.mpr c28
   have c28b1 : (a0 != 46) = true := bne_iff_ne.mpr c28
   obtain rfl := Option.some.inj H
   go_enter Tryd.func83, Tryd.ntmps83
   go_wp2
   go_ret
   exact ⟨by first | rfl | (simp; done) | (simp [*]; done), by repeat (first | exact Drawn0.refl _ | apply Drawn0.step)⟩
  rw [if_pos c28] at H
  have c28b0 : (a0 == 46) = true := beq_iff_eq.mpr c28
  have c28b1 : (a0 != 46) = false := bne_eq_false_iff_eq.mpr c28
  clear c28
  obtain rfl := Option.some.inj H
  go_enter Tryd.func83, Tryd.ntmps83
  go_wp2
  go_ret
  exact ⟨by first | rfl | (simp; done) | (simp [*]; done), by repeat (first | exact Drawn0.refl _ | apply Drawn0.step)⟩
 rw [if_pos c2] at H
 have c2b0 : decide (97 ≤ a0) = true := decide_eq_true c2
 clear c2
 by_cases c3 : a0 ≤ 122
 ·
  rw [if_pos c3] at H
  have c3b0 : decide (a0 ≤ 122) = true := decide_eq_true c3
  clear c3
  obtain rfl := Option.some.inj H
  go_enter Tryd.func83, Tryd.ntmps83
  go_wp2
  go_ret
  exact ⟨by first | rfl | (simp; done) | (simp [*]; done), by repeat (first | exact Drawn0.refl _ | apply Drawn0.step)⟩
 rw [if_neg c3] at H
 have c3b0 : decide (a0 ≤ 122) = false := decide_eq_false c3
 clear c3
 by_cases c4 : a0 ≥ 65
 rotate_left
 ·
  rw [if_neg c4] at H
  have c4b0 : decide (65 ≤ a0) = false := decide_eq_false c4
  clear c4
  by_cases c14 : a0 ≥ 48
  rotate_left
  ·
   rw [if_neg c14] at H
   have c14b0 : decide (48 ≤ a0) = false := decide_eq_false c14
   clear c14
   by_cases c19 : a0 = 45
   ·
    rw [if_pos c19] at H
    have c19b0 : (a0 == 45) = true := beq_iff_eq.mpr c19
    have c19b1 : (a0 != 45) = false := bne_eq_false_iff_eq.mpr c19
    clear c19
    obtain rfl := Option.some.inj H
    go_enter Tryd.func83, Tryd.ntmps83
    go_wp2
    go_ret
    exact ⟨by first | rfl | (simp; done) | (simp [*]; done), by repeat (first | exact Drawn0.refl _ | apply Drawn0.step)⟩
   rw [if_neg c19] at H
   have c19b0 : (a0 == 45) = false := beq_eq_false_iff_ne.mpr c19
   have c19b1 : (a0 != 45) = true := bne_iff_ne.mpr c19
   by_cases c20 : a0 = 95
   ·
    rw [if_pos c20] at H
    have c20b0 : (a0 == 95) = true := beq_iff_eq.mpr c20
    have c20b1 : (a0 != 95) = false := bne_eq_false_iff_eq.mpr c20
    clear c20
    obtain rfl := Option.some.inj H
    go_enter Tryd.func83, Tryd.ntmps83
    go_wp2
    go_ret
    exact ⟨by first | rfl | (simp; done) | (simp [*]; done), by repeat (first | exact Drawn0.refl _ | apply Drawn0.step)⟩
   rw [if_neg c20] at H
   have c20b0 : (a0 == 95) = false := beq_eq_false_iff_ne.mpr c20
   have c20b1 : (a0 != 95) = true := bne_iff_ne.mpr c20
   by_cases c21 : a0 = 46
   rotate_left
   ·
    rw [if_neg c21] at H
    have c21b0 : (a0 == 46) = false := beq_eq_false_iff_ne.mpr c21
    have c21b1 : (a0 != 46) = true := bne_iff_ne.mpr c21
    obtain rfl := Option.some.inj H
    go_enter Tryd.func83, Tryd.ntmps83
    go_wp2
    go_ret
    exact ⟨by first | rfl | (simp; done) | (simp [*]; done), by repeat (first | exact Drawn0.refl _ | apply Drawn0.step)⟩
   rw [if_pos c21] at H
   have c21b0 : (a0 == 46) = true := beq_iff_eq.mpr c21
   have c21b1 : (a0 != 46) = false := bne_eq_false_iff_eq.mpr c21
   clear c21
   obtain rfl := Option.some.inj H
   go_enter Tryd.func83, Tryd.ntmps83
   go_wp2
   go_ret
   exact ⟨by first | rfl | (simp; done) | (simp [*]; done), by repeat (first | exact Drawn0.refl _ | apply Drawn0.step)⟩
  rw [if_pos c14] at H
  have c14b0 : decide (48 ≤ a0) = true := decide_eq_true c14
  clear c14
  by_cases c15 : a0 ≤ 57
  ·
   rw [if_pos c15] at H
   have c15b0 : decide (a0 ≤ 57) = true := decide_eq_true c15
   clear c15
   obtain rfl := Option.some.inj H
   go_enter Tryd.func83, Tryd.ntmps83
   go_wp2
   go_ret
   exact ⟨by first | rfl | (simp; done) | (simp [*]; done), by repeat (first | exact Drawn0.refl _ | apply Drawn0.step)⟩
  rw [if_neg c15] at H
  have c15b0 : decide (a0 ≤ 57) = false := decide_eq_false c15
  clear c15
  by_cases c16 : a0 = 45
  ·
   rw [if_pos c16] at H
   have c16b0 : (a0 == 45) = true := beq_iff_eq.mpr c16
   have c16b1 : (a0 != 45) = false := bne_eq_false_iff_eq.mpr c16
   clear c16
   obtain rfl := Option.some.inj H
   go_enter Tryd.func83, Tryd.ntmps83
   go_wp2
   go_ret
   exact ⟨by first | rfl | (simp; done) | (simp [*]; done), by repeat (first | exact Drawn0.refl _ | apply Drawn0.step)⟩
  rw [if_neg c16] at H
  have c16b0 : (a0 == 45) = false := beq_eq_false_iff_ne.mpr c16
  have c16b1 : (a0 != 45) = true := bne_iff_ne.mpr c16
  by_cases c17 : a0 = 95
  ·
   rw [if_pos c17] at H
   have c17b0 : (a0 == 95) = true := beq_iff_eq.mpr c17
   have c17b1 : (a0 != 95) = false := bne_eq_false_iff_eq.mpr c17
   clear c17
   obtain rfl := Option.some.inj H
   go_enter Tryd.func83, Tryd.ntmps83
   go_wp2
   go_ret
   exact ⟨by first | rfl | (simp; done) | (simp [*]; done), by repeat (first | exact Drawn0.refl _ | apply Drawn0.step)⟩
  rw [if_neg c17] at H
  have c17b0 : (a0 == 95) = false := beq_eq_false_iff_ne.mpr c17
  have c17b1 : (a0 != 95) = true := bne_iff_ne.mpr c17
  by_cases c18 : a0 = 46
  rotate_left
  ·
   rw [if_neg c18] at H
   have c18b0 : (a0 == 46) = false := beq_eq_false_iff_ne.mpr c18
   have c18b1 : (a0 != 46) = true := bne_iff_ne.mpr c18
   obtain rfl := Option.some.inj H
   go_enter Tryd.func83, Tryd.ntmps83
   go_wp2
   go_ret
   exact ⟨by first | rfl | (simp; done) | (simp [*]; done), by repeat (first | exact Drawn0.refl _ | apply Drawn0.step)⟩
  rw [if_pos c18] at H
  have c18b0 : (a0 == 46) = true := beq_iff_eq.mpr c18
  have c18b1 : (a0 != 46) = false := bne_eq_false_iff_eq.mpr c18
  clear c18
  obtain rfl := Option.some.inj H
  go_enter Tryd.func83, Tryd.ntmps83
  go_wp2
  go_ret
  exact ⟨by first | rfl | (simp; done) | (simp [*]; done), by repeat (first | exact Drawn0.refl _ | apply Drawn0.step)⟩
 rw [if_pos c4] at H
 have c4b0 : decide (65 ≤ a0) = true := decide_eq_true c4
 clear c4
 by_cases c5 : a0 ≤ 90
 ·
  rw [if_pos c5] at H
  have c5b0 : decide (a0 ≤ 90) = true := decide_eq_true c5
  clear c5
  obtain rfl := Option.some.inj H
  go_enter Tryd.func83, Tryd.ntmps83
  go_wp2
  go_ret
  exact ⟨by first | rfl | (simp; done) | (simp [*]; done), by repeat (first | exact Drawn0.refl _ | apply Drawn0.step)⟩
 rw [if_neg c5] at H
 have c5b0 : decide (a0 ≤ 90) = false := decide_eq_false c5
 clear c5
 by_cases c6 : a0 ≥ 48
 rotate_left
 ·
  rw [if_neg c6] at H
  have c6b0 : decide (48 ≤ a0) = false := decide_eq_false c6
  clear c6
  by_cases c11 : a0 = 45
  ·
   rw [if_pos c11] at H
   have c11b0 : (a0 == 45) = true := beq_iff_eq.mpr c11
   have c11b1 : (a0 != 45) = false := bne_eq_false_iff_eq.mpr c11
   clear c11
   obtain rfl := Option.some.inj H
   go_enter Tryd.func83, Tryd.ntmps83
   go_wp2
   go_ret
   exact ⟨by first | rfl | (simp; done) | (simp [*]; done), by repeat (first | exact Drawn0.refl _ | apply Drawn0.step)⟩
  rw [if_neg c11] at H
  have c11b0 : (a0 == 45) = false := beq_eq_false_iff_ne.mpr c11
  have c11b1 : (a0 != 45) = true := bne_iff_ne.mpr c11
  by_cases c12 : a0 = 95
  ·
   rw [if_pos c12] at H
   have c12b0 : (a0 == 95) = true := beq_iff_eq.mpr c12
   have c12b1 : (a0 != 95) = false := bne_eq_false_iff_eq.mpr c12
   clear c12
   obtain rfl := Option.some.inj H
   go_enter Tryd.func83, Tryd.ntmps83
   go_wp2
   go_ret
   exact ⟨by first | rfl | (simp; done) | (simp [*]; done), by repeat (first | exact Drawn0.refl _ | apply Drawn0.step)⟩
  rw [if_neg c12] at H
  have c12b0 : (a0 == 95) = false := beq_eq_false_iff_ne.mpr c12
  have c12b1 : (a0 != 95) = true := bne_iff_ne.mpr c12
  by_cases c13 : a0 = 46
  rotate_left
  ·
   rw [if_neg c13] at H
   have c13b0 : (a0 == 46) = false := beq_eq_false_iff_ne.mpr c13
   have c13b1 : (a0 != 46) = true := bne_iff_ne.mpr c13
   obtain rfl := Option.some.inj H
   go_enter Tryd.func83, Tryd.ntmps83
   go_wp2
   go_ret
   exact ⟨by first | rfl | (simp; done) | (simp [*]; done), by repeat (first | exact Drawn0.refl _ | apply Drawn0.step)⟩
  rw [if_pos c13] at H
  have c13b0 : (a0 == 46) = true := beq_iff_eq.mpr c13
  have c13b1 : (a0 != 46) = false := bne_eq_false_iff_eq.mpr c13
  clear c13
  obtain rfl := Option.some.inj H
  go_enter Tryd.func83, Tryd.ntmps83
  go_wp2
  go_ret
  exact ⟨by first | rfl | (simp; done) | (simp [*]; done), by repeat (first | exact Drawn0.refl _ | apply Drawn0.step)⟩
 rw [if_pos c6] at H
 have c6b0 : decide (48 ≤ a0) = true := decide_eq_true c6
 clear c6
 by_cases c7 : a0 ≤ 57
 ·
  rw [if_pos c7] at H
  have c7b0 : decide (a0 ≤ 57) = true := decide_eq_true c7
  clear c7
  obtain rfl := Option.some.inj H
  go_enter Tryd.func83, Tryd.ntmps83
  go_wp2
  go_ret
  exact ⟨by first | rfl | (simp; done) | (simp [*]; done), by repeat (first | exact Drawn0.refl _ | apply Drawn0.step)⟩
 rw [if_neg c7] at H
 have c7b0 : decide (a0 ≤ 57) = false := decide_eq_false c7
 clear c7
 by_cases c8 : a0 = 45
 ·
  rw [if_pos c8] at H
  have c8b0 : (a0 == 45) = true := beq_iff_eq.mpr c8
  have c8b1 : (a0 != 45) = false := bne_eq_false_iff_eq.mpr c8
  clear c8
  obtain rfl := Option.some.inj H
  go_enter Tryd.func83, Tryd.ntmps83
  go_wp2
  go_ret
  exact ⟨by first | rfl | (simp; done) | (simp [*]; done), by repeat (first | exact Drawn0.refl _ | apply Drawn0.step)⟩
 rw [if_neg c8] at H
 have c8b0 : (a0 == 45) = false := beq_eq_false_iff_ne.mpr c8
 have c8b1 : (a0 != 45) = true := bne_iff_ne.mpr c8
 by_cases c9 : a0 = 95
 ·
  rw [if_pos c9] at H
  have c9b0 : (a0 == 95) = true := beq_iff_eq.mpr c9
  have c9b1 : (a0 != 95) = false := bne_eq_false_iff_eq.mpr c9
  clear c9
  obtain rfl := Option.some.inj H
  go_enter Tryd.func83, Tryd.ntmps83
  go_wp2
  go_ret
  exact ⟨by first | rfl | (simp; done) | (simp [*]; done), by repeat (first | exact Drawn0.refl _ | apply Drawn0.step)⟩
 rw [if_neg c9] at H
 have c9b0 : (a0 == 95) = false := beq_eq_false_iff_ne.mpr c9
 have c9b1 : (a0 != 95) = true := bne_iff_ne.mpr c9
 by_cases c10 : a0 = 46
 rotate_left
 ·
  rw [if_neg c10] at H
  have c10b0 : (a0 == 46) = false := beq_eq_false_iff_ne.mpr c10
  have c10b1 : (a0 != 46) = true := bne_iff_ne.mpr c10
  obtain rfl := Option.some.inj H
  go_enter Tryd.func83, Tryd.ntmps83
  go_wp2
  go_ret
  exact ⟨by first | rfl | (simp; done) | (simp [*]; done), by repeat (first | exact Drawn0.refl _ | apply Drawn0.step)⟩
 rw [if_pos c10] at H
 have c10b0 : (a0 == 46) = true := beq_iff_eq.mpr c10
 have c10b1 : (a0 != 46) = false := bne_eq_false_iff_eq.mpr c10
 clear c10
 obtain rfl := Option.some.inj H
 go_enter Tryd.func83, Tryd.ntmps83
 go_wp2
 go_ret
 exact ⟨by first | rfl | (simp; done) | (simp [*]; done), by repeat (first | exact Drawn0.refl _ | apply Drawn0.step)⟩

/-! ### spec_Escape: function 64 -/
def spec_Escape.l0 : Nat → ByteArray → List Int → Int → Option (ByteArray)
  | 0, _, _, _ => none
  | k + 1, x0, x3, x4 => if x4 < (x0.size : Int) then (if 0 ≤ x4 then ((spec_l10Plain.f (bt x0 x4)).bind fun t163 => (if t163 = true then (if x3.length < 140737488355328 then (spec_Escape.l0 k x0 (x3 ++ [bt x0 x4]) (wrap64 (x4 + 1))) else (none)) else (if 0 ≤ ((Int.tdiv (bt x0 x4) 16) % 256) then (if ((Int.tdiv (bt x0 x4) 16) % 256) < 16 then (if 0 ≤ (Int.tmod (bt x0 x4) 16) then (if (Int.tmod (bt x0 x4) 16) < 16 then ((some (([37, bt (⟨#[48, 49, 50, 51, 52, 53, 54, 55, 56, 57, 65, 66, 67, 68, 69, 70]⟩ : ByteArray) ((Int.tdiv (bt x0 x4) 16) % 256), bt (⟨#[48, 49, 50, 51, 52, 53, 54, 55, 56, 57, 65, 66, 67, 68, 69, 70]⟩ : ByteArray) (Int.tmod (bt x0 x4) 16)] : List Int) : List Int)).bind fun y167 => (if x3.length + y167.length < 140737488355328 then (spec_Escape.l0 k x0 (x3 ++ y167) (wrap64 (x4 + 1))) else (none))) else (none)) else (none)) else (none)) else (none)))) else (none)) else (some (strOfNums x3))
def spec_Escape.f (k : Nat) (a0 : ByteArray) : Option (ByteArray) := if (a0.size : Int) > 100000 then (some (⟨#[]⟩ : ByteArray)) else (spec_Escape.l0 k a0 (([] : List Int)) 0)
theorem spec_Escape.mono_l : ∀ k, (∀ y0 y1 y2, LeO (spec_Escape.l0 k y0 y1 y2) (spec_Escape.l0 (k + 1) y0 y1 y2))
  | 0 => fun _ _ _ r h => by simp [spec_Escape.l0] at h
  | k + 1 => by
    have ih0 := spec_Escape.mono_l k
    · intro y0 y1 y2
      unfold spec_Escape.l0
      repeat' first
      | (with_reducible exact ih0 _ _ _)
      | (with_reducible exact LeO.refl _)
      | (with_reducible exact LeO.none _)
      | (with_reducible refine LeO.ite ?_ ?_)
      | (with_reducible refine LeO.bind ?_ (fun _ => ?_))
      | exact ih0 _ _ _
      | exact LeO.none _
      | refine LeO.ite ?_ ?_
      | refine LeO.bind ?_ (fun _ => ?_)
theorem spec_Escape.mono : ∀ a0 k, LeO (spec_Escape.f k a0) (spec_Escape.f (k + 1) a0) := by
  intro a0 k
  have ih0 := spec_Escape.mono_l k
  unfold spec_Escape.f
  repeat' first
      | (with_reducible exact ih0 _ _ _)
      | (with_reducible exact LeO.refl _)
      | (with_reducible exact LeO.none _)
      | (with_reducible refine LeO.ite ?_ ?_)
      | (with_reducible refine LeO.bind ?_ (fun _ => ?_))
      | exact ih0 _ _ _
      | exact LeO.none _
      | refine LeO.ite ?_ ?_
      | refine LeO.bind ?_ (fun _ => ?_)
def spec_Escape.T10 : Bool × List (List Nat × List Nat) := (true, [([], []), ([], []), ([1], [1]), ([2], [2]), ([], []), ([4], [4]), ([5], [5]), ([3, 6], [3, 6]), ([0, 7], [0, 7]), ([8, 8, 0, 1, 2, 3, 4, 5, 6, 7, 8], [0, 8])])
def spec_Escape.B10 : List Nat := [0, 0, 2, 6, 0, 16, 48, 126, 255, 511]
theorem spec_Escape.tab10 : rtab .any (opsOf Tryd.f64 10) = spec_Escape.T10 := by kernel_rfl
theorem spec_Escape.bits10 : waitsOk spec_Escape.T10.2 spec_Escape.B10 = true := by kernel_rfl
set_option maxHeartbeats 8000000 in
set_option maxRecDepth 100000 in
theorem spec_Escape.calls (k : Nat) (a0 : ByteArray) (r : ByteArray) (w : World) (h : spec_Escape.f k a0 = some r) :
  Calls Tryd.prog 64 #[.string a0] w fun e w' => e = .returned (.string r) ∧ Below w.heap.size w w' := by
 have HB := Aside0.mk (Below.refl w.heap.size w)
 have H : (if (a0.size : Int) > 100000 then (some (⟨#[]⟩ : ByteArray)) else (spec_Escape.l0 k a0 (([] : List Int)) 0)) = some r := h
 clear h
 by_cases c2 : (a0.size : Int) > 100000
 ·
  rw [if_pos c2] at H
  have c2b0 : decide (100000 < (a0.size : Int)) = true := decide_eq_true c2
  have c2b1 : decide (100000 < a0.size) = true := decide_eq_true (by omega)
  clear c2
  obtain rfl := Option.some.inj H
  go_enter Tryd.func64, Tryd.ntmps64
  go_wp2
  go_ret
  exact ⟨by first | rfl | (simp [errW_none, errW_some] <;> rfl) | (simp [*, errW_none, errW_some] <;> rfl), by first | exact Grow.bl HB.out | exact HB.out⟩
 rw [if_neg c2] at H
 have c2b0 : decide (100000 < (a0.size : Int)) = false := decide_eq_false c2
 have c2b1 : decide (100000 < a0.size) = false := decide_eq_false (by omega)
 clear c2
 obtain ⟨y160, hy160⟩ : ∃ y_ : List Int, y_ = (([] : List Int)) := ⟨_, rfl⟩
 replace H : (spec_Escape.l0 k a0 y160 0) = some r := by first | (rw [hy160]; with_reducible exact H) | (have H2_ := (Option.bind_some _ _).symm.trans H; rw [hy160]; with_reducible exact H2_) | (have H2_ := (Option.bind_some _ _).symm.trans H; with_reducible exact H2_) | with_reducible exact H | (rw [hy160]; exact H) | exact H
 have Ny160 := Aside0.mk hy160
 clear hy160
 have H' := Aside0.mk H
 clear H
 go_enter Tryd.func64, Tryd.ntmps64
 go_wp2_with (first | ((with_reducible refine gate_dst (N := 9) rfl ?_); refine Kd.R_lit (Kd.int .u8) _ 5 ?hg (N := 9) ?hd (xs := ([] : List Int)) (inner := []) (ok := fun _ => True) (okp := fun _ => True) ?hr ?hp (fun _ hk => hk) trivial (Below.refl _ _) (Nat.le_refl _) (by simp) ?_; (case hd => rfl); (case hg => rfl); (case hr => first | (go_simp; done) | (go_simp; rfl)); (case hp => exact (Reps.none _ _)); intro v161 w3 ho4 hb hg_ hnew_; clear hg_ hnew_; (first | rw [← Ny160.out] at ho4 | (simp only [Int.reduceToNat] at ho4; rw [← Ny160.out] at ho4)); have n0_ := Aside0.mk (Kd.R_lower ho4 (below_size (by first | exact Grow.bl HB.out | exact HB.out))); have n1_ := Aside0.mk (below_step (by first | exact Grow.bl HB.out | exact HB.out) hb); clear HB; have HO162 := n0_; have HB := n1_; clear n0_ n1_; clear hb ho4))
 go_loopg [3, 4] k (fun kq v3 v4 w' => ∃ (x3_1 : List Int) (x4_1 : Int), v4 = .int .i64 x4_1 ∧ Aside0 (spec_Escape.l0 kq a0 x3_1 x4_1 = some r) ∧ Aside0 (kq ≤ k) ∧ Aside0 (Kd.R (Kd.int .u8) 5 w' w.heap.size (fun _ => True) v3 x3_1) ∧ Aside0 (Below w.heap.size w w'))
 case atStart => exact ⟨(y160), (0), (by first | rfl | (simp; done) | (simp [*]; done)), H', ⟨Nat.le_refl _⟩, ⟨by first | exact Grow.rg HO162.out | exact HO162.out⟩, ⟨by first | exact Grow.bl HB.out | exact HB.out⟩⟩
 case round =>
  clear H'
  try clear c2
  try clear c2b0
  try clear c2b1
  try clear p2
  obtain ⟨x3_1, x4_1, rfl, HA, HK1, HO_3, HB⟩ := hrel
  cases gk with
  | zero => exact absurd HA.out (by simp [spec_Escape.l0])
  | succ k1 =>
   have H := HA.out
   clear HA
   simp only [spec_Escape.l0] at H
   by_cases c5 : x4_1 < (a0.size : Int)
   rotate_left
   ·
    rw [if_neg c5] at H
    have c5b0 : decide (x4_1 < (a0.size : Int)) = false := decide_eq_false c5
    clear c5
    obtain rfl := Option.some.inj H
    have hcv26 := own_string (P := Tryd.prog) Tryd.underlying81 Tryd.underlying5 Tryd.underlying9 (Kd.own_of_R HO_3.out)
    go_wp2
    go_ret
    exact ⟨by first | rfl | (simp [errW_none, errW_some] <;> rfl) | (simp [*, errW_none, errW_some] <;> rfl), by first | exact Grow.bl HB.out | exact HB.out⟩
   rw [if_pos c5] at H
   have c5b0 : decide (x4_1 < (a0.size : Int)) = true := decide_eq_true c5
   clear c5
   by_cases c6 : 0 ≤ x4_1
   rotate_left
   ·
    rw [if_neg c6] at H
    exact absurd H (by simp)
   rw [if_pos c6] at H
   have c6b0 : decide (0 ≤ x4_1) = true := decide_eq_true c6
   clear c6
   replace H := Option.bind_eq_some_iff.mp H
   obtain ⟨t163, A80, H⟩ := H
   replace H : (if t163 = true then (if x3_1.length < 140737488355328 then (spec_Escape.l0 k1 a0 (x3_1 ++ [bt a0 x4_1]) (wrap64 (x4_1 + 1))) else (none)) else (if 0 ≤ ((Int.tdiv (bt a0 x4_1) 16) % 256) then (if ((Int.tdiv (bt a0 x4_1) 16) % 256) < 16 then (if 0 ≤ (Int.tmod (bt a0 x4_1) 16) then (if (Int.tmod (bt a0 x4_1) 16) < 16 then ((some (([37, bt (⟨#[48, 49, 50, 51, 52, 53, 54, 55, 56, 57, 65, 66, 67, 68, 69, 70]⟩ : ByteArray) ((Int.tdiv (bt a0 x4_1) 16) % 256), bt (⟨#[48, 49, 50, 51, 52, 53, 54, 55, 56, 57, 65, 66, 67, 68, 69, 70]⟩ : ByteArray) (Int.tmod (bt a0 x4_1) 16)] : List Int) : List Int)).bind fun y167 => (if x3_1.length + y167.length < 140737488355328 then (spec_Escape.l0 k1 a0 (x3_1 ++ y167) (wrap64 (x4_1 + 1))) else (none))) else (none)) else (none)) else (none)) else (none))) = some r := H
   have A8 := Aside0.mk A80
   clear A80
   by_cases c9 : t163 = true
   ·
    subst c9
    have H1 : (if x3_1.length < 140737488355328 then (spec_Escape.l0 k1 a0 (x3_1 ++ [bt a0 x4_1]) (wrap64 (x4_1 + 1))) else (none)) = some r := by rw [if_pos rfl] at H; exact H
    clear H
    have H := H1
    clear H1
    by_cases c10 : x3_1.length < 140737488355328
    rotate_left
    ·
     rw [if_neg c10] at H
     exact absurd H (by simp)
    rw [if_pos c10] at H
    have LMc10 := Aside0.mk c10
    clear c10
    obtain ⟨y164, hy164⟩ : ∃ y_ : List Int, y_ = (x3_1 ++ [bt a0 x4_1]) := ⟨_, rfl⟩
    replace H : (spec_Escape.l0 k1 a0 y164 (wrap64 (x4_1 + 1))) = some r := by first | (rw [hy164]; with_reducible exact H) | (have H2_ := (Option.bind_some _ _).symm.trans H; rw [hy164]; with_reducible exact H2_) | (have H2_ := (Option.bind_some _ _).symm.trans H; with_reducible exact H2_) | with_reducible exact H | (rw [hy164]; exact H) | exact H
    have Ny164 := Aside0.mk hy164
    clear hy164
    have H' := Aside0.mk H
    clear H
    have p7 : 0 ≤ (x4_1 : Int) := of_decide_eq_true (by first | (with_reducible assumption) | assumption)
    have q7 : x4_1 < (a0.size : Int) := of_decide_eq_true (by first | (with_reducible assumption) | assumption)
    have hx7 := bt_at a0 x4_1
    replace p7 := eq_true p7
    replace q7 := eq_true q7
    go_wp2_with (first | ((with_reducible refine gate_callee (f := 83) rfl ?_); refine goesL_ (some 20) rfl rfl Tryd.func83 (by kernel_rfl) rfl #[.int .u8 (bt a0 x4_1)] rfl (by (try simp only [List.map_toArray, List.map_cons, List.map_nil]); first | done | rfl | (simp only [List.length_drop, List.length_take]; rfl)) ?_; (with_reducible refine (spec_l10Plain.calls (bt a0 x4_1) true _ A8.out).mono ?_); rintro e w' ⟨rfl, ⟨nd, rfl⟩⟩; refine ⟨_, rfl, ?_⟩) | ((with_reducible refine gate_builtin (b := .append) (xs := #[.tmp 21, .tmp 23]) rfl ?_); at_builtin; refine Kd.R_append (Kd.int .u8) (w0 := w) w.heap.size rfl (.tmp 21) (.tmp 23) 81 5 (.int .u8 0) 1 rfl Tryd.underlying81 info5 rfl (by decide) (by omega) u3 x3_1 (bt a0 x4_1) [.int .u8 (bt a0 x4_1)] (fun _ => True) (fun _ => False) rfl rfl ?aP (fun _ hk => hk.elim) ?aF ?aO ?aB ?aS ?aL ?_; (case aP => exact rfl); (case aB => exact (by first | exact Grow.bl HB.out | exact HB.out)); (case aF => exact (fun _ _ => trivial)); (case aO => exact (by first | exact Grow.rg HO_3.out | exact HO_3.out)); (case aS => exact (below_size (by first | exact Grow.bl HB.out | exact HB.out))); (case aL => have := LMc10.out; omega); intro v165 w11 ho hb hg hat; rw [← Ny164.out] at ho; have n0_ := Aside0.mk (hb); have n1_ := Aside0.mk (ho); clear HB; clear HO_3; have HB := n0_; have HO166 := n1_; clear n0_ n1_; clear ho hb hg hat))
    go_roundg k1
    case measure => have := HK1.out; omega
    case rel => exact ⟨(y164), (wrap64 (x4_1 + 1)), (by first | rfl | (simp; done) | (simp [*]; done)), H', ⟨by have := HK1.out; omega⟩, ⟨by first | exact Grow.rg HO166.out | exact HO166.out⟩, ⟨by first | exact Grow.bl HB.out | exact HB.out⟩⟩
   replace c9 := Bool.eq_false_iff.mpr c9
   subst c9
   have H1 : (if 0 ≤ ((Int.tdiv (bt a0 x4_1) 16) % 256) then (if ((Int.tdiv (bt a0 x4_1) 16) % 256) < 16 then (if 0 ≤ (Int.tmod (bt a0 x4_1) 16) then (if (Int.tmod (bt a0 x4_1) 16) < 16 then ((some (([37, bt (⟨#[48, 49, 50, 51, 52, 53, 54, 55, 56, 57, 65, 66, 67, 68, 69, 70]⟩ : ByteArray) ((Int.tdiv (bt a0 x4_1) 16) % 256), bt (⟨#[48, 49, 50, 51, 52, 53, 54, 55, 56, 57, 65, 66, 67, 68, 69, 70]⟩ : ByteArray) (Int.tmod (bt a0 x4_1) 16)] : List Int) : List Int)).bind fun y167 => (if x3_1.length + y167.length < 140737488355328 then (spec_Escape.l0 k1 a0 (x3_1 ++ y167) (wrap64 (x4_1 + 1))) else (none))) else (none)) else (none)) else (none)) else (none)) = some r := by rw [if_neg (show ¬ (false = true) by decide)] at H; exact H
   clear H
   have H := H1
   clear H1
   obtain ⟨ji12, hji12⟩ : ∃ j_ : Int, ((Int.tdiv (bt a0 x4_1) 16) % 256) = j_ := ⟨_, rfl⟩
   have hji12u : IntKind.u8.wrap ((Int.tdiv (bt a0 x4_1) 16)) = ji12 := (IntKind.wrap_u8 _).trans hji12
   replace H : (if 0 ≤ (ji12) then (if (ji12) < 16 then (if 0 ≤ (Int.tmod (bt a0 x4_1) 16) then (if (Int.tmod (bt a0 x4_1) 16) < 16 then ((some (([37, bt (⟨#[48, 49, 50, 51, 52, 53, 54, 55, 56, 57, 65, 66, 67, 68, 69, 70]⟩ : ByteArray) (ji12), bt (⟨#[48, 49, 50, 51, 52, 53, 54, 55, 56, 57, 65, 66, 67, 68, 69, 70]⟩ : ByteArray) (Int.tmod (bt a0 x4_1) 16)] : List Int) : List Int)).bind fun y167 => (if x3_1.length + y167.length < 140737488355328 then (spec_Escape.l0 k1 a0 (x3_1 ++ y167) (wrap64 (x4_1 + 1))) else (none))) else (none)) else (none)) else (none)) else (none)) = some r := by first | (rw [hji12] at H; exact H) | (simp only [hji12] at H ⊢; exact H)
   (try rw [hji12] at A8)
   by_cases c13 : 0 ≤ (ji12)
   rotate_left
   ·
    rw [if_neg c13] at H
    exact absurd H (by simp)
   rw [if_pos c13] at H
   have c13b0 : decide (0 ≤ (ji12)) = true := decide_eq_true c13
   clear c13
   by_cases c14 : (ji12) < 16
   rotate_left
   ·
    rw [if_neg c14] at H
    exact absurd H (by simp)
   rw [if_pos c14] at H
   have c14b0 : decide ((ji12) < 16) = true := decide_eq_true c14
   clear c14
   obtain ⟨ji16, hji16⟩ : ∃ j_ : Int, (Int.tmod (bt a0 x4_1) 16) = j_ := ⟨_, rfl⟩
   replace H : (if 0 ≤ (ji16) then (if (ji16) < 16 then ((some (([37, bt (⟨#[48, 49, 50, 51, 52, 53, 54, 55, 56, 57, 65, 66, 67, 68, 69, 70]⟩ : ByteArray) (ji12), bt (⟨#[48, 49, 50, 51, 52, 53, 54, 55, 56, 57, 65, 66, 67, 68, 69, 70]⟩ : ByteArray) (ji16)] : List Int) : List Int)).bind fun y167 => (if x3_1.length + y167.length < 140737488355328 then (spec_Escape.l0 k1 a0 (x3_1 ++ y167) (wrap64 (x4_1 + 1))) else (none))) else (none)) else (none)) = some r := by first | (rw [hji16] at H; exact H) | (simp only [hji16] at H ⊢; exact H)
   (try rw [hji16] at A8)
   by_cases c17 : 0 ≤ (ji16)
   rotate_left
   ·
    rw [if_neg c17] at H
    exact absurd H (by simp)
   rw [if_pos c17] at H
   have c17b0 : decide (0 ≤ (ji16)) = true := decide_eq_true c17
   clear c17
   by_cases c18 : (ji16) < 16
   rotate_left
   ·
    rw [if_neg c18] at H
    exact absurd H (by simp)
   rw [if_pos c18] at H
   have c18b0 : decide ((ji16) < 16) = true := decide_eq_true c18
   clear c18
   obtain ⟨y167, hy167⟩ : ∃ y_ : List Int, y_ = (([37, bt (⟨#[48, 49, 50, 51, 52, 53, 54, 55, 56, 57, 65, 66, 67, 68, 69, 70]⟩ : ByteArray) (ji12), bt (⟨#[48, 49, 50, 51, 52, 53, 54, 55, 56, 57, 65, 66, 67, 68, 69, 70]⟩ : ByteArray) (ji16)] : List Int)) := ⟨_, rfl⟩
   replace H : (if x3_1.length + y167.length < 140737488355328 then (spec_Escape.l0 k1 a0 (x3_1 ++ y167) (wrap64 (x4_1 + 1))) else (none)) = some r := by first | (rw [hy167]; with_reducible exact H) | (have H2_ := (Option.bind_some _ _).symm.trans H; rw [hy167]; with_reducible exact H2_) | (have H2_ := (Option.bind_some _ _).symm.trans H; with_reducible exact H2_) | with_reducible exact H | (rw [hy167]; exact H) | exact H
   have Ny167 := Aside0.mk hy167
   clear hy167
   by_cases c20 : x3_1.length + y167.length < 140737488355328
   rotate_left
   ·
    rw [if_neg c20] at H
    exact absurd H (by simp)
   rw [if_pos c20] at H
   have LMc20 := Aside0.mk c20
   clear c20
   obtain ⟨y170, hy170⟩ : ∃ y_ : List Int, y_ = (x3_1 ++ y167) := ⟨_, rfl⟩
   replace H : (spec_Escape.l0 k1 a0 y170 (wrap64 (x4_1 + 1))) = some r := by first | (rw [hy170]; with_reducible exact H) | (have H2_ := (Option.bind_some _ _).symm.trans H; rw [hy170]; with_reducible exact H2_) | (have H2_ := (Option.bind_some _ _).symm.trans H; with_reducible exact H2_) | with_reducible exact H | (rw [hy170]; exact H) | exact H
   have Ny170 := Aside0.mk hy170
   clear hy170
   have H' := Aside0.mk H
   clear H
   have p7 : 0 ≤ (x4_1 : Int) := of_decide_eq_true (by first | (with_reducible assumption) | assumption)
   have q7 : x4_1 < (a0.size : Int) := of_decide_eq_true (by first | (with_reducible assumption) | assumption)
   have hx7 := bt_at a0 x4_1
   replace p7 := eq_true p7
   replace q7 := eq_true q7
   try go_wp2_with (first | ((with_reducible refine gate_callee (f := 83) rfl ?_); refine goesL_ (some 20) rfl rfl Tryd.func83 (by kernel_rfl) rfl #[.int .u8 (bt a0 x4_1)] rfl (by (try simp only [List.map_toArray, List.map_cons, List.map_nil]); first | done | rfl | (simp only [List.length_drop, List.length_take]; rfl)) ?_; (with_reducible refine (spec_l10Plain.calls (bt a0 x4_1) false _ A8.out).mono ?_); rintro e w' ⟨rfl, ⟨nd, rfl⟩⟩; refine ⟨_, rfl, ?_⟩))
   (try (rw [drewN_self wr]; generalize hq_ : World.drewN wr _ = wr; have n0_ : Aside0 (Kd.R (Kd.int .u8) 5 wr w.heap.size (fun _ => True) u3 x3_1) := ⟨by rw [← hq_]; exact (by first | exact Grow.rg HO_3.out | exact HO_3.out)⟩; have n1_ : Aside0 (Below w.heap.size w wr) := ⟨by rw [← hq_]; exact (by first | exact Grow.bl HB.out | exact HB.out)⟩; clear HO_3 HB hq_; have HO_3 := n0_; have HB := n1_; clear n0_ n1_))
   have n0_ := Aside0.mk (Kd.R_drew HO_3.out)
   have n1_ := Aside0.mk (below_drew1 HB.out)
   clear HO_3
   clear HB
   have HO_3 := n0_
   have HB := n1_
   clear n0_ n1_
   have p15 : 0 ≤ ((ji12) : Int) := of_decide_eq_true (by first | (with_reducible assumption) | assumption)
   have q15 : (ji12) < (16 : Int) := of_decide_eq_true (by first | (with_reducible assumption) | assumption)
   have hx15 := bt_at (⟨#[48, 49, 50, 51, 52, 53, 54, 55, 56, 57, 65, 66, 67, 68, 69, 70]⟩ : ByteArray) (ji12)
   replace p15 := eq_true p15
   replace q15 := eq_true q15
   have p19 : 0 ≤ ((ji16) : Int) := of_decide_eq_true (by first | (with_reducible assumption) | assumption)
   have q19 : (ji16) < (16 : Int) := of_decide_eq_true (by first | (with_reducible assumption) | assumption)
   have hx19 := bt_at (⟨#[48, 49, 50, 51, 52, 53, 54, 55, 56, 57, 65, 66, 67, 68, 69, 70]⟩ : ByteArray) (ji16)
   replace p19 := eq_true p19
   replace q19 := eq_true q19
   refine start_ (n := 10) (S := fun w' => True) (ds := []) zf0 (by kernel_rfl) rfl rfl trivial (fun hHeld => ?_); refine with_tabW spec_Escape.tab10 spec_Escape.bits10 (fun HT_ HW_ => ?_)
   generalize wr.drew = w21 at HO_3 HB hHeld ⊢
   refine Cap.pu (v := ?_) (a' := ?_) 0 (some 25) zf1 HT_ rfl rfl (by kernel_rfl) (fun _ _ _ h => h) (Or.inl ⟨by rfl, ?_⟩) ?_ ?_; rotate_left; intro w'; go_simp; with_reducible rfl; rotate_left; simp only [Cap.pz]; rfl
   refine Cap.pu (v := ?_) (a' := ?_) 1 (some 26) zf2 HT_ rfl rfl (by kernel_rfl) (fun _ _ _ h => h) (Or.inl ⟨by rfl, ?_⟩) ?_ ?_; rotate_left; intro w'; go_simp; with_reducible rfl; rotate_left; simp only [Cap.pz]; rfl
   refine Cap.pu (v := ?_) (a' := ?_) 2 (some 27) zf3 HT_ rfl rfl (by kernel_rfl) (fun _ _ _ h => h) (Or.inl ⟨by rfl, ?_⟩) ?_ ?_; rotate_left; intro w'; go_simp; with_reducible rfl; rotate_left; simp only [Cap.pz]; rfl
   refine Cap.pu (v := ?_) (a' := ?_) 4 (some 29) zf4 HT_ rfl rfl (by kernel_rfl) (fun _ _ _ h => h) (Or.inl ⟨by rfl, ?_⟩) ?_ ?_; rotate_left; intro w'; go_simp; with_reducible rfl; rotate_left; simp only [Cap.pz]; rfl
   refine Cap.pu (v := ?_) (a' := ?_) 5 (some 30) zf5 HT_ rfl rfl (by kernel_rfl) (fun _ _ _ h => h) (Or.inl ⟨by rfl, ?_⟩) ?_ ?_; rotate_left; intro w'; go_simp; with_reducible rfl; rotate_left; simp only [Cap.pz]; rfl
   refine take_ (i := 3) (N := some 28) (v := ?_) (a' := ?_) zf11 rfl rfl (take_ofW HT_.out HW_.out (by kernel_rfl)) (fun _ _ _ h => h) (Or.inl ⟨by rfl, ?_⟩) hHeld ?_ ?_
   rotate_left
   ·
    intro w' _
    go_simp
    with_reducible rfl
   rotate_left
   ·
    simp only [Cap.pz]
    rfl
   refine take_ (i := 6) (N := some 31) (v := ?_) (a' := ?_) zf7 rfl rfl (take_ofW HT_.out HW_.out (by kernel_rfl)) (fun _ _ _ h => h) (Or.inl ⟨by rfl, ?_⟩) hHeld ?_ ?_
   rotate_left
   ·
    intro w' _
    go_simp
    with_reducible rfl
   rotate_left
   ·
    simp only [Cap.pz]
    rfl
   refine one_ (i := 7) (N := some 32) zf8 rfl rfl (one_of HT_.out (by kernel_rfl)) (by decide) (fun K hK => ?_)
   refine Kd.R_lit_step (Kd.int .u8) _ 5 ?hg (N := 32) ?hd (xs := ([37, bt (⟨#[48, 49, 50, 51, 52, 53, 54, 55, 56, 57, 65, 66, 67, 68, 69, 70]⟩ : ByteArray) (ji12), bt (⟨#[48, 49, 50, 51, 52, 53, 54, 55, 56, 57, 65, 66, 67, 68, 69, 70]⟩ : ByteArray) (ji16)] : List Int)) (inner := [.int .u8 37, .int .u8 (bt (⟨#[48, 49, 50, 51, 52, 53, 54, 55, 56, 57, 65, 66, 67, 68, 69, 70]⟩ : ByteArray) (ji12)), .int .u8 (bt (⟨#[48, 49, 50, 51, 52, 53, 54, 55, 56, 57, 65, 66, 67, 68, 69, 70]⟩ : ByteArray) (ji16))]) (ok := fun _ => True) (okp := fun _ => True) ?hr ?hp (fun _ hk => hk) trivial (Below.refl _ _) (Nat.le_refl _) (by simp) ?_; (case hd => rfl); (case hg => rfl); (case hr => first | (go_simp; done) | (go_simp; rfl)); (case hp => exact (Reps.one (show Kd.M (Kd.int .u8) _ _ _ 37 [.int .u8 37] from rfl) (Reps.one (show Kd.M (Kd.int .u8) _ _ _ (bt (⟨#[48, 49, 50, 51, 52, 53, 54, 55, 56, 57, 65, 66, 67, 68, 69, 70]⟩ : ByteArray) (ji12)) [.int .u8 (bt (⟨#[48, 49, 50, 51, 52, 53, 54, 55, 56, 57, 65, 66, 67, 68, 69, 70]⟩ : ByteArray) (ji12))] from rfl) (Reps.one (show Kd.M (Kd.int .u8) _ _ _ (bt (⟨#[48, 49, 50, 51, 52, 53, 54, 55, 56, 57, 65, 66, 67, 68, 69, 70]⟩ : ByteArray) (ji16)) [.int .u8 (bt (⟨#[48, 49, 50, 51, 52, 53, 54, 55, 56, 57, 65, 66, 67, 68, 69, 70]⟩ : ByteArray) (ji16))] from rfl) (Reps.none _ _)))))
   intro v168 w22 ho23 hb hg_ hnew_
   clear hg_ hnew_
   (first | rw [← Ny167.out] at ho23 | (simp only [Int.reduceToNat] at ho23; rw [← Ny167.out] at ho23))
   have n0_ := Aside0.mk (Kd.R_elder' (by first | exact Grow.rg HO_3.out | exact HO_3.out) (Kd.R_base ho23) hb)
   have n1_ := Aside0.mk (Kd.R_lower (Kd.R_new' ho23 (Kd.R_lt (by first | exact Grow.rg HO_3.out | exact HO_3.out))) (below_size (by first | exact Grow.bl HB.out | exact HB.out)))
   have n2_ := Aside0.mk (below_step (by first | exact Grow.bl HB.out | exact HB.out) hb)
   clear HO_3
   clear HB
   have HO_3 := n0_
   have HO169 := n1_
   have HB := n2_
   clear n0_ n1_ n2_
   clear hb ho23
   obtain ⟨Ao25, co25, eo25⟩ := Kd.R_slice HO169.out
   (first | subst eo25 | (injection eo25 with f1_ f2_ f3_; have f4_ := f1_.symm; have f5_ := f3_.symm; clear f1_ f2_ f3_; subst f4_; subst f5_))
   refine hK.out _ _ trivial (fun hHeld => ?_)
   clear hK K
   refine norm_ (a' := ?_) ?_ ?_; rotate_left; show Act.put _ (some 32) _ = _; simp only [Cap.pz]; rfl
   refine one_ (i := 8) (N := some 33) zf9 rfl rfl (one_of HT_.out (by kernel_rfl)) (by decide) (fun K hK => ?_)
   refine Kd.R_append_rows_step (Kd.int .u8) (w0 := w) w.heap.size (by rfl) (.tmp 25) (.tmp 32) 81 5 (.int .u8 0) 1 rfl Tryd.underlying81 info5 rfl (by decide) (by omega) u3 x3_1 y167 _ _ _ (fun k_ => some k_ ≠ (.slice Ao25 y167.length co25 : Value).ownBlock) (fun _ => False) rfl rfl ?aO ?aR (fun _ _ h => h) (fun _ h => h.elim) ?aF ?aB ?aS ?aL ?_
   (case aR => repeat (first | exact (Kd.R_reads' HO169.out).2.2 | (with_reducible refine Kd.C_alloc ?_ _) | (with_reducible refine Kd.C_drewN ?_ _) | (with_reducible refine Kd.C_drew ?_)))
   (case aB => exact (by first | exact Grow.bl HB.out | exact HB.out))
   (case aF => exact (fun k_ hk => Kd.fresh' (Kd.R_lt (by first | exact Grow.rg HO169.out | exact HO169.out)) k_ hk))
   (case aO => exact (by (with_reducible repeat (first | apply Kd.R_alloc | apply Kd.R_drewN | apply Kd.R_drew)); exact Kd.R_mono HO_3.out (fun _ hk => hk.2)))
   (case aS => exact (below_size (by first | exact Grow.bl HB.out | exact HB.out)))
   (case aL => have := LMc20.out; omega)
   intro v171 w24 ho hb hg hat
   rw [← Ny170.out] at ho
   have n0_ := Aside0.mk (Kd.R_after (ok := (fun _ => True)) (by first | exact Grow.rg HO169.out | exact HO169.out) hg hat)
   have n1_ := Aside0.mk (hb)
   have n2_ := Aside0.mk (ho)
   clear HO169
   clear HB
   clear HO_3
   have HO169 := n0_
   have HB := n1_
   have HO172 := n2_
   clear n0_ n1_ n2_
   clear ho hb hg hat
   refine hK.out _ _ trivial (fun hHeld => ?_)
   clear hK K
   refine norm_ (a' := ?_) ?_ ?_; rotate_left; show Act.put _ (some 33) _ = _; simp only [Cap.pz]; rfl
   refine Cap.pu (v := ?_) (a' := ?_) 9 (some 3) zf10 HT_ rfl rfl (by kernel_rfl) (fun _ _ _ h => h) (Or.inl ⟨by rfl, ?_⟩) ?_ ?_; rotate_left; intro w'; go_simp; with_reducible rfl; rotate_left; simp only [Cap.pz]; rfl
   refine done_ (done_of HT_.out (by kernel_rfl)) ?_
   try go_wp2
   go_roundg k1
   case measure => have := HK1.out; omega
   case rel => exact ⟨(y170), (wrap64 (x4_1 + 1)), (by first | rfl | (simp; done) | (simp [*]; done)), H', ⟨by have := HK1.out; omega⟩, ⟨by (with_reducible repeat (first | apply Kd.R_alloc | apply Kd.R_drewN | apply Kd.R_drew)); exact Kd.R_mono HO172.out (fun _ hk => trivial)⟩, ⟨by first | exact Grow.bl HB.out | exact HB.out⟩⟩

end Go.Proofs.YtepnjhmdcaolkaaDoor.QFnExactWriteRequest
