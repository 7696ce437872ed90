-- A text of this session, printed by a program of its own (wip/tools: xpatch.py, xprint.sh, mkq.py). No condition.
import Derived.Test.YtepnjhmdcaolkaaDoorV0
import Derived.Test.YtepnjhmdcaolkaaDoorShelf
import Derived.Shelf.Unicode.PredsPay
import Derived.Lib.AppendIntMem
import Derived.Test.YtepnjhmdcaolkaaDoorQFnExactWriteRequestx0
import Derived.Laws.RangeString
import Derived.Laws.RangeAny
import Derived.LoopTactic
namespace Go.Proofs.YtepnjhmdcaolkaaDoor.QFnExactWriteRequest
open Go.RowKit Go.Proofs.YtepnjhmdcaolkaaDoorW.PrintWords Go.Proofs.YtepnjhmdcaolkaaDoorW.PrintLast Go.Proofs.YtepnjhmdcaolkaaDoorW.PrintMore
attribute [local go_sem] max2_int min2_int max_two min_two max_three min_three max_four min_four   -- for this text's walks alone
set_option linter.unusedVariables false
set_option linter.unusedSimpArgs false

/-! ### impl_safe: function 66 -/
def impl_safe.f (a0 : Int) : Option (Bool) := if a0 ≥ 97 then (if a0 ≤ 122 then (some true) else (if a0 ≥ 65 then (if a0 ≤ 90 then (some true) else (if a0 ≥ 48 then (if a0 ≤ 57 then (some true) else (if a0 = 45 then (some true) else (if a0 = 95 then (some true) else (if a0 = 46 then (some true) else (some (a0 == 47)))))) else (if a0 = 45 then (some true) else (if a0 = 95 then (some true) else (if a0 = 46 then (some true) else (some (a0 == 47))))))) else (if a0 ≥ 48 then (if a0 ≤ 57 then (some true) else (if a0 = 45 then (some true) else (if a0 = 95 then (some true) else (if a0 = 46 then (some true) else (some (a0 == 47)))))) else (if a0 = 45 then (some true) else (if a0 = 95 then (some true) else (if a0 = 46 then (some true) else (some (a0 == 47)))))))) else (if a0 ≥ 65 then (if a0 ≤ 90 then (some true) else (if a0 ≥ 48 then (if a0 ≤ 57 then (some true) else (if a0 = 45 then (some true) else (if a0 = 95 then (some true) else (if a0 = 46 then (some true) else (some (a0 == 47)))))) else (if a0 = 45 then (some true) else (if a0 = 95 then (some true) else (if a0 = 46 then (some true) else (some (a0 == 47))))))) else (if a0 ≥ 48 then (if a0 ≤ 57 then (some true) else (if a0 = 45 then (some true) else (if a0 = 95 then (some true) else (if a0 = 46 then (some true) else (some (a0 == 47)))))) else (if a0 = 45 then (some true) else (if a0 = 95 then (some true) else (if a0 = 46 then (some true) else (some (a0 == 47)))))))
set_option maxHeartbeats 8000000 in
set_option maxRecDepth 100000 in
theorem impl_safe.calls (a0 : Int) (r : Bool) (w : World) (h : impl_safe.f a0 = some r) :
  Calls Tryd.prog 66 #[.int .u8 a0] w fun e w' => e = .returned (.bool r) ∧ Drawn0 w w' := by
 have H : (if a0 ≥ 97 then (if a0 ≤ 122 then (some true) else (if a0 ≥ 65 then (if a0 ≤ 90 then (some true) else (if a0 ≥ 48 then (if a0 ≤ 57 then (some true) else (if a0 = 45 then (some true) else (if a0 = 95 then (some true) else (if a0 = 46 then (some true) else (some (a0 == 47)))))) else (if a0 = 45 then (some true) else (if a0 = 95 then (some true) else (if a0 = 46 then (some true) else (some (a0 == 47))))))) else (if a0 ≥ 48 then (if a0 ≤ 57 then (some true) else (if a0 = 45 then (some true) else (if a0 = 95 then (some true) else (if a0 = 46 then (some true) else (some (a0 == 47)))))) else (if a0 = 45 then (some true) else (if a0 = 95 then (some true) else (if a0 = 46 then (some true) else (some (a0 == 47)))))))) else (if a0 ≥ 65 then (if a0 ≤ 90 then (some true) else (if a0 ≥ 48 then (if a0 ≤ 57 then (some true) else (if a0 = 45 then (some true) else (if a0 = 95 then (some true) else (if a0 = 46 then (some true) else (some (a0 == 47)))))) else (if a0 = 45 then (some true) else (if a0 = 95 then (some true) else (if a0 = 46 then (some true) else (some (a0 == 47))))))) else (if a0 ≥ 48 then (if a0 ≤ 57 then (some true) else (if a0 = 45 then (some true) else (if a0 = 95 then (some true) else (if a0 = 46 then (some true) else (some (a0 == 47)))))) else (if a0 = 45 then (some true) else (if a0 = 95 then (some true) else (if a0 = 46 then (some true) else (some (a0 == 47)))))))) = some r := h
 clear h
 by_cases c2 : a0 ≥ 97
 rotate_left
 ·
  rw [if_neg c2] at H
  have c2b0 : decide (97 ≤ a0) = false := decide_eq_false c2
  clear c2
  by_cases c22 : a0 ≥ 65
  rotate_left
  ·
   rw [if_neg c22] at H
   have c22b0 : decide (65 ≤ a0) = false := decide_eq_false c22
   clear c22
   by_cases c32 : a0 ≥ 48
   rotate_left
   ·
    rw [if_neg c32] at H
    have c32b0 : decide (48 ≤ a0) = false := decide_eq_false c32
    clear c32
    by_cases c37 : a0 = 45
    ·
     rw [if_pos c37] at H
     have c37b0 : (a0 == 45) = true := beq_iff_eq.mpr c37
     have c37b1 : (a0 != 45) = false := bne_eq_false_iff_eq.mpr c37
     clear c37
     obtain rfl := Option.some.inj H
     go_enter Tryd.func66, Tryd.ntmps66
     go_wp2
     go_ret
     exact ⟨by first | rfl | (simp; done) | (simp [*]; done), by repeat (first | exact Drawn0.refl _ | apply Drawn0.step)⟩
    rw [if_neg c37] at H
    have c37b0 : (a0 == 45) = false := beq_eq_false_iff_ne.mpr c37
    have c37b1 : (a0 != 45) = true := bne_iff_ne.mpr c37
    by_cases c38 : a0 = 95
    ·
     rw [if_pos c38] at H
     have c38b0 : (a0 == 95) = true := beq_iff_eq.mpr c38
     have c38b1 : (a0 != 95) = false := bne_eq_false_iff_eq.mpr c38
     clear c38
     obtain rfl := Option.some.inj H
     go_enter Tryd.func66, Tryd.ntmps66
     go_wp2
     go_ret
     exact ⟨by first | rfl | (simp; done) | (simp [*]; done), by repeat (first | exact Drawn0.refl _ | apply Drawn0.step)⟩
    rw [if_neg c38] at H
    have c38b0 : (a0 == 95) = false := beq_eq_false_iff_ne.mpr c38
    have c38b1 : (a0 != 95) = true := bne_iff_ne.mpr c38
    by_cases c39 : a0 = 46
    rotate_left
    ·
     rw [if_neg c39] at H
     have c39b0 : (a0 == 46) = false := beq_eq_false_iff_ne.mpr c39
     have c39b1 : (a0 != 46) = true := bne_iff_ne.mpr c39
     obtain rfl := Option.some.inj H
     go_enter Tryd.func66, Tryd.ntmps66
     go_wp2
     go_ret
     exact ⟨by first | rfl | (simp; done) | (simp [*]; done), by repeat (first | exact Drawn0.refl _ | apply Drawn0.step)⟩
    rw [if_pos c39] at H
    have c39b0 : (a0 == 46) = true := beq_iff_eq.mpr c39
    have c39b1 : (a0 != 46) = false := bne_eq_false_iff_eq.mpr c39
    clear c39
    obtain rfl := Option.some.inj H
    go_enter Tryd.func66, Tryd.ntmps66
    go_wp2
    go_ret
    exact ⟨by first | rfl | (simp; done) | (simp [*]; done), by repeat (first | exact Drawn0.refl _ | apply Drawn0.step)⟩
   rw [if_pos c32] at H
   have c32b0 : decide (48 ≤ a0) = true := decide_eq_true c32
   clear c32
   by_cases c33 : a0 ≤ 57
   ·
    rw [if_pos c33] at H
    have c33b0 : decide (a0 ≤ 57) = true := decide_eq_true c33
    clear c33
    obtain rfl := Option.some.inj H
    go_enter Tryd.func66, Tryd.ntmps66
    go_wp2
    go_ret
    exact ⟨by first | rfl | (simp; done) | (simp [*]; done), by repeat (first | exact Drawn0.refl _ | apply Drawn0.step)⟩
   rw [if_neg c33] at H
   have c33b0 : decide (a0 ≤ 57) = false := decide_eq_false c33
   clear c33
   by_cases c34 : a0 = 45
   ·
    rw [if_pos c34] at H
    have c34b0 : (a0 == 45) = true := beq_iff_eq.mpr c34
    have c34b1 : (a0 != 45) = false := bne_eq_false_iff_eq.mpr c34
    clear c34
    obtain rfl := Option.some.inj H
    go_enter Tryd.func66, Tryd.ntmps66
    go_wp2
    go_ret
    exact ⟨by first | rfl | (simp; done) | (simp [*]; done), by repeat (first | exact Drawn0.refl _ | apply Drawn0.step)⟩
   rw [if_neg c34] at H
   have c34b0 : (a0 == 45) = false := beq_eq_false_iff_ne.mpr c34
   have c34b1 : (a0 != 45) = true := bne_iff_ne.mpr c34
   by_cases c35 : a0 = 95
   ·
    rw [if_pos c35] at H
    have c35b0 : (a0 == 95) = true := beq_iff_eq.mpr c35
    have c35b1 : (a0 != 95) = false := bne_eq_false_iff_eq.mpr c35
    clear c35
    obtain rfl := Option.some.inj H
    go_enter Tryd.func66, Tryd.ntmps66
    go_wp2
    go_ret
    exact ⟨by first | rfl | (simp; done) | (simp [*]; done), by repeat (first | exact Drawn0.refl _ | apply Drawn0.step)⟩
   rw [if_neg c35] at H
   have c35b0 : (a0 == 95) = false := beq_eq_false_iff_ne.mpr c35
   have c35b1 : (a0 != 95) = true := bne_iff_ne.mpr c35
   by_cases c36 : a0 = 46
   rotate_left
   ·
    rw [if_neg c36] at H
    have c36b0 : (a0 == 46) = false := beq_eq_false_iff_ne.mpr c36
    have c36b1 : (a0 != 46) = true := bne_iff_ne.mpr c36
    obtain rfl := Option.some.inj H
    go_enter Tryd.func66, Tryd.ntmps66
    go_wp2
    go_ret
    exact ⟨by first | rfl | (simp; done) | (simp [*]; done), by repeat (first | exact Drawn0.refl _ | apply Drawn0.step)⟩
   rw [if_pos c36] at H
   have c36b0 : (a0 == 46) = true := beq_iff_eq.mpr c36
   have c36b1 : (a0 != 46) = false := bne_eq_false_iff_eq.mpr c36
   clear c36
   obtain rfl := Option.some.inj H
   go_enter Tryd.func66, Tryd.ntmps66
   go_wp2
   go_ret
   exact ⟨by first | rfl | (simp; done) | (simp [*]; done), by repeat (first | exact Drawn0.refl _ | apply Drawn0.step)⟩
  rw [if_pos c22] at H
  have c22b0 : decide (65 ≤ a0) = true := decide_eq_true c22
  clear c22
  by_cases c23 : a0 ≤ 90
  ·
   rw [if_pos c23] at H
   have c23b0 : decide (a0 ≤ 90) = true := decide_eq_true c23
   clear c23
   obtain rfl := Option.some.inj H
   go_enter Tryd.func66, Tryd.ntmps66
   go_wp2
   go_ret
   exact ⟨by first | rfl | (simp; done) | (simp [*]; done), by repeat (first | exact Drawn0.refl _ | apply Drawn0.step)⟩
  rw [if_neg c23] at H
  have c23b0 : decide (a0 ≤ 90) = false := decide_eq_false c23
  clear c23
  by_cases c24 : a0 ≥ 48
  rotate_left
  ·
   rw [if_neg c24] at H
   have c24b0 : decide (48 ≤ a0) = false := decide_eq_false c24
   clear c24
   by_cases c29 : a0 = 45
   ·
    rw [if_pos c29] at H
    have c29b0 : (a0 == 45) = true := beq_iff_eq.mpr c29
    have c29b1 : (a0 != 45) = false := bne_eq_false_iff_eq.mpr c29
    clear c29
    obtain rfl := Option.some.inj H
    go_enter Tryd.func66, Tryd.ntmps66
    go_wp2
    go_ret
    exact ⟨by first | rfl | (simp; done) | (simp [*]; done), by repeat (first | exact Drawn0.refl _ | apply Drawn0.step)⟩
   rw [if_neg c29] at H
   have c29b0 : (a0 == 45) = false := beq_eq_false_iff_ne.mpr c29
   have c29b1 : (a0 != 45) = true := bne_iff_ne.mpr c29
   by_cases c30 : a0 = 95
   ·
    rw [if_pos c30] at H
    have c30b0 : (a0 == 95) = true := beq_iff_eq.mpr c30
    have c30b1 : (a0 != 95) = false := bne_eq_false_iff_eq.mpr c30
    clear c30
    obtain rfl := Option.some.inj H
    go_enter Tryd.func66, Tryd.ntmps66
    go_wp2
    go_ret
    exact ⟨by first | rfl | (simp; done) | (simp [*]; done), by repeat (first | exact Drawn0.refl _ | apply Drawn0.step)⟩
   rw [if_neg c30] at H
   have c30b0 : (a0 == 95) = false := beq_eq_false_iff_ne.mpr c30
   have c30b1 : (a0 != 95) = true := bne_iff_ne.mpr c30
   by_cases c31 : a0 = 46
   rotate_left
   ·
    rw [if_neg c31] at H
    have c31b0 : (a0 == 46) = false := beq_eq_false_iff_ne.mpr c31
    have c31b1 : (a0 != 46) = true := bne_iff_ne.mpr c31
    obtain rfl := Option.some.inj H
    go_enter Tryd.func66, Tryd.ntmps66
    go_wp2
    go_ret
    exact ⟨by first | rfl | (simp; done) | (simp [*]; done), by repeat (first | exact Drawn0.refl _ | apply Drawn0.step)⟩
   rw [if_pos c31] at H
   have c31b0 : (a0 == 46) = true := beq_iff_eq.mpr c31
   have c31b1 : (a0 != 46) = false := bne_eq_false_iff_eq.mpr c31
   clear c31
   obtain rfl := Option.some.inj H
   go_enter Tryd.func66, Tryd.ntmps66
   go_wp2
   go_ret
   exact ⟨by first | rfl | (simp; done) | (simp [*]; done), by repeat (first | exact Drawn0.refl _ | apply Drawn0.step)⟩
  rw [if_pos c24] at H
  have c24b0 : decide (48 ≤ a0) = true := decide_eq_true c24
  clear c24
  by_cases c25 : a0 ≤ 57
  ·
   rw [if_pos c25] at H
   have c25b0 : decide (a0 ≤ 57) = true := decide_eq_true c25
   clear c25
   obtain rfl := Option.some.inj H
   go_enter Tryd.func66, Tryd.ntmps66
   go_wp2
   go_ret
   exact ⟨by first | rfl | (simp; done) | (simp [*]; done), by repeat (first | exact Drawn0.refl _ | apply Drawn0.step)⟩
  rw [if_neg c25] at H
  have c25b0 : decide (a0 ≤ 57) = false := decide_eq_false c25
  clear c25
  by_cases c26 : a0 = 45
  ·
   rw [if_pos c26] at H
   have c26b0 : (a0 == 45) = true := beq_iff_eq.mpr c26
   have c26b1 : (a0 != 45) = false := bne_eq_false_iff_eq.mpr c26
   clear c26
   obtain rfl := Option.some.inj H
   go_enter Tryd.func66, Tryd.ntmps66
   go_wp2
   go_ret
   exact ⟨by first | rfl | (simp; done) | (simp [*]; done), by repeat (first | exact Drawn0.refl _ | apply Drawn0.step)⟩
  rw [if_neg c26] at H
  have c26b0 : (a0 == 45) = false := beq_eq_false_iff_ne.mpr c26
  have c26b1 : (a0 != 45) = true := bne_iff_ne.mpr c26
  by_cases c27 : a0 = 95
  ·
   rw [if_pos c27] at H
   have c27b0 : (a0 == 95) = true := beq_iff_eq.mpr c27
   have c27b1 : (a0 != 95) = false := bne_eq_false_iff_eq.mpr c27
   clear c27
   obtain rfl := Option.some.inj H
   go_enter Tryd.func66, Tryd.ntmps66
   go_wp2
   go_ret
   exact ⟨by first | rfl | (simp; done) | (simp [*]; done), by repeat (first | exact Drawn0.refl _ | apply Drawn0.step)⟩
  rw [if_neg c27] at H
  have c27b0 : (a0 == 95) = false := beq_eq_false_iff_ne.mpr c27
  have c27b1 : (a0 != 95) = true := bne_iff_ne.mpr c27
  by_cases c28 : a0 = 46
  rotate_left
  ·
   rw [if_neg c28] at H
   have c28b0 : (a0 == 46) = false := beq_eq_false_iff_ne.mpr c28
   have c28b1 : (a0 != 46) = true := bne_iff_ne.mpr c28
   obtain rfl := Option.some.inj H
   go_enter Tryd.func66, Tryd.ntmps66
   go_wp2
   go_ret
   exact ⟨by first | rfl | (simp; done) | (simp [*]; done), by repeat (first | exact Drawn0.refl _ | apply Drawn0.step)⟩
  rw [if_pos c28] at H
  have c28b0 : (a0 == 46) = true := beq_iff_eq.mpr c28
  have c28b1 : (a0 != 46) = false := bne_eq_false_iff_eq.mpr c28
  clear c28
  obtain rfl := Option.some.inj H
  go_enter Tryd.func66, Tryd.ntmps66
  go_wp2
  go_ret
  exact ⟨by first | rfl | (simp; done) | (simp [*]; done), by repeat (first | exact Drawn0.refl _ | apply Drawn0.step)⟩
 rw [if_pos c2] at H
 have c2b0 : decide (97 ≤ a0) = true := decide_eq_true c2
 clear c2
 by_cases c3 : a0 ≤ 122
 ·
  rw [if_pos c3] at H
  have c3b0 : decide (a0 ≤ 122) = true := decide_eq_true c3
  clear c3
  obtain rfl := Option.some.inj H
  go_enter Tryd.func66, Tryd.ntmps66
  go_wp2
  go_ret
  exact ⟨by first | rfl | (simp; done) | (simp [*]; done), by repeat (first | exact Drawn0.refl _ | apply Drawn0.step)⟩
 rw [if_neg c3] at H
 have c3b0 : decide (a0 ≤ 122) = false := decide_eq_false c3
 clear c3
 by_cases c4 : a0 ≥ 65
 rotate_left
 ·
  rw [if_neg c4] at H
  have c4b0 : decide (65 ≤ a0) = false := decide_eq_false c4
  clear c4
  by_cases c14 : a0 ≥ 48
  rotate_left
  ·
   rw [if_neg c14] at H
   have c14b0 : decide (48 ≤ a0) = false := decide_eq_false c14
   clear c14
   by_cases c19 : a0 = 45
   ·
    rw [if_pos c19] at H
    have c19b0 : (a0 == 45) = true := beq_iff_eq.mpr c19
    have c19b1 : (a0 != 45) = false := bne_eq_false_iff_eq.mpr c19
    clear c19
    obtain rfl := Option.some.inj H
    go_enter Tryd.func66, Tryd.ntmps66
    go_wp2
    go_ret
    exact ⟨by first | rfl | (simp; done) | (simp [*]; done), by repeat (first | exact Drawn0.refl _ | apply Drawn0.step)⟩
   rw [if_neg c19] at H
   have c19b0 : (a0 == 45) = false := beq_eq_false_iff_ne.mpr c19
   have c19b1 : (a0 != 45) = true := bne_iff_ne.mpr c19
   by_cases c20 : a0 = 95
   ·
    rw [if_pos c20] at H
    have c20b0 : (a0 == 95) = true := beq_iff_eq.mpr c20
    have c20b1 : (a0 != 95) = false := bne_eq_false_iff_eq.mpr c20
    clear c20
    obtain rfl := Option.some.inj H
    go_enter Tryd.func66, Tryd.ntmps66
    go_wp2
    go_ret
    exact ⟨by first | rfl | (simp; done) | (simp [*]; done), by repeat (first | exact Drawn0.refl _ | apply Drawn0.step)⟩
   rw [if_neg c20] at H
   have c20b0 : (a0 == 95) = false := beq_eq_false_iff_ne.mpr c20
   have c20b1 : (a0 != 95) = true := bne_iff_ne.mpr c20
   by_cases c21 : a0 = 46
   rotate_left
   ·
    rw [if_neg c21] at H
    have c21b0 : (a0 == 46) = false := beq_eq_false_iff_ne.mpr c21
    have c21b1 : (a0 != 46) = true := bne_iff_ne.mpr c21
    obtain rfl := Option.some.inj H
    go_enter Tryd.func66, Tryd.ntmps66
    go_wp2
    go_ret
    exact ⟨by first | rfl | (simp; done) | (simp [*]; done), by repeat (first | exact Drawn0.refl _ | apply Drawn0.step)⟩
   rw [if_pos c21] at H
   have c21b0 : (a0 == 46) = true := beq_iff_eq.mpr c21
   have c21b1 : (a0 != 46) = false := bne_eq_false_iff_eq.mpr c21
   clear c21
   obtain rfl := Option.some.inj H
   go_enter Tryd.func66, Tryd.ntmps66
   go_wp2
   go_ret
   exact ⟨by first | rfl | (simp; done) | (simp [*]; done), by repeat (first | exact Drawn0.refl _ | apply Drawn0.step)⟩
  rw [if_pos c14] at H
  have c14b0 : decide (48 ≤ a0) = true := decide_eq_true c14
  clear c14
  by_cases c15 : a0 ≤ 57
  ·
   rw [if_pos c15] at H
   have c15b0 : decide (a0 ≤ 57) = true := decide_eq_true c15
   clear c15
   obtain rfl := Option.some.inj H
   go_enter Tryd.func66, Tryd.ntmps66
   go_wp2
   go_ret
   exact ⟨by first | rfl | (simp; done) | (simp [*]; done), by repeat (first | exact Drawn0.refl _ | apply Drawn0.step)⟩
  rw [if_neg c15] at H
  have c15b0 : decide (a0 ≤ 57) = false := decide_eq_false c15
  clear c15
  by_cases c16 : a0 = 45
  ·
   rw [if_pos c16] at H
   have c16b0 : (a0 == 45) = true := beq_iff_eq.mpr c16
   have c16b1 : (a0 != 45) = false := bne_eq_false_iff_eq.mpr c16
   clear c16
   obtain rfl := Option.some.inj H
   go_enter Tryd.func66, Tryd.ntmps66
   go_wp2
   go_ret
   exact ⟨by first | rfl | (simp; done) | (simp [*]; done), by repeat (first | exact Drawn0.refl _ | apply Drawn0.step)⟩
  rw [if_neg c16] at H
  have c16b0 : (a0 == 45) = false := beq_eq_false_iff_ne.mpr c16
  have c16b1 : (a0 != 45) = true := bne_iff_ne.mpr c16
  by_cases c17 : a0 = 95
  ·
   rw [if_pos c17] at H
   have c17b0 : (a0 == 95) = true := beq_iff_eq.mpr c17
   have c17b1 : (a0 != 95) = false := bne_eq_false_iff_eq.mpr c17
   clear c17
   obtain rfl := Option.some.inj H
   go_enter Tryd.func66, Tryd.ntmps66
   go_wp2
   go_ret
   exact ⟨by first | rfl | (simp; done) | (simp [*]; done), by repeat (first | exact Drawn0.refl _ | apply Drawn0.step)⟩
  rw [if_neg c17] at H
  have c17b0 : (a0 == 95) = false := beq_eq_false_iff_ne.mpr c17
  have c17b1 : (a0 != 95) = true := bne_iff_ne.mpr c17
  by_cases c18 : a0 = 46
  rotate_left
  ·
   rw [if_neg c18] at H
   have c18b0 : (a0 == 46) = false := beq_eq_false_iff_ne.mpr c18
   have c18b1 : (a0 != 46) = true := bne_iff_ne.mpr c18
   obtain rfl := Option.some.inj H
   go_enter Tryd.func66, Tryd.ntmps66
   go_wp2
   go_ret
   exact ⟨by first | rfl | (simp; done) | (simp [*]; done), by repeat (first | exact Drawn0.refl _ | apply Drawn0.step)⟩
  rw [if_pos c18] at H
  have c18b0 : (a0 == 46) = true := beq_iff_eq.mpr c18
  have c18b1 : (a0 != 46) = false := bne_eq_false_iff_eq.mpr c18
  clear c18
  obtain rfl := Option.some.inj H
  go_enter Tryd.func66, Tryd.ntmps66
  go_wp2
  go_ret
  exact ⟨by first | rfl | (simp; done) | (simp [*]; done), by repeat (first | exact Drawn0.refl _ | apply Drawn0.step)⟩
 rw [if_pos c4] at H
 have c4b0 : decide (65 ≤ a0) = true := decide_eq_true c4
 clear c4
 by_cases c5 : a0 ≤ 90
 ·
  rw [if_pos c5] at H
  have c5b0 : decide (a0 ≤ 90) = true := decide_eq_true c5
  clear c5
  obtain rfl := Option.some.inj H
  go_enter Tryd.func66, Tryd.ntmps66
  go_wp2
  go_ret
  exact ⟨by first | rfl | (simp; done) | (simp [*]; done), by repeat (first | exact Drawn0.refl _ | apply Drawn0.step)⟩
 rw [if_neg c5] at H
 have c5b0 : decide (a0 ≤ 90) = false := decide_eq_false c5
 clear c5
 by_cases c6 : a0 ≥ 48
 rotate_left
 ·
  rw [if_neg c6] at H
  have c6b0 : decide (48 ≤ a0) = false := decide_eq_false c6
  clear c6
  by_cases c11 : a0 = 45
  ·
   rw [if_pos c11] at H
   have c11b0 : (a0 == 45) = true := beq_iff_eq.mpr c11
   have c11b1 : (a0 != 45) = false := bne_eq_false_iff_eq.mpr c11
   clear c11
   obtain rfl := Option.some.inj H
   go_enter Tryd.func66, Tryd.ntmps66
   go_wp2
   go_ret
   exact ⟨by first | rfl | (simp; done) | (simp [*]; done), by repeat (first | exact Drawn0.refl _ | apply Drawn0.step)⟩
  rw [if_neg c11] at H
  have c11b0 : (a0 == 45) = false := beq_eq_false_iff_ne.mpr c11
  have c11b1 : (a0 != 45) = true := bne_iff_ne.mpr c11
  by_cases c12 : a0 = 95
  ·
   rw [if_pos c12] at H
   have c12b0 : (a0 == 95) = true := beq_iff_eq.mpr c12
   have c12b1 : (a0 != 95) = false := bne_eq_false_iff_eq.mpr c12
   clear c12
   obtain rfl := Option.some.inj H
   go_enter Tryd.func66, Tryd.ntmps66
   go_wp2
   go_ret
   exact ⟨by first | rfl | (simp; done) | (simp [*]; done), by repeat (first | exact Drawn0.refl _ | apply Drawn0.step)⟩
  rw [if_neg c12] at H
  have c12b0 : (a0 == 95) = false := beq_eq_false_iff_ne.mpr c12
  have c12b1 : (a0 != 95) = true := bne_iff_ne.mpr c12
  by_cases c13 : a0 = 46
  rotate_left
  ·
   rw [if_neg c13] at H
   have c13b0 : (a0 == 46) = false := beq_eq_false_iff_ne.mpr c13
   have c13b1 : (a0 != 46) = true := bne_iff_ne.mpr c13
   obtain rfl := Option.some.inj H
   go_enter Tryd.func66, Tryd.ntmps66
   go_wp2
   go_ret
   exact ⟨by first | rfl | (simp; done) | (simp [*]; done), by repeat (first | exact Drawn0.refl _ | apply Drawn0.step)⟩
  rw [if_pos c13] at H
  have c13b0 : (a0 == 46) = true := beq_iff_eq.mpr c13
  have c13b1 : (a0 != 46) = false := bne_eq_false_iff_eq.mpr c13
  clear c13
  obtain rfl := Option.some.inj H
  go_enter Tryd.func66, Tryd.ntmps66
  go_wp2
  go_ret
  exact ⟨by first | rfl | (simp; done) | (simp [*]; done), by repeat (first | exact Drawn0.refl _ | apply Drawn0.step)⟩
 rw [if_pos c6] at H
 have c6b0 : decide (48 ≤ a0) = true := decide_eq_true c6
 clear c6
 by_cases c7 : a0 ≤ 57
 ·
  rw [if_pos c7] at H
  have c7b0 : decide (a0 ≤ 57) = true := decide_eq_true c7
  clear c7
  obtain rfl := Option.some.inj H
  go_enter Tryd.func66, Tryd.ntmps66
  go_wp2
  go_ret
  exact ⟨by first | rfl | (simp; done) | (simp [*]; done), by repeat (first | exact Drawn0.refl _ | apply Drawn0.step)⟩
 rw [if_neg c7] at H
 have c7b0 : decide (a0 ≤ 57) = false := decide_eq_false c7
 clear c7
 by_cases c8 : a0 = 45
 ·
  rw [if_pos c8] at H
  have c8b0 : (a0 == 45) = true := beq_iff_eq.mpr c8
  have c8b1 : (a0 != 45) = false := bne_eq_false_iff_eq.mpr c8
  clear c8
  obtain rfl := Option.some.inj H
  go_enter Tryd.func66, Tryd.ntmps66
  go_wp2
  go_ret
  exact ⟨by first | rfl | (simp; done) | (simp [*]; done), by repeat (first | exact Drawn0.refl _ | apply Drawn0.step)⟩
 rw [if_neg c8] at H
 have c8b0 : (a0 == 45) = false := beq_eq_false_iff_ne.mpr c8
 have c8b1 : (a0 != 45) = true := bne_iff_ne.mpr c8
 by_cases c9 : a0 = 95
 ·
  rw [if_pos c9] at H
  have c9b0 : (a0 == 95) = true := beq_iff_eq.mpr c9
  have c9b1 : (a0 != 95) = false := bne_eq_false_iff_eq.mpr c9
  clear c9
  obtain rfl := Option.some.inj H
  go_enter Tryd.func66, Tryd.ntmps66
  go_wp2
  go_ret
  exact ⟨by first | rfl | (simp; done) | (simp [*]; done), by repeat (first | exact Drawn0.refl _ | apply Drawn0.step)⟩
 rw [if_neg c9] at H
 have c9b0 : (a0 == 95) = false := beq_eq_false_iff_ne.mpr c9
 have c9b1 : (a0 != 95) = true := bne_iff_ne.mpr c9
 by_cases c10 : a0 = 46
 rotate_left
 ·
  rw [if_neg c10] at H
  have c10b0 : (a0 == 46) = false := beq_eq_false_iff_ne.mpr c10
  have c10b1 : (a0 != 46) = true := bne_iff_ne.mpr c10
  obtain rfl := Option.some.inj H
  go_enter Tryd.func66, Tryd.ntmps66
  go_wp2
  go_ret
  exact ⟨by first | rfl | (simp; done) | (simp [*]; done), by repeat (first | exact Drawn0.refl _ | apply Drawn0.step)⟩
 rw [if_pos c10] at H
 have c10b0 : (a0 == 46) = true := beq_iff_eq.mpr c10
 have c10b1 : (a0 != 46) = false := bne_eq_false_iff_eq.mpr c10
 clear c10
 obtain rfl := Option.some.inj H
 go_enter Tryd.func66, Tryd.ntmps66
 go_wp2
 go_ret
 exact ⟨by first | rfl | (simp; done) | (simp [*]; done), by repeat (first | exact Drawn0.refl _ | apply Drawn0.step)⟩

/-- Is some rune of the text, from a place on, one that is not written as it is? -/
def oddFrom (s : ByteArray) : Nat → Nat → Bool → Bool
  | 0, _, b => b
  | f + 1, pos, b => if pos < s.size then oddFrom s f (pos + (Utf8.decode s pos).2) (b || (decide (((Utf8.decode s pos).1 : Int) > 127) || !((impl_safe.f ((Utf8.decode s pos).1 : Int)).getD false))) else b
def impl_oddOf.f (a0 : ByteArray) : Option Bool := some (oddFrom a0 a0.size 0 false)
theorem oddFrom_end (s : ByteArray) (f pos : Nat) (b : Bool) (h : ¬ pos < s.size) : oddFrom s f pos b = b := by
  cases f with
  | zero => rfl
  | succ f => simp [oddFrom, h]
theorem odd_width (s : ByteArray) (pos : Nat) (h : pos < s.size) : 1 ≤ (Utf8.decode s pos).2 := by
  by_cases ha : (s[pos]'h).toNat < 128
  rotate_left
  · exact (decode_high s pos h (by omega)).2
  rw [decode_ascii s pos h ha]
  exact Nat.le_refl _
theorem safe_some (x : Int) : ∃ t, impl_safe.f x = some t := by
  unfold impl_safe.f
  repeat' split
  all_goals exact ⟨_, rfl⟩
/-! ### impl_escaped: function 40 -/
def impl_escaped.l0 : Nat → ByteArray → List Int → Int → Int → Option (ByteArray)
  | 0, _, _, _, _ => none
  | k + 1, x0, x6, x30, x31 => if x31 < x30 then (if 0 ≤ x31 then (if x31 < (x0.size : Int) then ((impl_safe.f (bt x0 x31)).bind fun t207 => (if t207 = true then (if x6.length < 140737488355328 then (impl_escaped.l0 k x0 (x6 ++ [bt x0 x31]) x30 (wrap64 (x31 + 1))) else (none)) else (if 0 ≤ ((bt x0 x31) / 16) then (if ((bt x0 x31) / 16) < 16 then (if 0 ≤ (Go.bits .and .u8 (bt x0 x31) 15) then (if (Go.bits .and .u8 (bt x0 x31) 15) < 16 then ((some (([37, bt (⟨#[48, 49, 50, 51, 52, 53, 54, 55, 56, 57, 65, 66, 67, 68, 69, 70]⟩ : ByteArray) ((bt x0 x31) / 16), bt (⟨#[48, 49, 50, 51, 52, 53, 54, 55, 56, 57, 65, 66, 67, 68, 69, 70]⟩ : ByteArray) (Go.bits .and .u8 (bt x0 x31) 15)] : List Int) : List Int)).bind fun y211 => (if x6.length + y211.length < 140737488355328 then (impl_escaped.l0 k x0 (x6 ++ y211) x30 (wrap64 (x31 + 1))) else (none))) else (none)) else (none)) else (none)) else (none)))) else (none)) else (none)) else (some (strOfNums x6))
def impl_escaped.f (k : Nat) (a0 : ByteArray) : Option (ByteArray) := (impl_oddOf.f a0).bind fun t203 => (if t203 = true then (impl_escaped.l0 k a0 (([] : List Int)) (a0.size : Int) 0) else (some a0))
theorem impl_escaped.mono_l : ∀ k, (∀ y0 y1 y2 y3, LeO (impl_escaped.l0 k y0 y1 y2 y3) (impl_escaped.l0 (k + 1) y0 y1 y2 y3))
  | 0 => fun _ _ _ _ r h => by simp [impl_escaped.l0] at h
  | k + 1 => by
    have ih0 := impl_escaped.mono_l k
    · intro y0 y1 y2 y3
      unfold impl_escaped.l0
      repeat' first
      | (with_reducible exact ih0 _ _ _ _)
      | (with_reducible exact LeO.refl _)
      | (with_reducible exact LeO.none _)
      | (with_reducible refine LeO.ite ?_ ?_)
      | (with_reducible refine LeO.bind ?_ (fun _ => ?_))
      | exact ih0 _ _ _ _
      | exact LeO.none _
      | refine LeO.ite ?_ ?_
      | refine LeO.bind ?_ (fun _ => ?_)
theorem impl_escaped.mono : ∀ a0 k, LeO (impl_escaped.f k a0) (impl_escaped.f (k + 1) a0) := by
  intro a0 k
  have ih0 := impl_escaped.mono_l k
  unfold impl_escaped.f
  repeat' first
      | (with_reducible exact ih0 _ _ _ _)
      | (with_reducible exact LeO.refl _)
      | (with_reducible exact LeO.none _)
      | (with_reducible refine LeO.ite ?_ ?_)
      | (with_reducible refine LeO.bind ?_ (fun _ => ?_))
      | exact ih0 _ _ _ _
      | exact LeO.none _
      | refine LeO.ite ?_ ?_
      | refine LeO.bind ?_ (fun _ => ?_)
def impl_escaped.T15 : Bool × List (List Nat × List Nat) := (true, [([], []), ([], []), ([1], [1]), ([2], [2]), ([], []), ([4], [4]), ([5], [5]), ([3, 6], [3, 6]), ([0, 7], [0, 7]), ([8, 8, 0, 1, 2, 3, 4, 5, 6, 7, 8], [0, 8])])
def impl_escaped.B15 : List Nat := [0, 0, 2, 6, 0, 16, 48, 126, 255, 511]
theorem impl_escaped.tab15 : rtab .any (opsOf Tryd.f40 15) = impl_escaped.T15 := by kernel_rfl
theorem impl_escaped.bits15 : waitsOk impl_escaped.T15.2 impl_escaped.B15 = true := by kernel_rfl
set_option maxHeartbeats 8000000 in
set_option maxRecDepth 100000 in
theorem impl_escaped.calls (k : Nat) (a0 : ByteArray) (r : ByteArray) (w : World) (h : impl_escaped.f k a0 = some r) :
  Calls Tryd.prog 40 #[.string a0] w fun e w' => e = .returned (.string r) ∧ Below w.heap.size w w' := by
 have HB := Aside0.mk (Below.refl w.heap.size w)
 have H : ((impl_oddOf.f a0).bind fun t203 => (if t203 = true then (impl_escaped.l0 k a0 (([] : List Int)) (a0.size : Int) 0) else (some a0))) = some r := h
 clear h
 replace H := Option.bind_eq_some_iff.mp H
 obtain ⟨t203, A20, H⟩ := H
 replace H : (if t203 = true then (impl_escaped.l0 k a0 (([] : List Int)) (a0.size : Int) 0) else (some a0)) = some r := H
 have A2 := Aside0.mk A20
 clear A20
 have hodd : oddFrom a0 a0.size 0 false = t203 := Option.some.inj A2.out
 go_enter Tryd.func40, Tryd.ntmps40
 go_wp2
 go_loopw [3] (fun v3 w' => ∃ (n pos f : Nat) (b : Bool), w' = (w.drewN n).iter a0 pos ∧ v3 = .bool b ∧ oddFrom a0 f pos b = t203 ∧ a0.size ≤ pos + f) (fun _ w' => a0.size - w'.iterPos w.heap.size)
 case atStart => exact ⟨0, 0, a0.size, false, rfl, rfl, hodd, by omega⟩
 case round =>
  obtain ⟨n, pos, f, b, rfl, rfl, hc, hb⟩ := hrel
  by_cases hp : pos < a0.size
  ·
   have hnx : ∀ ty, (Instr.next (.pointer (some ⟨w.heap.size, 0, none⟩)) true ty).run Tryd.prog ((w.drewN n).iter a0 pos) = _ := fun ty => run_next_any (w.drewN n) a0 pos ty hp
   have hwd := odd_width a0 pos hp
   have hle := decode_le a0 pos
   cases f with
   | zero => omega
   | succ f =>
    rw [oddFrom, if_pos hp] at hc
    cases b with
    | true =>
     go_wp2
     go_roundw
     case rel => exact ⟨n, _, f, true, rfl, rfl, by simpa using hc, by omega⟩
     case measure => exact (show a0.size - ((w.drewN n).iter a0 (pos + (Utf8.decode a0 pos).2)).iterPos (w.drewN n).heap.size < a0.size - ((w.drewN n).iter a0 pos).iterPos (w.drewN n).heap.size from by rw [World.iterPos_iter, World.iterPos_iter]; omega)
    | false =>
     by_cases hr : (127 : Int) < ((Utf8.decode a0 pos).1 : Int)
     ·
      have hr1 : decide ((127 : Int) < ((Utf8.decode a0 pos).1 : Int)) = true := decide_eq_true hr
      go_wp2
      go_roundw
      case rel => exact ⟨n, _, f, true, rfl, rfl, by simpa [hr] using hc, by omega⟩
      case measure => exact (show a0.size - ((w.drewN n).iter a0 (pos + (Utf8.decode a0 pos).2)).iterPos (w.drewN n).heap.size < a0.size - ((w.drewN n).iter a0 pos).iterPos (w.drewN n).heap.size from by rw [World.iterPos_iter, World.iterPos_iter]; omega)
     have hr1 : decide ((127 : Int) < ((Utf8.decode a0 pos).1 : Int)) = false := decide_eq_false hr
     obtain ⟨t, ht⟩ := safe_some ((Utf8.decode a0 pos).1 : Int)
     have A9 := Aside0.mk ht
     go_wp2_with (first | (go_at_call 66; (with_reducible refine (impl_safe.calls ((Utf8.decode a0 pos).1 : Int) t _ A9.out).mono ?_); rintro e w' ⟨rfl, ⟨nd, rfl⟩⟩))
     go_roundw
     case rel => exact ⟨n + nd, pos + (Utf8.decode a0 pos).2, f, !t, (by rw [← World.drewN_drewN]; rfl), rfl, by rw [← hc, ht]; simp only [Option.getD_some, Bool.false_or]; rw [show decide (((Utf8.decode a0 pos).1 : Int) > 127) = false from hr1, Bool.false_or], by omega⟩
     case measure => exact (show a0.size - ((w.drewN n).iter a0 (pos + (Utf8.decode a0 pos).2)).iterPos (w.drewN n).heap.size < a0.size - ((w.drewN n).iter a0 pos).iterPos (w.drewN n).heap.size from by rw [World.iterPos_iter, World.iterPos_iter]; omega)
  have hnx : ∀ ty, (Instr.next (.pointer (some ⟨w.heap.size, 0, none⟩)) true ty).run Tryd.prog ((w.drewN n).iter a0 pos) = _ := fun ty => run_next_end (w.drewN n) a0 pos ty hp
  rw [oddFrom_end a0 f pos b hp] at hc
  have hc' := hc.symm
  subst hc'
  clear hc hodd HB
  have HB : Aside0 (Below w.heap.size w ((w.drewN n).iter a0 pos)) := ⟨below_alloc (pw_below_drewN (Below.refl _ _) n) _⟩
  by_cases c3 : t203 = true
  rotate_left
  ·
   replace c3 := Bool.eq_false_iff.mpr c3
   subst c3
   have H1 : (some a0) = some r := by rw [if_neg (show ¬ (false = true) by decide)] at H; exact H
   clear H
   have H := H1
   clear H1
   obtain rfl := Option.some.inj H
   go_wp2
   go_ret
   exact ⟨by first | rfl | (simp [errW_none, errW_some] <;> rfl) | (simp [*, errW_none, errW_some] <;> rfl), by first | exact Grow.bl HB.out | exact HB.out⟩
  subst c3
  have H1 : (impl_escaped.l0 k a0 (([] : List Int)) (a0.size : Int) 0) = some r := by rw [if_pos rfl] at H; exact H
  clear H
  have H := H1
  clear H1
  obtain ⟨y204, hy204⟩ : ∃ y_ : List Int, y_ = (([] : List Int)) := ⟨_, rfl⟩
  replace H : (impl_escaped.l0 k a0 y204 (a0.size : Int) 0) = some r := by first | (rw [hy204]; with_reducible exact H) | (have H2_ := (Option.bind_some _ _).symm.trans H; rw [hy204]; with_reducible exact H2_) | (have H2_ := (Option.bind_some _ _).symm.trans H; with_reducible exact H2_) | with_reducible exact H | (rw [hy204]; exact H) | exact H
  have Ny204 := Aside0.mk hy204
  clear hy204
  have H' := Aside0.mk H
  clear H
  go_wp2_with (first | ((with_reducible refine gate_dst (N := 28) rfl ?_); refine Kd.R_lit (Kd.int .u8) _ 5 ?hg (N := 28) ?hd (xs := ([] : List Int)) (inner := []) (ok := fun _ => True) (okp := fun _ => True) ?hr ?hp (fun _ hk => hk) trivial (Below.refl _ _) (Nat.le_refl _) (by simp) ?_; (case hd => rfl); (case hg => rfl); (case hr => first | (go_simp; done) | (go_simp; rfl)); (case hp => exact (Reps.none _ _)); intro v205 w4 ho5 hb hg_ hnew_; clear hg_ hnew_; (first | rw [← Ny204.out] at ho5 | (simp only [Int.reduceToNat] at ho5; rw [← Ny204.out] at ho5)); have n0_ := Aside0.mk (Kd.R_lower ho5 (below_size (by first | exact Grow.bl HB.out | exact HB.out))); have n1_ := Aside0.mk (below_step (by first | exact Grow.bl HB.out | exact HB.out) hb); clear HB; have HO206 := n0_; have HB := n1_; clear n0_ n1_; clear hb ho5))
  go_loopg [6, 31] k (fun kq v6 v31 w' => ∃ (x6_1 : List Int) (x31_1 : Int), v31 = .int .i64 x31_1 ∧ Aside0 (impl_escaped.l0 kq a0 x6_1 (a0.size : Int) x31_1 = some r) ∧ Aside0 (kq ≤ k) ∧ Aside0 (Kd.R (Kd.int .u8) 5 w' w.heap.size (fun _ => True) v6 x6_1) ∧ Aside0 (Below w.heap.size w w'))
  case atStart => exact ⟨(y204), (0), (by first | rfl | (simp; done) | (simp [*]; done)), H', ⟨Nat.le_refl _⟩, ⟨by first | exact Grow.rg HO206.out | exact HO206.out⟩, ⟨by first | exact Grow.bl HB.out | exact HB.out⟩⟩
  case round =>
   clear H'
   try clear p2
   try clear c3
   try clear c4
   obtain ⟨x6_1, x31_1, rfl, HA, HK1, HO_6, HB⟩ := hrel
   cases gk with
   | zero => exact absurd HA.out (by simp [impl_escaped.l0])
   | succ k1 =>
    have H := HA.out
    clear HA
    simp only [impl_escaped.l0] at H
    by_cases c6 : x31_1 < (a0.size : Int)
    rotate_left
    ·
     rw [if_neg c6] at H
     have c6b0 : decide (x31_1 < (a0.size : Int)) = false := decide_eq_false c6
     clear c6
     obtain rfl := Option.some.inj H
     have hcv27 := own_string (P := Tryd.prog) Tryd.underlying81 Tryd.underlying5 Tryd.underlying9 (Kd.own_of_R HO_6.out)
     go_wp2
     go_ret
     exact ⟨by first | rfl | (simp [errW_none, errW_some] <;> rfl) | (simp [*, errW_none, errW_some] <;> rfl), by first | exact Grow.bl HB.out | exact HB.out⟩
    rw [if_pos c6] at H
    have c6b0 : decide (x31_1 < (a0.size : Int)) = true := decide_eq_true c6
    clear c6
    by_cases c7 : 0 ≤ x31_1
    rotate_left
    ·
     rw [if_neg c7] at H
     exact absurd H (by simp)
    rw [if_pos c7] at H
    have c7b0 : decide (0 ≤ x31_1) = true := decide_eq_true c7
    clear c7
    by_cases c8 : x31_1 < (a0.size : Int)
    rotate_left
    ·
     exact absurd (of_decide_eq_true c6b0) c8
    rw [if_pos c8] at H
    have c8b0 : decide (x31_1 < (a0.size : Int)) = true := decide_eq_true c8
    clear c8
    replace H := Option.bind_eq_some_iff.mp H
    obtain ⟨t207, A100, H⟩ := H
    replace H : (if t207 = true then (if x6_1.length < 140737488355328 then (impl_escaped.l0 k1 a0 (x6_1 ++ [bt a0 x31_1]) (a0.size : Int) (wrap64 (x31_1 + 1))) else (none)) else (if 0 ≤ ((bt a0 x31_1) / 16) then (if ((bt a0 x31_1) / 16) < 16 then (if 0 ≤ (Go.bits .and .u8 (bt a0 x31_1) 15) then (if (Go.bits .and .u8 (bt a0 x31_1) 15) < 16 then ((some (([37, bt (⟨#[48, 49, 50, 51, 52, 53, 54, 55, 56, 57, 65, 66, 67, 68, 69, 70]⟩ : ByteArray) ((bt a0 x31_1) / 16), bt (⟨#[48, 49, 50, 51, 52, 53, 54, 55, 56, 57, 65, 66, 67, 68, 69, 70]⟩ : ByteArray) (Go.bits .and .u8 (bt a0 x31_1) 15)] : List Int) : List Int)).bind fun y211 => (if x6_1.length + y211.length < 140737488355328 then (impl_escaped.l0 k1 a0 (x6_1 ++ y211) (a0.size : Int) (wrap64 (x31_1 + 1))) else (none))) else (none)) else (none)) else (none)) else (none))) = some r := H
    have A10 := Aside0.mk A100
    clear A100
    by_cases c11 : t207 = true
    ·
     subst c11
     have H1 : (if x6_1.length < 140737488355328 then (impl_escaped.l0 k1 a0 (x6_1 ++ [bt a0 x31_1]) (a0.size : Int) (wrap64 (x31_1 + 1))) else (none)) = some r := by rw [if_pos rfl] at H; exact H
     clear H
     have H := H1
     clear H1
     by_cases c12 : x6_1.length < 140737488355328
     rotate_left
     ·
      rw [if_neg c12] at H
      exact absurd H (by simp)
     rw [if_pos c12] at H
     have LMc12 := Aside0.mk c12
     clear c12
     obtain ⟨y208, hy208⟩ : ∃ y_ : List Int, y_ = (x6_1 ++ [bt a0 x31_1]) := ⟨_, rfl⟩
     replace H : (impl_escaped.l0 k1 a0 y208 (a0.size : Int) (wrap64 (x31_1 + 1))) = some r := by first | (rw [hy208]; with_reducible exact H) | (have H2_ := (Option.bind_some _ _).symm.trans H; rw [hy208]; with_reducible exact H2_) | (have H2_ := (Option.bind_some _ _).symm.trans H; with_reducible exact H2_) | with_reducible exact H | (rw [hy208]; exact H) | exact H
     have Ny208 := Aside0.mk hy208
     clear hy208
     have H' := Aside0.mk H
     clear H
     have p9 : 0 ≤ (x31_1 : Int) := of_decide_eq_true (by first | (with_reducible assumption) | assumption)
     have q9 : x31_1 < (a0.size : Int) := of_decide_eq_true (by first | (with_reducible assumption) | assumption)
     have hx9 := bt_at a0 x31_1
     replace p9 := eq_true p9
     replace q9 := eq_true q9
     go_wp2_with (first | ((with_reducible refine gate_callee (f := 66) rfl ?_); refine goesL_ (some 38) rfl rfl Tryd.func66 (by kernel_rfl) rfl #[.int .u8 (bt a0 x31_1)] rfl (by (try simp only [List.map_toArray, List.map_cons, List.map_nil]); first | done | rfl | (simp only [List.length_drop, List.length_take]; rfl)) ?_; (with_reducible refine (impl_safe.calls (bt a0 x31_1) true _ A10.out).mono ?_); rintro e w' ⟨rfl, ⟨nd, rfl⟩⟩; refine ⟨_, rfl, ?_⟩) | ((with_reducible refine gate_builtin (b := .append) (xs := #[.tmp 39, .tmp 41]) rfl ?_); at_builtin; refine Kd.R_append (Kd.int .u8) (w0 := w) w.heap.size rfl (.tmp 39) (.tmp 41) 81 5 (.int .u8 0) 1 rfl Tryd.underlying81 info5 rfl (by decide) (by omega) u6 x6_1 (bt a0 x31_1) [.int .u8 (bt a0 x31_1)] (fun _ => True) (fun _ => False) rfl rfl ?aP (fun _ hk => hk.elim) ?aF ?aO ?aB ?aS ?aL ?_; (case aP => exact rfl); (case aB => exact (by first | exact Grow.bl HB.out | exact HB.out)); (case aF => exact (fun _ _ => trivial)); (case aO => exact (by first | exact Grow.rg HO_6.out | exact HO_6.out)); (case aS => exact (below_size (by first | exact Grow.bl HB.out | exact HB.out))); (case aL => have := LMc12.out; omega); intro v209 w13 ho hb hg hat; rw [← Ny208.out] at ho; have n0_ := Aside0.mk (hb); have n1_ := Aside0.mk (ho); clear HB; clear HO_6; have HB := n0_; have HO210 := n1_; clear n0_ n1_; clear ho hb hg hat))
     go_roundg k1
     case measure => have := HK1.out; omega
     case rel => exact ⟨(y208), (wrap64 (x31_1 + 1)), (by first | rfl | (simp; done) | (simp [*]; done)), H', ⟨by have := HK1.out; omega⟩, ⟨by first | exact Grow.rg HO210.out | exact HO210.out⟩, ⟨by first | exact Grow.bl HB.out | exact HB.out⟩⟩
    replace c11 := Bool.eq_false_iff.mpr c11
    subst c11
    have H1 : (if 0 ≤ ((bt a0 x31_1) / 16) then (if ((bt a0 x31_1) / 16) < 16 then (if 0 ≤ (Go.bits .and .u8 (bt a0 x31_1) 15) then (if (Go.bits .and .u8 (bt a0 x31_1) 15) < 16 then ((some (([37, bt (⟨#[48, 49, 50, 51, 52, 53, 54, 55, 56, 57, 65, 66, 67, 68, 69, 70]⟩ : ByteArray) ((bt a0 x31_1) / 16), bt (⟨#[48, 49, 50, 51, 52, 53, 54, 55, 56, 57, 65, 66, 67, 68, 69, 70]⟩ : ByteArray) (Go.bits .and .u8 (bt a0 x31_1) 15)] : List Int) : List Int)).bind fun y211 => (if x6_1.length + y211.length < 140737488355328 then (impl_escaped.l0 k1 a0 (x6_1 ++ y211) (a0.size : Int) (wrap64 (x31_1 + 1))) else (none))) else (none)) else (none)) else (none)) else (none)) = some r := by rw [if_neg (show ¬ (false = true) by decide)] at H; exact H
    clear H
    have H := H1
    clear H1
    obtain ⟨ji14, hji14⟩ : ∃ j_ : Int, ((bt a0 x31_1) / 16) = j_ := ⟨_, rfl⟩
    replace H : (if 0 ≤ (ji14) then (if (ji14) < 16 then (if 0 ≤ (Go.bits .and .u8 (bt a0 x31_1) 15) then (if (Go.bits .and .u8 (bt a0 x31_1) 15) < 16 then ((some (([37, bt (⟨#[48, 49, 50, 51, 52, 53, 54, 55, 56, 57, 65, 66, 67, 68, 69, 70]⟩ : ByteArray) (ji14), bt (⟨#[48, 49, 50, 51, 52, 53, 54, 55, 56, 57, 65, 66, 67, 68, 69, 70]⟩ : ByteArray) (Go.bits .and .u8 (bt a0 x31_1) 15)] : List Int) : List Int)).bind fun y211 => (if x6_1.length + y211.length < 140737488355328 then (impl_escaped.l0 k1 a0 (x6_1 ++ y211) (a0.size : Int) (wrap64 (x31_1 + 1))) else (none))) else (none)) else (none)) else (none)) else (none)) = some r := by first | (rw [hji14] at H; exact H) | (simp only [hji14] at H ⊢; exact H)
    (try rw [hji14] at A10)
    by_cases c15 : 0 ≤ (ji14)
    rotate_left
    ·
     rw [if_neg c15] at H
     exact absurd H (by simp)
    rw [if_pos c15] at H
    have c15b0 : decide (0 ≤ (ji14)) = true := decide_eq_true c15
    clear c15
    by_cases c16 : (ji14) < 16
    rotate_left
    ·
     rw [if_neg c16] at H
     exact absurd H (by simp)
    rw [if_pos c16] at H
    have c16b0 : decide ((ji14) < 16) = true := decide_eq_true c16
    clear c16
    by_cases c18 : 0 ≤ (Go.bits .and .u8 (bt a0 x31_1) 15)
    rotate_left
    ·
     rw [if_neg c18] at H
     exact absurd H (by simp)
    rw [if_pos c18] at H
    have c18b0 : decide (0 ≤ (Go.bits .and .u8 (bt a0 x31_1) 15)) = true := decide_eq_true c18
    clear c18
    by_cases c19 : (Go.bits .and .u8 (bt a0 x31_1) 15) < 16
    rotate_left
    ·
     rw [if_neg c19] at H
     exact absurd H (by simp)
    rw [if_pos c19] at H
    have c19b0 : decide ((Go.bits .and .u8 (bt a0 x31_1) 15) < 16) = true := decide_eq_true c19
    clear c19
    obtain ⟨y211, hy211⟩ : ∃ y_ : List Int, y_ = (([37, bt (⟨#[48, 49, 50, 51, 52, 53, 54, 55, 56, 57, 65, 66, 67, 68, 69, 70]⟩ : ByteArray) (ji14), bt (⟨#[48, 49, 50, 51, 52, 53, 54, 55, 56, 57, 65, 66, 67, 68, 69, 70]⟩ : ByteArray) (Go.bits .and .u8 (bt a0 x31_1) 15)] : List Int)) := ⟨_, rfl⟩
    replace H : (if x6_1.length + y211.length < 140737488355328 then (impl_escaped.l0 k1 a0 (x6_1 ++ y211) (a0.size : Int) (wrap64 (x31_1 + 1))) else (none)) = some r := by first | (rw [hy211]; with_reducible exact H) | (have H2_ := (Option.bind_some _ _).symm.trans H; rw [hy211]; with_reducible exact H2_) | (have H2_ := (Option.bind_some _ _).symm.trans H; with_reducible exact H2_) | with_reducible exact H | (rw [hy211]; exact H) | exact H
    have Ny211 := Aside0.mk hy211
    clear hy211
    by_cases c21 : x6_1.length + y211.length < 140737488355328
    rotate_left
    ·
     rw [if_neg c21] at H
     exact absurd H (by simp)
    rw [if_pos c21] at H
    have LMc21 := Aside0.mk c21
    clear c21
    obtain ⟨y214, hy214⟩ : ∃ y_ : List Int, y_ = (x6_1 ++ y211) := ⟨_, rfl⟩
    replace H : (impl_escaped.l0 k1 a0 y214 (a0.size : Int) (wrap64 (x31_1 + 1))) = some r := by first | (rw [hy214]; with_reducible exact H) | (have H2_ := (Option.bind_some _ _).symm.trans H; rw [hy214]; with_reducible exact H2_) | (have H2_ := (Option.bind_some _ _).symm.trans H; with_reducible exact H2_) | with_reducible exact H | (rw [hy214]; exact H) | exact H
    have Ny214 := Aside0.mk hy214
    clear hy214
    have H' := Aside0.mk H
    clear H
    have p9 : 0 ≤ (x31_1 : Int) := of_decide_eq_true (by first | (with_reducible assumption) | assumption)
    have q9 : x31_1 < (a0.size : Int) := of_decide_eq_true (by first | (with_reducible assumption) | assumption)
    have hx9 := bt_at a0 x31_1
    replace p9 := eq_true p9
    replace q9 := eq_true q9
    try go_wp2_with (first | ((with_reducible refine gate_callee (f := 66) rfl ?_); refine goesL_ (some 38) rfl rfl Tryd.func66 (by kernel_rfl) rfl #[.int .u8 (bt a0 x31_1)] rfl (by (try simp only [List.map_toArray, List.map_cons, List.map_nil]); first | done | rfl | (simp only [List.length_drop, List.length_take]; rfl)) ?_; (with_reducible refine (impl_safe.calls (bt a0 x31_1) false _ A10.out).mono ?_); rintro e w' ⟨rfl, ⟨nd, rfl⟩⟩; refine ⟨_, rfl, ?_⟩))
    (try (rw [drewN_self wr]; generalize hq_ : World.drewN wr _ = wr; have n0_ : Aside0 (Kd.R (Kd.int .u8) 5 wr w.heap.size (fun _ => True) u6 x6_1) := ⟨by rw [← hq_]; exact (by first | exact Grow.rg HO_6.out | exact HO_6.out)⟩; have n1_ : Aside0 (Below w.heap.size w wr) := ⟨by rw [← hq_]; exact (by first | exact Grow.bl HB.out | exact HB.out)⟩; clear HO_6 HB hq_; have HO_6 := n0_; have HB := n1_; clear n0_ n1_))
    have n0_ := Aside0.mk (Kd.R_drew HO_6.out)
    have n1_ := Aside0.mk (below_drew1 HB.out)
    clear HO_6
    clear HB
    have HO_6 := n0_
    have HB := n1_
    clear n0_ n1_
    have p17 : 0 ≤ ((ji14) : Int) := of_decide_eq_true (by first | (with_reducible assumption) | assumption)
    have q17 : (ji14) < (16 : Int) := of_decide_eq_true (by first | (with_reducible assumption) | assumption)
    have hx17 := bt_at (⟨#[48, 49, 50, 51, 52, 53, 54, 55, 56, 57, 65, 66, 67, 68, 69, 70]⟩ : ByteArray) (ji14)
    replace p17 := eq_true p17
    replace q17 := eq_true q17
    have p20 : 0 ≤ ((Go.bits .and .u8 (bt a0 x31_1) 15) : Int) := of_decide_eq_true (by first | (with_reducible assumption) | assumption)
    have q20 : (Go.bits .and .u8 (bt a0 x31_1) 15) < (16 : Int) := of_decide_eq_true (by first | (with_reducible assumption) | assumption)
    have hx20 := bt_at (⟨#[48, 49, 50, 51, 52, 53, 54, 55, 56, 57, 65, 66, 67, 68, 69, 70]⟩ : ByteArray) (Go.bits .and .u8 (bt a0 x31_1) 15)
    replace p20 := eq_true p20
    replace q20 := eq_true q20
    refine start_ (n := 10) (S := fun w' => True) (ds := []) zf0 (by kernel_rfl) rfl rfl trivial (fun hHeld => ?_); refine with_tabW impl_escaped.tab15 impl_escaped.bits15 (fun HT_ HW_ => ?_)
    generalize wr.drew = w22 at HO_6 HB hHeld ⊢
    refine Cap.pu (v := ?_) (a' := ?_) 0 (some 43) zf1 HT_ rfl rfl (by kernel_rfl) (fun _ _ _ h => h) (Or.inl ⟨by rfl, ?_⟩) ?_ ?_; rotate_left; intro w'; go_simp; with_reducible rfl; rotate_left; simp only [Cap.pz]; rfl
    refine Cap.pu (v := ?_) (a' := ?_) 1 (some 44) zf2 HT_ rfl rfl (by kernel_rfl) (fun _ _ _ h => h) (Or.inl ⟨by rfl, ?_⟩) ?_ ?_; rotate_left; intro w'; go_simp; with_reducible rfl; rotate_left; simp only [Cap.pz]; rfl
    refine Cap.pu (v := ?_) (a' := ?_) 2 (some 45) zf3 HT_ rfl rfl (by kernel_rfl) (fun _ _ _ h => h) (Or.inl ⟨by rfl, ?_⟩) ?_ ?_; rotate_left; intro w'; go_simp; with_reducible rfl; rotate_left; simp only [Cap.pz]; rfl
    refine Cap.pu (v := ?_) (a' := ?_) 4 (some 47) zf4 HT_ rfl rfl (by kernel_rfl) (fun _ _ _ h => h) (Or.inl ⟨by rfl, ?_⟩) ?_ ?_; rotate_left; intro w'; go_simp; with_reducible rfl; rotate_left; simp only [Cap.pz]; rfl
    refine Cap.pu (v := ?_) (a' := ?_) 5 (some 48) zf5 HT_ rfl rfl (by kernel_rfl) (fun _ _ _ h => h) (Or.inl ⟨by rfl, ?_⟩) ?_ ?_; rotate_left; intro w'; go_simp; with_reducible rfl; rotate_left; simp only [Cap.pz]; rfl
    refine take_ (i := 3) (N := some 46) (v := ?_) (a' := ?_) zf11 rfl rfl (take_ofW HT_.out HW_.out (by kernel_rfl)) (fun _ _ _ h => h) (Or.inl ⟨by rfl, ?_⟩) hHeld ?_ ?_
    rotate_left
    ·
     intro w' _
     go_simp
     with_reducible rfl
    rotate_left
    ·
     simp only [Cap.pz]
     rfl
    refine take_ (i := 6) (N := some 49) (v := ?_) (a' := ?_) zf7 rfl rfl (take_ofW HT_.out HW_.out (by kernel_rfl)) (fun _ _ _ h => h) (Or.inl ⟨by rfl, ?_⟩) hHeld ?_ ?_
    rotate_left
    ·
     intro w' _
     go_simp
     with_reducible rfl
    rotate_left
    ·
     simp only [Cap.pz]
     rfl
    refine one_ (i := 7) (N := some 50) zf8 rfl rfl (one_of HT_.out (by kernel_rfl)) (by decide) (fun K hK => ?_)
    refine Kd.R_lit_step (Kd.int .u8) _ 5 ?hg (N := 50) ?hd (xs := ([37, bt (⟨#[48, 49, 50, 51, 52, 53, 54, 55, 56, 57, 65, 66, 67, 68, 69, 70]⟩ : ByteArray) (ji14), bt (⟨#[48, 49, 50, 51, 52, 53, 54, 55, 56, 57, 65, 66, 67, 68, 69, 70]⟩ : ByteArray) (Go.bits .and .u8 (bt a0 x31_1) 15)] : List Int)) (inner := [.int .u8 37, .int .u8 (bt (⟨#[48, 49, 50, 51, 52, 53, 54, 55, 56, 57, 65, 66, 67, 68, 69, 70]⟩ : ByteArray) (ji14)), .int .u8 (bt (⟨#[48, 49, 50, 51, 52, 53, 54, 55, 56, 57, 65, 66, 67, 68, 69, 70]⟩ : ByteArray) (Go.bits .and .u8 (bt a0 x31_1) 15))]) (ok := fun _ => True) (okp := fun _ => True) ?hr ?hp (fun _ hk => hk) trivial (Below.refl _ _) (Nat.le_refl _) (by simp) ?_; (case hd => rfl); (case hg => rfl); (case hr => first | (go_simp; done) | (go_simp; rfl)); (case hp => exact (Reps.one (show Kd.M (Kd.int .u8) _ _ _ 37 [.int .u8 37] from rfl) (Reps.one (show Kd.M (Kd.int .u8) _ _ _ (bt (⟨#[48, 49, 50, 51, 52, 53, 54, 55, 56, 57, 65, 66, 67, 68, 69, 70]⟩ : ByteArray) (ji14)) [.int .u8 (bt (⟨#[48, 49, 50, 51, 52, 53, 54, 55, 56, 57, 65, 66, 67, 68, 69, 70]⟩ : ByteArray) (ji14))] from rfl) (Reps.one (show Kd.M (Kd.int .u8) _ _ _ (bt (⟨#[48, 49, 50, 51, 52, 53, 54, 55, 56, 57, 65, 66, 67, 68, 69, 70]⟩ : ByteArray) (Go.bits .and .u8 (bt a0 x31_1) 15)) [.int .u8 (bt (⟨#[48, 49, 50, 51, 52, 53, 54, 55, 56, 57, 65, 66, 67, 68, 69, 70]⟩ : ByteArray) (Go.bits .and .u8 (bt a0 x31_1) 15))] from rfl) (Reps.none _ _)))))
    intro v212 w23 ho24 hb hg_ hnew_
    clear hg_ hnew_
    (first | rw [← Ny211.out] at ho24 | (simp only [Int.reduceToNat] at ho24; rw [← Ny211.out] at ho24))
    have n0_ := Aside0.mk (Kd.R_elder' (by first | exact Grow.rg HO_6.out | exact HO_6.out) (Kd.R_base ho24) hb)
    have n1_ := Aside0.mk (Kd.R_lower (Kd.R_new' ho24 (Kd.R_lt (by first | exact Grow.rg HO_6.out | exact HO_6.out))) (below_size (by first | exact Grow.bl HB.out | exact HB.out)))
    have n2_ := Aside0.mk (below_step (by first | exact Grow.bl HB.out | exact HB.out) hb)
    clear HO_6
    clear HB
    have HO_6 := n0_
    have HO213 := n1_
    have HB := n2_
    clear n0_ n1_ n2_
    clear hb ho24
    obtain ⟨Ao26, co26, eo26⟩ := Kd.R_slice HO213.out
    (first | subst eo26 | (injection eo26 with f1_ f2_ f3_; have f4_ := f1_.symm; have f5_ := f3_.symm; clear f1_ f2_ f3_; subst f4_; subst f5_))
    refine hK.out _ _ trivial (fun hHeld => ?_)
    clear hK K
    refine norm_ (a' := ?_) ?_ ?_; rotate_left; show Act.put _ (some 50) _ = _; simp only [Cap.pz]; rfl
    refine one_ (i := 8) (N := some 51) zf9 rfl rfl (one_of HT_.out (by kernel_rfl)) (by decide) (fun K hK => ?_)
    refine Kd.R_append_rows_step (Kd.int .u8) (w0 := w) w.heap.size (by rfl) (.tmp 43) (.tmp 50) 81 5 (.int .u8 0) 1 rfl Tryd.underlying81 info5 rfl (by decide) (by omega) u6 x6_1 y211 _ _ _ (fun k_ => some k_ ≠ (.slice Ao26 y211.length co26 : Value).ownBlock) (fun _ => False) rfl rfl ?aO ?aR (fun _ _ h => h) (fun _ h => h.elim) ?aF ?aB ?aS ?aL ?_
    (case aR => repeat (first | exact (Kd.R_reads' HO213.out).2.2 | (with_reducible refine Kd.C_alloc ?_ _) | (with_reducible refine Kd.C_drewN ?_ _) | (with_reducible refine Kd.C_drew ?_)))
    (case aB => exact (by first | exact Grow.bl HB.out | exact HB.out))
    (case aF => exact (fun k_ hk => Kd.fresh' (Kd.R_lt (by first | exact Grow.rg HO213.out | exact HO213.out)) k_ hk))
    (case aO => exact (by (with_reducible repeat (first | apply Kd.R_alloc | apply Kd.R_drewN | apply Kd.R_drew)); exact Kd.R_mono HO_6.out (fun _ hk => hk.2)))
    (case aS => exact (below_size (by first | exact Grow.bl HB.out | exact HB.out)))
    (case aL => have := LMc21.out; omega)
    intro v215 w25 ho hb hg hat
    rw [← Ny214.out] at ho
    have n0_ := Aside0.mk (Kd.R_after (ok := (fun _ => True)) (by first | exact Grow.rg HO213.out | exact HO213.out) hg hat)
    have n1_ := Aside0.mk (hb)
    have n2_ := Aside0.mk (ho)
    clear HO213
    clear HB
    clear HO_6
    have HO213 := n0_
    have HB := n1_
    have HO216 := n2_
    clear n0_ n1_ n2_
    clear ho hb hg hat
    refine hK.out _ _ trivial (fun hHeld => ?_)
    clear hK K
    refine norm_ (a' := ?_) ?_ ?_; rotate_left; show Act.put _ (some 51) _ = _; simp only [Cap.pz]; rfl
    refine Cap.pu (v := ?_) (a' := ?_) 9 (some 6) zf10 HT_ rfl rfl (by kernel_rfl) (fun _ _ _ h => h) (Or.inl ⟨by rfl, ?_⟩) ?_ ?_; rotate_left; intro w'; go_simp; with_reducible rfl; rotate_left; simp only [Cap.pz]; rfl
    refine done_ (done_of HT_.out (by kernel_rfl)) ?_
    try go_wp2
    go_roundg k1
    case measure => have := HK1.out; omega
    case rel => exact ⟨(y214), (wrap64 (x31_1 + 1)), (by first | rfl | (simp; done) | (simp [*]; done)), H', ⟨by have := HK1.out; omega⟩, ⟨by (with_reducible repeat (first | apply Kd.R_alloc | apply Kd.R_drewN | apply Kd.R_drew)); exact Kd.R_mono HO216.out (fun _ hk => trivial)⟩, ⟨by first | exact Grow.bl HB.out | exact HB.out⟩⟩

/-! ### strings_Join: function 36 -/
/-- The pieces with a text between them. -/
def joinOf (l : List ByteArray) (sep : ByteArray) : ByteArray := ⟨(Lib.join (l.map (·.data.toList)) sep.data.toList).toArray⟩
def strings_Join.f (l : List ByteArray) (sep : ByteArray) : Option (ByteArray) := if l.length ≤ 140737488355328 ∧ (joinOf l sep).size ≤ 140737488355328 then some (joinOf l sep) else none
theorem strings_Join.calls (A0 : Option Addr) (c0 : Nat) (l0 : List ByteArray) (a1 : ByteArray) (r : ByteArray) (w : World) (hr0 : Kd.C Kd.string w A0 l0.length l0) (hc0 : l0.length ≤ c0) (h : strings_Join.f l0 a1 = some r) :
  Calls Tryd.prog 36 #[.slice A0 l0.length c0, .string a1] w fun e w' => e = .returned (.string r) ∧ Below w.heap.size w w' := by
 unfold strings_Join.f at h
 by_cases hb : l0.length ≤ 140737488355328 ∧ (joinOf l0 a1).size ≤ 140737488355328
 rotate_left
 ·
  rw [if_neg hb] at h
  cases h
 rw [if_pos hb] at h
 obtain rfl := Option.some.inj h
 by_cases hn : 0 < l0.length
 rotate_left
 ·
  have e0 : l0 = [] := List.eq_nil_of_length_eq_zero (by omega)
  subst e0
  refine (Tryd.strings_Join_none A0 c0 a1 w).mono fun e w' h => ?_
  obtain ⟨rfl, rfl⟩ := h
  exact ⟨rfl, Below.refl _ _⟩
 obtain ⟨ad, rfl, hcell⟩ := hr0.2.2 hn
 have hcells : ∀ (j : Nat) x, l0[j]? = some x → w.cell? (ad.add j) = some (.string x) := by
  intro j x hj
  obtain ⟨c, hl, hK, hcc⟩ := hcell j x hj
  have e : c = [.string x] := hK
  subst e
  have h1 := hcc 0 _ rfl
  have h2 : Kd.string.sz = 1 := rfl
  rw [h2, Nat.mul_one, Nat.add_zero] at h1
  exact h1
 have hx0 := hcells 0 _ (List.getElem?_eq_getElem hn)
 obtain ⟨bk, o, sp⟩ := ad
 have hsp : sp = none := by
  cases sp with
  | none => rfl
  | some q =>
   exfalso
   have h0 : w.cell? ⟨bk, o, some q⟩ = some (.string l0[0]) := hx0
   unfold World.cell? at h0
   split at h0
   ·
    simp at h0
   ·
    cases h0
 subst hsp
 have hcells2 : ∀ (j : Nat) x, l0[j]? = some x → w.cell? ⟨bk, o + j, none⟩ = some (.string x) := by
  intro j x hj
  have h1 := hcells j x hj
  have h2 : (⟨bk, o, none⟩ : Addr).add j = ⟨bk, o + j, none⟩ := by
   unfold Addr.add
   split <;> simp_all
  rw [h2] at h1
  exact h1
 have hsz : (Lib.join (l0.map (·.data.toList)) a1.data.toList).length ≤ 140737488355328 := by
  have h3 := hb.2
  unfold joinOf at h3
  simpa [ByteArray.size] using h3
 exact (Tryd.strings_Join bk o c0 l0 a1 w hcells2 (World.block_lt_of_cell? w ⟨bk, o, none⟩ hx0) hb.1 hc0 hsz).mono fun e w' h => h

end Go.Proofs.YtepnjhmdcaolkaaDoor.QFnExactWriteRequest
