-- A text of this session, printed by a program of its own (wip/tools: xpatch.py, xprint.sh, mkq.py). No condition.
import Derived.Test.YtepnjhmdcaolkaaDoorShelf
import Derived.Shelf.Unicode.PredsPay
import Derived.Lib.AppendIntMem
import Derived.Test.YtepnjhmdcaolkaaDoorQFnExactWriteRequestx0
namespace Go.Proofs.YtepnjhmdcaolkaaDoor.QFnExactWriteRequest
open Go.RowKit Go.Proofs.YtepnjhmdcaolkaaDoorW.PrintWords Go.Proofs.YtepnjhmdcaolkaaDoorW.PrintLast Go.Proofs.YtepnjhmdcaolkaaDoorW.PrintMore
attribute [local go_sem] max2_int min2_int max_two min_two max_three min_three max_four min_four   -- for this text's walks alone
set_option linter.unusedVariables false
set_option linter.unusedSimpArgs false

/-! ### impl_isCapital: function 46 -/
def impl_isCapital.f (a0 : Int) : Option (Bool) := if a0 ≥ 65 then (some (decide (a0 ≤ 90))) else (some false)
set_option maxHeartbeats 8000000 in
set_option maxRecDepth 100000 in
theorem impl_isCapital.calls (a0 : Int) (r : Bool) (w : World) (h : impl_isCapital.f a0 = some r) :
  Calls Tryd.prog 46 #[.int .u8 a0] w fun e w' => e = .returned (.bool r) ∧ Drawn0 w w' := by
 have H : (if a0 ≥ 65 then (some (decide (a0 ≤ 90))) else (some false)) = some r := h
 clear h
 by_cases c2 : a0 ≥ 65
 ·
  rw [if_pos c2] at H
  have c2b0 : decide (65 ≤ a0) = true := decide_eq_true c2
  clear c2
  obtain rfl := Option.some.inj H
  go_enter Tryd.func46, Tryd.ntmps46
  go_wp2
  go_ret
  exact ⟨by first | rfl | (simp; done) | (simp [*]; done), by repeat (first | exact Drawn0.refl _ | apply Drawn0.step)⟩
 rw [if_neg c2] at H
 have c2b0 : decide (65 ≤ a0) = false := decide_eq_false c2
 clear c2
 obtain rfl := Option.some.inj H
 go_enter Tryd.func46, Tryd.ntmps46
 go_wp2
 go_ret
 exact ⟨by first | rfl | (simp; done) | (simp [*]; done), by repeat (first | exact Drawn0.refl _ | apply Drawn0.step)⟩

/-! ### impl_isPlainLetter: function 70 -/
def impl_isPlainLetter.f (a0 : Int) : Option (Bool) := if a0 ≥ 97 then (if a0 ≤ 122 then (some true) else (if a0 ≥ 48 then (some (decide (a0 ≤ 57))) else (some false))) else (if a0 ≥ 48 then (some (decide (a0 ≤ 57))) else (some false))
set_option maxHeartbeats 8000000 in
set_option maxRecDepth 100000 in
theorem impl_isPlainLetter.calls (a0 : Int) (r : Bool) (w : World) (h : impl_isPlainLetter.f a0 = some r) :
  Calls Tryd.prog 70 #[.int .u8 a0] w fun e w' => e = .returned (.bool r) ∧ Drawn0 w w' := by
 have H : (if a0 ≥ 97 then (if a0 ≤ 122 then (some true) else (if a0 ≥ 48 then (some (decide (a0 ≤ 57))) else (some false))) else (if a0 ≥ 48 then (some (decide (a0 ≤ 57))) else (some false))) = some r := h
 clear h
 by_cases c2 : a0 ≥ 97
 rotate_left
 ·
  rw [if_neg c2] at H
  have c2b0 : decide (97 ≤ a0) = false := decide_eq_false c2
  clear c2
  by_cases c5 : a0 ≥ 48
  ·
   rw [if_pos c5] at H
   have c5b0 : decide (48 ≤ a0) = true := decide_eq_true c5
   clear c5
   obtain rfl := Option.some.inj H
   go_enter Tryd.func70, Tryd.ntmps70
   go_wp2
   go_ret
   exact ⟨by first | rfl | (simp; done) | (simp [*]; done), by repeat (first | exact Drawn0.refl _ | apply Drawn0.step)⟩
  rw [if_neg c5] at H
  have c5b0 : decide (48 ≤ a0) = false := decide_eq_false c5
  clear c5
  obtain rfl := Option.some.inj H
  go_enter Tryd.func70, Tryd.ntmps70
  go_wp2
  go_ret
  exact ⟨by first | rfl | (simp; done) | (simp [*]; done), by repeat (first | exact Drawn0.refl _ | apply Drawn0.step)⟩
 rw [if_pos c2] at H
 have c2b0 : decide (97 ≤ a0) = true := decide_eq_true c2
 clear c2
 by_cases c3 : a0 ≤ 122
 ·
  rw [if_pos c3] at H
  have c3b0 : decide (a0 ≤ 122) = true := decide_eq_true c3
  clear c3
  obtain rfl := Option.some.inj H
  go_enter Tryd.func70, Tryd.ntmps70
  go_wp2
  go_ret
  exact ⟨by first | rfl | (simp; done) | (simp [*]; done), by repeat (first | exact Drawn0.refl _ | apply Drawn0.step)⟩
 rw [if_neg c3] at H
 have c3b0 : decide (a0 ≤ 122) = false := decide_eq_false c3
 clear c3
 by_cases c4 : a0 ≥ 48
 ·
  rw [if_pos c4] at H
  have c4b0 : decide (48 ≤ a0) = true := decide_eq_true c4
  clear c4
  obtain rfl := Option.some.inj H
  go_enter Tryd.func70, Tryd.ntmps70
  go_wp2
  go_ret
  exact ⟨by first | rfl | (simp; done) | (simp [*]; done), by repeat (first | exact Drawn0.refl _ | apply Drawn0.step)⟩
 rw [if_neg c4] at H
 have c4b0 : decide (48 ≤ a0) = false := decide_eq_false c4
 clear c4
 obtain rfl := Option.some.inj H
 go_enter Tryd.func70, Tryd.ntmps70
 go_wp2
 go_ret
 exact ⟨by first | rfl | (simp; done) | (simp [*]; done), by repeat (first | exact Drawn0.refl _ | apply Drawn0.step)⟩

/-! ### impl_isHeaderLetter: function 48 -/
def impl_isHeaderLetter.f (a0 : Int) : Option (Bool) := (impl_isPlainLetter.f a0).bind fun t188 => (if t188 = true then (some true) else (some (a0 == 45)))
set_option maxHeartbeats 8000000 in
set_option maxRecDepth 100000 in
theorem impl_isHeaderLetter.calls (a0 : Int) (r : Bool) (w : World) (h : impl_isHeaderLetter.f a0 = some r) :
  Calls Tryd.prog 48 #[.int .u8 a0] w fun e w' => e = .returned (.bool r) ∧ Drawn0 w w' := by
 have H : ((impl_isPlainLetter.f a0).bind fun t188 => (if t188 = true then (some true) else (some (a0 == 45)))) = some r := h
 clear h
 replace H := Option.bind_eq_some_iff.mp H
 obtain ⟨t188, A20, H⟩ := H
 replace H : (if t188 = true then (some true) else (some (a0 == 45))) = some r := H
 have A2 := Aside0.mk A20
 clear A20
 by_cases c3 : t188 = true
 ·
  subst c3
  have H1 : (some true) = some r := by rw [if_pos rfl] at H; exact H
  clear H
  have H := H1
  clear H1
  obtain rfl := Option.some.inj H
  go_enter Tryd.func48, Tryd.ntmps48
  go_wp2_with (first | ((with_reducible refine gate_callee (f := 70) rfl ?_); refine goesL_ (some 4) rfl rfl Tryd.func70 (by kernel_rfl) rfl #[.int .u8 a0] rfl (by (try simp only [List.map_toArray, List.map_cons, List.map_nil]); first | done | rfl | (simp only [List.length_drop, List.length_take]; rfl)) ?_; (with_reducible refine (impl_isPlainLetter.calls a0 true _ A2.out).mono ?_); rintro e w' ⟨rfl, ⟨nd, rfl⟩⟩; refine ⟨_, rfl, ?_⟩))
  go_ret
  exact ⟨by first | rfl | (simp; done) | (simp [*]; done), by repeat (first | exact Drawn0.refl _ | apply Drawn0.step)⟩
 replace c3 := Bool.eq_false_iff.mpr c3
 subst c3
 have H1 : (some (a0 == 45)) = some r := by rw [if_neg (show ¬ (false = true) by decide)] at H; exact H
 clear H
 have H := H1
 clear H1
 obtain rfl := Option.some.inj H
 go_enter Tryd.func48, Tryd.ntmps48
 go_wp2_with (first | ((with_reducible refine gate_callee (f := 70) rfl ?_); refine goesL_ (some 4) rfl rfl Tryd.func70 (by kernel_rfl) rfl #[.int .u8 a0] rfl (by (try simp only [List.map_toArray, List.map_cons, List.map_nil]); first | done | rfl | (simp only [List.length_drop, List.length_take]; rfl)) ?_; (with_reducible refine (impl_isPlainLetter.calls a0 false _ A2.out).mono ?_); rintro e w' ⟨rfl, ⟨nd, rfl⟩⟩; refine ⟨_, rfl, ?_⟩))
 go_ret
 exact ⟨by first | rfl | (simp; done) | (simp [*]; done), by repeat (first | exact Drawn0.refl _ | apply Drawn0.step)⟩

/-! ### impl_isPrinted: function 71 -/
def impl_isPrinted.f (a0 : Int) : Option (Bool) := if a0 ≥ 32 then (some (decide (a0 ≤ 126))) else (some false)
set_option maxHeartbeats 8000000 in
set_option maxRecDepth 100000 in
theorem impl_isPrinted.calls (a0 : Int) (r : Bool) (w : World) (h : impl_isPrinted.f a0 = some r) :
  Calls Tryd.prog 71 #[.int .u8 a0] w fun e w' => e = .returned (.bool r) ∧ Drawn0 w w' := by
 have H : (if a0 ≥ 32 then (some (decide (a0 ≤ 126))) else (some false)) = some r := h
 clear h
 by_cases c2 : a0 ≥ 32
 ·
  rw [if_pos c2] at H
  have c2b0 : decide (32 ≤ a0) = true := decide_eq_true c2
  clear c2
  obtain rfl := Option.some.inj H
  go_enter Tryd.func71, Tryd.ntmps71
  go_wp2
  go_ret
  exact ⟨by first | rfl | (simp; done) | (simp [*]; done), by repeat (first | exact Drawn0.refl _ | apply Drawn0.step)⟩
 rw [if_neg c2] at H
 have c2b0 : decide (32 ≤ a0) = false := decide_eq_false c2
 clear c2
 obtain rfl := Option.some.inj H
 go_enter Tryd.func71, Tryd.ntmps71
 go_wp2
 go_ret
 exact ⟨by first | rfl | (simp; done) | (simp [*]; done), by repeat (first | exact Drawn0.refl _ | apply Drawn0.step)⟩

/-! ### impl_made: function 45 -/
/-- The bytes' tests that are handed on as function values, by their numbers. -/
def madeP (code c : Int) : Option Bool := if code = 46 then impl_isCapital.f c else if code = 48 then impl_isHeaderLetter.f c else if code = 71 then impl_isPrinted.f c else if code = 70 then impl_isPlainLetter.f c else none
def impl_made.l0 : Nat → ByteArray → Int → Int → Option Bool
  | 0, _, _, _ => none
  | k + 1, t, code, i => if i < (t.size : Int) then (if 0 ≤ i then ((madeP code (bt t i)).bind fun b => (if b = true then (impl_made.l0 k t code (wrap64 (i + 1))) else (some false))) else (none)) else (some true)
def impl_made.f (k : Nat) (t : ByteArray) (a b code : Int) : Option Bool := if (t.size : Int) < a then (some false) else (if (t.size : Int) > b then (some false) else (impl_made.l0 k t code 0))
theorem impl_made.mono_l : ∀ k, (∀ y0 y1 y2, LeO (impl_made.l0 k y0 y1 y2) (impl_made.l0 (k + 1) y0 y1 y2))
  | 0 => fun _ _ _ r h => by simp [impl_made.l0] at h
  | k + 1 => by
    have ih0 := impl_made.mono_l k
    · intro y0 y1 y2
      unfold impl_made.l0
      repeat' first
      | (with_reducible exact ih0 _ _ _)
      | (with_reducible exact LeO.refl _)
      | (with_reducible exact LeO.none _)
      | (with_reducible refine LeO.ite ?_ ?_)
      | (with_reducible refine LeO.bind ?_ (fun _ => ?_))
      | exact ih0 _ _ _
      | exact LeO.none _
      | refine LeO.ite ?_ ?_
      | refine LeO.bind ?_ (fun _ => ?_)
theorem impl_made.mono : ∀ a0 a1 a2 a3 k, LeO (impl_made.f k a0 a1 a2 a3) (impl_made.f (k + 1) a0 a1 a2 a3) := by
  intro a0 a1 a2 a3 k
  have ih0 := impl_made.mono_l k
  unfold impl_made.f
  repeat' first
      | (with_reducible exact ih0 _ _ _)
      | (with_reducible exact LeO.refl _)
      | (with_reducible refine LeO.ite ?_ ?_)
      | exact ih0 _ _ _
      | refine LeO.ite ?_ ?_
theorem madeP_isCapital (c : Int) (b : Bool) (w : World) (h : madeP 46 c = some b) : Calls Tryd.prog 46 #[.int .u8 c] w fun e w' => e = .returned (.bool b) ∧ Drawn0 w w' := by
  unfold madeP at h
  rw [if_pos rfl] at h
  exact impl_isCapital.calls c b w h
set_option maxHeartbeats 8000000 in
set_option maxRecDepth 100000 in
theorem impl_made.calls46 (k : Nat) (a0 : ByteArray) (a1 a2 : Int) (r : Bool) (w : World) (h : impl_made.f k a0 a1 a2 46 = some r) :
  Calls Tryd.prog 45 #[.string a0, .int .i64 a1, .int .i64 a2, .func (.func 46) #[] #[]] w fun e w' => e = .returned (.bool r) ∧ Drawn0 w w' := by
 have HD := Aside0.mk (show Drawn0 w w from ⟨⟨0, rfl⟩⟩)
 have H : (if (a0.size : Int) < a1 then (some false) else (if (a0.size : Int) > a2 then (some false) else (impl_made.l0 k a0 46 0))) = some r := h
 clear h
 by_cases c1 : (a0.size : Int) < a1
 ·
  rw [if_pos c1] at H
  have c1b0 : decide ((a0.size : Int) < a1) = true := decide_eq_true c1
  clear c1
  obtain rfl := Option.some.inj H
  go_enter Tryd.func45, Tryd.ntmps45
  go_wp2
  go_ret
  exact ⟨rfl, HD.out⟩
 rw [if_neg c1] at H
 have c1b0 : decide ((a0.size : Int) < a1) = false := decide_eq_false c1
 clear c1
 by_cases c2 : (a0.size : Int) > a2
 ·
  rw [if_pos c2] at H
  have c2b0 : decide (a2 < (a0.size : Int)) = true := decide_eq_true c2
  clear c2
  obtain rfl := Option.some.inj H
  go_enter Tryd.func45, Tryd.ntmps45
  go_wp2
  go_ret
  exact ⟨rfl, HD.out⟩
 rw [if_neg c2] at H
 have c2b0 : decide (a2 < (a0.size : Int)) = false := decide_eq_false c2
 clear c2
 have H' := Aside0.mk H
 clear H
 go_enter Tryd.func45, Tryd.ntmps45
 go_wp2
 go_loopg [22] k (fun kq v22 w' => ∃ (i : Int), v22 = .int .i64 i ∧ Aside0 (impl_made.l0 kq a0 46 i = some r) ∧ Aside0 (kq ≤ k) ∧ Aside0 (Drawn0 w w'))
 case atStart => exact ⟨0, rfl, H', ⟨Nat.le_refl _⟩, HD⟩
 case round =>
  clear H' HD
  obtain ⟨i, rfl, HA, HK1, HD⟩ := hrel
  cases gk with
  | zero => exact absurd HA.out (by simp [impl_made.l0])
  | succ k1 =>
   have H := HA.out
   clear HA
   simp only [impl_made.l0] at H
   by_cases c3 : i < (a0.size : Int)
   rotate_left
   ·
    rw [if_neg c3] at H
    have c3b0 : decide (i < (a0.size : Int)) = false := decide_eq_false c3
    clear c3
    obtain rfl := Option.some.inj H
    go_wp2
    go_ret
    exact ⟨rfl, HD.out⟩
   rw [if_pos c3] at H
   by_cases c4 : 0 ≤ i
   rotate_left
   ·
    rw [if_neg c4] at H
    exact absurd H (by simp)
   rw [if_pos c4] at H
   have c3b0 : decide (i < (a0.size : Int)) = true := decide_eq_true c3
   have c4b0 : decide (0 ≤ i) = true := decide_eq_true c4
   obtain ⟨b, A40, H⟩ := Option.bind_eq_some_iff.mp H
   have hlt2 : i.toNat < a0.size := by omega
   have hbt : bt a0 i = ((a0[i.toNat]'hlt2).toNat : Int) := by unfold bt; rw [dif_pos hlt2]
   rw [hbt] at A40
   have A4 := Aside0.mk A40
   clear hbt
   have p4 := eq_true c4
   have q4 := eq_true c3
   clear A40 c3 c4
   cases b with
   | true =>
    have H' := Aside0.mk (show impl_made.l0 k1 a0 46 (wrap64 (i + 1)) = some r from H)
    clear H
    go_wp2_with (go_at_call 46; (with_reducible refine (madeP_isCapital _ true _ A4.out).mono ?_); rintro e w8 ⟨rfl, hd⟩; obtain ⟨⟨nd, rfl⟩⟩ := hd)
    go_roundg k1
    case measure => have := HK1.out; omega
    case rel => exact ⟨wrap64 (i + 1), rfl, H', ⟨by have := HK1.out; omega⟩, ⟨by obtain ⟨⟨n0, h0⟩⟩ := HD.out; subst h0; exact ⟨⟨_, World.drewN_drewN _ _ _⟩⟩⟩⟩
   | false =>
    obtain rfl := Option.some.inj (show some false = some r from H)
    clear H
    go_wp2_with (go_at_call 46; (with_reducible refine (madeP_isCapital _ false _ A4.out).mono ?_); rintro e w8 ⟨rfl, hd⟩; obtain ⟨⟨nd, rfl⟩⟩ := hd)
    go_ret
    exact ⟨rfl, by obtain ⟨⟨n0, h0⟩⟩ := HD.out; subst h0; exact ⟨⟨_, World.drewN_drewN _ _ _⟩⟩⟩
theorem madeP_isHeaderLetter (c : Int) (b : Bool) (w : World) (h : madeP 48 c = some b) : Calls Tryd.prog 48 #[.int .u8 c] w fun e w' => e = .returned (.bool b) ∧ Drawn0 w w' := by
  unfold madeP at h
  rw [if_neg (by decide)] at h
  rw [if_pos rfl] at h
  exact impl_isHeaderLetter.calls c b w h
set_option maxHeartbeats 8000000 in
set_option maxRecDepth 100000 in
theorem impl_made.calls48 (k : Nat) (a0 : ByteArray) (a1 a2 : Int) (r : Bool) (w : World) (h : impl_made.f k a0 a1 a2 48 = some r) :
  Calls Tryd.prog 45 #[.string a0, .int .i64 a1, .int .i64 a2, .func (.func 48) #[] #[]] w fun e w' => e = .returned (.bool r) ∧ Drawn0 w w' := by
 have HD := Aside0.mk (show Drawn0 w w from ⟨⟨0, rfl⟩⟩)
 have H : (if (a0.size : Int) < a1 then (some false) else (if (a0.size : Int) > a2 then (some false) else (impl_made.l0 k a0 48 0))) = some r := h
 clear h
 by_cases c1 : (a0.size : Int) < a1
 ·
  rw [if_pos c1] at H
  have c1b0 : decide ((a0.size : Int) < a1) = true := decide_eq_true c1
  clear c1
  obtain rfl := Option.some.inj H
  go_enter Tryd.func45, Tryd.ntmps45
  go_wp2
  go_ret
  exact ⟨rfl, HD.out⟩
 rw [if_neg c1] at H
 have c1b0 : decide ((a0.size : Int) < a1) = false := decide_eq_false c1
 clear c1
 by_cases c2 : (a0.size : Int) > a2
 ·
  rw [if_pos c2] at H
  have c2b0 : decide (a2 < (a0.size : Int)) = true := decide_eq_true c2
  clear c2
  obtain rfl := Option.some.inj H
  go_enter Tryd.func45, Tryd.ntmps45
  go_wp2
  go_ret
  exact ⟨rfl, HD.out⟩
 rw [if_neg c2] at H
 have c2b0 : decide (a2 < (a0.size : Int)) = false := decide_eq_false c2
 clear c2
 have H' := Aside0.mk H
 clear H
 go_enter Tryd.func45, Tryd.ntmps45
 go_wp2
 go_loopg [22] k (fun kq v22 w' => ∃ (i : Int), v22 = .int .i64 i ∧ Aside0 (impl_made.l0 kq a0 48 i = some r) ∧ Aside0 (kq ≤ k) ∧ Aside0 (Drawn0 w w'))
 case atStart => exact ⟨0, rfl, H', ⟨Nat.le_refl _⟩, HD⟩
 case round =>
  clear H' HD
  obtain ⟨i, rfl, HA, HK1, HD⟩ := hrel
  cases gk with
  | zero => exact absurd HA.out (by simp [impl_made.l0])
  | succ k1 =>
   have H := HA.out
   clear HA
   simp only [impl_made.l0] at H
   by_cases c3 : i < (a0.size : Int)
   rotate_left
   ·
    rw [if_neg c3] at H
    have c3b0 : decide (i < (a0.size : Int)) = false := decide_eq_false c3
    clear c3
    obtain rfl := Option.some.inj H
    go_wp2
    go_ret
    exact ⟨rfl, HD.out⟩
   rw [if_pos c3] at H
   by_cases c4 : 0 ≤ i
   rotate_left
   ·
    rw [if_neg c4] at H
    exact absurd H (by simp)
   rw [if_pos c4] at H
   have c3b0 : decide (i < (a0.size : Int)) = true := decide_eq_true c3
   have c4b0 : decide (0 ≤ i) = true := decide_eq_true c4
   obtain ⟨b, A40, H⟩ := Option.bind_eq_some_iff.mp H
   have hlt2 : i.toNat < a0.size := by omega
   have hbt : bt a0 i = ((a0[i.toNat]'hlt2).toNat : Int) := by unfold bt; rw [dif_pos hlt2]
   rw [hbt] at A40
   have A4 := Aside0.mk A40
   clear hbt
   have p4 := eq_true c4
   have q4 := eq_true c3
   clear A40 c3 c4
   cases b with
   | true =>
    have H' := Aside0.mk (show impl_made.l0 k1 a0 48 (wrap64 (i + 1)) = some r from H)
    clear H
    go_wp2_with (go_at_call 48; (with_reducible refine (madeP_isHeaderLetter _ true _ A4.out).mono ?_); rintro e w8 ⟨rfl, hd⟩; obtain ⟨⟨nd, rfl⟩⟩ := hd)
    go_roundg k1
    case measure => have := HK1.out; omega
    case rel => exact ⟨wrap64 (i + 1), rfl, H', ⟨by have := HK1.out; omega⟩, ⟨by obtain ⟨⟨n0, h0⟩⟩ := HD.out; subst h0; exact ⟨⟨_, World.drewN_drewN _ _ _⟩⟩⟩⟩
   | false =>
    obtain rfl := Option.some.inj (show some false = some r from H)
    clear H
    go_wp2_with (go_at_call 48; (with_reducible refine (madeP_isHeaderLetter _ false _ A4.out).mono ?_); rintro e w8 ⟨rfl, hd⟩; obtain ⟨⟨nd, rfl⟩⟩ := hd)
    go_ret
    exact ⟨rfl, by obtain ⟨⟨n0, h0⟩⟩ := HD.out; subst h0; exact ⟨⟨_, World.drewN_drewN _ _ _⟩⟩⟩
theorem madeP_isPrinted (c : Int) (b : Bool) (w : World) (h : madeP 71 c = some b) : Calls Tryd.prog 71 #[.int .u8 c] w fun e w' => e = .returned (.bool b) ∧ Drawn0 w w' := by
  unfold madeP at h
  rw [if_neg (by decide)] at h
  rw [if_neg (by decide)] at h
  rw [if_pos rfl] at h
  exact impl_isPrinted.calls c b w h
set_option maxHeartbeats 8000000 in
set_option maxRecDepth 100000 in
theorem impl_made.calls71 (k : Nat) (a0 : ByteArray) (a1 a2 : Int) (r : Bool) (w : World) (h : impl_made.f k a0 a1 a2 71 = some r) :
  Calls Tryd.prog 45 #[.string a0, .int .i64 a1, .int .i64 a2, .func (.func 71) #[] #[]] w fun e w' => e = .returned (.bool r) ∧ Drawn0 w w' := by
 have HD := Aside0.mk (show Drawn0 w w from ⟨⟨0, rfl⟩⟩)
 have H : (if (a0.size : Int) < a1 then (some false) else (if (a0.size : Int) > a2 then (some false) else (impl_made.l0 k a0 71 0))) = some r := h
 clear h
 by_cases c1 : (a0.size : Int) < a1
 ·
  rw [if_pos c1] at H
  have c1b0 : decide ((a0.size : Int) < a1) = true := decide_eq_true c1
  clear c1
  obtain rfl := Option.some.inj H
  go_enter Tryd.func45, Tryd.ntmps45
  go_wp2
  go_ret
  exact ⟨rfl, HD.out⟩
 rw [if_neg c1] at H
 have c1b0 : decide ((a0.size : Int) < a1) = false := decide_eq_false c1
 clear c1
 by_cases c2 : (a0.size : Int) > a2
 ·
  rw [if_pos c2] at H
  have c2b0 : decide (a2 < (a0.size : Int)) = true := decide_eq_true c2
  clear c2
  obtain rfl := Option.some.inj H
  go_enter Tryd.func45, Tryd.ntmps45
  go_wp2
  go_ret
  exact ⟨rfl, HD.out⟩
 rw [if_neg c2] at H
 have c2b0 : decide (a2 < (a0.size : Int)) = false := decide_eq_false c2
 clear c2
 have H' := Aside0.mk H
 clear H
 go_enter Tryd.func45, Tryd.ntmps45
 go_wp2
 go_loopg [22] k (fun kq v22 w' => ∃ (i : Int), v22 = .int .i64 i ∧ Aside0 (impl_made.l0 kq a0 71 i = some r) ∧ Aside0 (kq ≤ k) ∧ Aside0 (Drawn0 w w'))
 case atStart => exact ⟨0, rfl, H', ⟨Nat.le_refl _⟩, HD⟩
 case round =>
  clear H' HD
  obtain ⟨i, rfl, HA, HK1, HD⟩ := hrel
  cases gk with
  | zero => exact absurd HA.out (by simp [impl_made.l0])
  | succ k1 =>
   have H := HA.out
   clear HA
   simp only [impl_made.l0] at H
   by_cases c3 : i < (a0.size : Int)
   rotate_left
   ·
    rw [if_neg c3] at H
    have c3b0 : decide (i < (a0.size : Int)) = false := decide_eq_false c3
    clear c3
    obtain rfl := Option.some.inj H
    go_wp2
    go_ret
    exact ⟨rfl, HD.out⟩
   rw [if_pos c3] at H
   by_cases c4 : 0 ≤ i
   rotate_left
   ·
    rw [if_neg c4] at H
    exact absurd H (by simp)
   rw [if_pos c4] at H
   have c3b0 : decide (i < (a0.size : Int)) = true := decide_eq_true c3
   have c4b0 : decide (0 ≤ i) = true := decide_eq_true c4
   obtain ⟨b, A40, H⟩ := Option.bind_eq_some_iff.mp H
   have hlt2 : i.toNat < a0.size := by omega
   have hbt : bt a0 i = ((a0[i.toNat]'hlt2).toNat : Int) := by unfold bt; rw [dif_pos hlt2]
   rw [hbt] at A40
   have A4 := Aside0.mk A40
   clear hbt
   have p4 := eq_true c4
   have q4 := eq_true c3
   clear A40 c3 c4
   cases b with
   | true =>
    have H' := Aside0.mk (show impl_made.l0 k1 a0 71 (wrap64 (i + 1)) = some r from H)
    clear H
    go_wp2_with (go_at_call 71; (with_reducible refine (madeP_isPrinted _ true _ A4.out).mono ?_); rintro e w8 ⟨rfl, hd⟩; obtain ⟨⟨nd, rfl⟩⟩ := hd)
    go_roundg k1
    case measure => have := HK1.out; omega
    case rel => exact ⟨wrap64 (i + 1), rfl, H', ⟨by have := HK1.out; omega⟩, ⟨by obtain ⟨⟨n0, h0⟩⟩ := HD.out; subst h0; exact ⟨⟨_, World.drewN_drewN _ _ _⟩⟩⟩⟩
   | false =>
    obtain rfl := Option.some.inj (show some false = some r from H)
    clear H
    go_wp2_with (go_at_call 71; (with_reducible refine (madeP_isPrinted _ false _ A4.out).mono ?_); rintro e w8 ⟨rfl, hd⟩; obtain ⟨⟨nd, rfl⟩⟩ := hd)
    go_ret
    exact ⟨rfl, by obtain ⟨⟨n0, h0⟩⟩ := HD.out; subst h0; exact ⟨⟨_, World.drewN_drewN _ _ _⟩⟩⟩
theorem madeP_isPlainLetter (c : Int) (b : Bool) (w : World) (h : madeP 70 c = some b) : Calls Tryd.prog 70 #[.int .u8 c] w fun e w' => e = .returned (.bool b) ∧ Drawn0 w w' := by
  unfold madeP at h
  rw [if_neg (by decide)] at h
  rw [if_neg (by decide)] at h
  rw [if_neg (by decide)] at h
  rw [if_pos rfl] at h
  exact impl_isPlainLetter.calls c b w h
set_option maxHeartbeats 8000000 in
set_option maxRecDepth 100000 in
theorem impl_made.calls70 (k : Nat) (a0 : ByteArray) (a1 a2 : Int) (r : Bool) (w : World) (h : impl_made.f k a0 a1 a2 70 = some r) :
  Calls Tryd.prog 45 #[.string a0, .int .i64 a1, .int .i64 a2, .func (.func 70) #[] #[]] w fun e w' => e = .returned (.bool r) ∧ Drawn0 w w' := by
 have HD := Aside0.mk (show Drawn0 w w from ⟨⟨0, rfl⟩⟩)
 have H : (if (a0.size : Int) < a1 then (some false) else (if (a0.size : Int) > a2 then (some false) else (impl_made.l0 k a0 70 0))) = some r := h
 clear h
 by_cases c1 : (a0.size : Int) < a1
 ·
  rw [if_pos c1] at H
  have c1b0 : decide ((a0.size : Int) < a1) = true := decide_eq_true c1
  clear c1
  obtain rfl := Option.some.inj H
  go_enter Tryd.func45, Tryd.ntmps45
  go_wp2
  go_ret
  exact ⟨rfl, HD.out⟩
 rw [if_neg c1] at H
 have c1b0 : decide ((a0.size : Int) < a1) = false := decide_eq_false c1
 clear c1
 by_cases c2 : (a0.size : Int) > a2
 ·
  rw [if_pos c2] at H
  have c2b0 : decide (a2 < (a0.size : Int)) = true := decide_eq_true c2
  clear c2
  obtain rfl := Option.some.inj H
  go_enter Tryd.func45, Tryd.ntmps45
  go_wp2
  go_ret
  exact ⟨rfl, HD.out⟩
 rw [if_neg c2] at H
 have c2b0 : decide (a2 < (a0.size : Int)) = false := decide_eq_false c2
 clear c2
 have H' := Aside0.mk H
 clear H
 go_enter Tryd.func45, Tryd.ntmps45
 go_wp2
 go_loopg [22] k (fun kq v22 w' => ∃ (i : Int), v22 = .int .i64 i ∧ Aside0 (impl_made.l0 kq a0 70 i = some r) ∧ Aside0 (kq ≤ k) ∧ Aside0 (Drawn0 w w'))
 case atStart => exact ⟨0, rfl, H', ⟨Nat.le_refl _⟩, HD⟩
 case round =>
  clear H' HD
  obtain ⟨i, rfl, HA, HK1, HD⟩ := hrel
  cases gk with
  | zero => exact absurd HA.out (by simp [impl_made.l0])
  | succ k1 =>
   have H := HA.out
   clear HA
   simp only [impl_made.l0] at H
   by_cases c3 : i < (a0.size : Int)
   rotate_left
   ·
    rw [if_neg c3] at H
    have c3b0 : decide (i < (a0.size : Int)) = false := decide_eq_false c3
    clear c3
    obtain rfl := Option.some.inj H
    go_wp2
    go_ret
    exact ⟨rfl, HD.out⟩
   rw [if_pos c3] at H
   by_cases c4 : 0 ≤ i
   rotate_left
   ·
    rw [if_neg c4] at H
    exact absurd H (by simp)
   rw [if_pos c4] at H
   have c3b0 : decide (i < (a0.size : Int)) = true := decide_eq_true c3
   have c4b0 : decide (0 ≤ i) = true := decide_eq_true c4
   obtain ⟨b, A40, H⟩ := Option.bind_eq_some_iff.mp H
   have hlt2 : i.toNat < a0.size := by omega
   have hbt : bt a0 i = ((a0[i.toNat]'hlt2).toNat : Int) := by unfold bt; rw [dif_pos hlt2]
   rw [hbt] at A40
   have A4 := Aside0.mk A40
   clear hbt
   have p4 := eq_true c4
   have q4 := eq_true c3
   clear A40 c3 c4
   cases b with
   | true =>
    have H' := Aside0.mk (show impl_made.l0 k1 a0 70 (wrap64 (i + 1)) = some r from H)
    clear H
    go_wp2_with (go_at_call 70; (with_reducible refine (madeP_isPlainLetter _ true _ A4.out).mono ?_); rintro e w8 ⟨rfl, hd⟩; obtain ⟨⟨nd, rfl⟩⟩ := hd)
    go_roundg k1
    case measure => have := HK1.out; omega
    case rel => exact ⟨wrap64 (i + 1), rfl, H', ⟨by have := HK1.out; omega⟩, ⟨by obtain ⟨⟨n0, h0⟩⟩ := HD.out; subst h0; exact ⟨⟨_, World.drewN_drewN _ _ _⟩⟩⟩⟩
   | false =>
    obtain rfl := Option.some.inj (show some false = some r from H)
    clear H
    go_wp2_with (go_at_call 70; (with_reducible refine (madeP_isPlainLetter _ false _ A4.out).mono ?_); rintro e w8 ⟨rfl, hd⟩; obtain ⟨⟨nd, rfl⟩⟩ := hd)
    go_ret
    exact ⟨rfl, by obtain ⟨⟨n0, h0⟩⟩ := HD.out; subst h0; exact ⟨⟨_, World.drewN_drewN _ _ _⟩⟩⟩

/-! ### impl_isMethod: function 24 -/
def impl_isMethod.f (k : Nat) (a0 : ByteArray) : Option (Bool) := (impl_made.f k a0 1 10 46).bind fun t189 => (some t189)
theorem impl_isMethod.mono : ∀ a0 k, LeO (impl_isMethod.f k a0) (impl_isMethod.f (k + 1) a0) := by
  intro a0 k
  unfold impl_isMethod.f
  repeat' first
      | (with_reducible exact impl_made.mono _ _ _ _ _)
      | (with_reducible exact LeO.refl _)
      | (with_reducible exact LeO.none _)
      | (with_reducible refine LeO.ite ?_ ?_)
      | (with_reducible refine LeO.bind ?_ (fun _ => ?_))
      | exact impl_made.mono _ _ _ _ _
      | exact LeO.none _
      | refine LeO.ite ?_ ?_
      | refine LeO.bind ?_ (fun _ => ?_)
set_option maxHeartbeats 8000000 in
set_option maxRecDepth 100000 in
theorem impl_isMethod.calls (k : Nat) (a0 : ByteArray) (r : Bool) (w : World) (h : impl_isMethod.f k a0 = some r) :
  Calls Tryd.prog 24 #[.string a0] w fun e w' => e = .returned (.bool r) ∧ Drawn0 w w' := by
 have H : ((impl_made.f k a0 1 10 46).bind fun t189 => (some t189)) = some r := h
 clear h
 replace H := Option.bind_eq_some_iff.mp H
 obtain ⟨t189, A20, H⟩ := H
 replace H : (some t189) = some r := H
 have A2 := Aside0.mk A20
 clear A20
 obtain rfl := Option.some.inj H
 go_enter Tryd.func24, Tryd.ntmps24
 go_wp2_with (first | ((with_reducible refine gate_callee (f := 45) rfl ?_); refine goesL_ (some 4) rfl rfl Tryd.func45 (by kernel_rfl) rfl #[.string a0, .int .i64 1, .int .i64 10, .func (.func 46) #[] #[]] rfl (by (try simp only [List.map_toArray, List.map_cons, List.map_nil]); first | done | rfl | (simp only [List.length_drop, List.length_take]; rfl)) ?_; (with_reducible refine (impl_made.calls46 k a0 1 10 t189 _ A2.out).mono ?_); rintro e w' ⟨rfl, ⟨nd, rfl⟩⟩; refine ⟨_, rfl, ?_⟩))
 go_ret
 exact ⟨by first | rfl | (simp; done) | (simp [*]; done), by repeat (first | exact Drawn0.refl _ | apply Drawn0.step)⟩

/-! ### stringslite_HasPrefix: function 69 -/
def stringslite_HasPrefix.f (a0 : ByteArray) (a1 : ByteArray) : Option (Bool) := if (a0.size : Int) ≥ (a1.size : Int) then (if 0 ≤ (a1.size : Int) then (if (a1.size : Int) ≤ (a0.size : Int) then (some ((a0.extract 0 ((a1.size : Int) : Int).toNat).toList == a1.toList)) else (none)) else (none)) else (some false)
set_option maxHeartbeats 8000000 in
set_option maxRecDepth 100000 in
theorem stringslite_HasPrefix.calls (a0 : ByteArray) (a1 : ByteArray) (r : Bool) (w : World) (h : stringslite_HasPrefix.f a0 a1 = some r) :
  Calls Tryd.prog 69 #[.string a0, .string a1] w fun e w' => e = .returned (.bool r) ∧ Drawn0 w w' := by
 have H : (if (a0.size : Int) ≥ (a1.size : Int) then (if 0 ≤ (a1.size : Int) then (if (a1.size : Int) ≤ (a0.size : Int) then (some ((a0.extract 0 ((a1.size : Int) : Int).toNat).toList == a1.toList)) else (none)) else (none)) else (some false)) = some r := h
 clear h
 by_cases c3 : (a0.size : Int) ≥ (a1.size : Int)
 rotate_left
 ·
  rw [if_neg c3] at H
  have c3b0 : decide ((a1.size : Int) ≤ (a0.size : Int)) = false := decide_eq_false c3
  have c3b1 : decide (a1.size ≤ a0.size) = false := decide_eq_false (fun h => c3 (Int.ofNat_le.mpr h))
  clear c3
  obtain rfl := Option.some.inj H
  go_enter Tryd.func69, Tryd.ntmps69
  go_wp2
  go_ret
  exact ⟨by first | rfl | (simp; done) | (simp [*]; done), by repeat (first | exact Drawn0.refl _ | apply Drawn0.step)⟩
 rw [if_pos c3] at H
 have c3b0 : decide ((a1.size : Int) ≤ (a0.size : Int)) = true := decide_eq_true c3
 have c3b1 : decide (a1.size ≤ a0.size) = true := decide_eq_true (Int.ofNat_le.mp c3)
 clear c3
 by_cases c4 : 0 ≤ (a1.size : Int)
 rotate_left
 ·
  rw [if_neg c4] at H
  exact absurd H (by simp)
 rw [if_pos c4] at H
 have c4b0 := eq_true c4
 have c4b1 : decide (0 ≤ (a1.size : Int)) = true := decide_eq_true c4
 clear c4
 by_cases c5 : (a1.size : Int) ≤ (a0.size : Int)
 rotate_left
 ·
  rw [if_neg c5] at H
  exact absurd H (by simp)
 rw [if_pos c5] at H
 have c5b0 := eq_true c5
 have c5b1 : decide ((a1.size : Int) ≤ (a0.size : Int)) = true := decide_eq_true c5
 clear c5
 obtain rfl := Option.some.inj H
 go_enter Tryd.func69, Tryd.ntmps69
 go_wp2
 go_ret
 exact ⟨by first | rfl | (simp; done) | (simp [*]; done), by repeat (first | exact Drawn0.refl _ | apply Drawn0.step)⟩

/-! ### strings_HasPrefix: function 47 -/
def strings_HasPrefix.f (a0 : ByteArray) (a1 : ByteArray) : Option (Bool) := (stringslite_HasPrefix.f a0 a1).bind fun t190 => (some t190)
set_option maxHeartbeats 8000000 in
set_option maxRecDepth 100000 in
theorem strings_HasPrefix.calls (a0 : ByteArray) (a1 : ByteArray) (r : Bool) (w : World) (h : strings_HasPrefix.f a0 a1 = some r) :
  Calls Tryd.prog 47 #[.string a0, .string a1] w fun e w' => e = .returned (.bool r) ∧ Drawn0 w w' := by
 have H : ((stringslite_HasPrefix.f a0 a1).bind fun t190 => (some t190)) = some r := h
 clear h
 replace H := Option.bind_eq_some_iff.mp H
 obtain ⟨t190, A30, H⟩ := H
 replace H : (some t190) = some r := H
 have A3 := Aside0.mk A30
 clear A30
 obtain rfl := Option.some.inj H
 go_enter Tryd.func47, Tryd.ntmps47
 go_wp2_with (first | ((with_reducible refine gate_callee (f := 69) rfl ?_); refine goesL_ (some 7) rfl rfl Tryd.func69 (by kernel_rfl) rfl #[.string a0, .string a1] rfl (by (try simp only [List.map_toArray, List.map_cons, List.map_nil]); first | done | rfl | (simp only [List.length_drop, List.length_take]; rfl)) ?_; (with_reducible refine (stringslite_HasPrefix.calls a0 a1 t190 _ A3.out).mono ?_); rintro e w' ⟨rfl, ⟨nd, rfl⟩⟩; refine ⟨_, rfl, ?_⟩))
 go_ret
 exact ⟨by first | rfl | (simp; done) | (simp [*]; done), by repeat (first | exact Drawn0.refl _ | apply Drawn0.step)⟩

/-! ### impl_isPath: function 25 -/
def impl_isPath.f (a0 : ByteArray) : Option (Bool) := if (a0.size : Int) ≤ 1000 then ((strings_HasPrefix.f a0 (⟨#[47]⟩ : ByteArray)).bind fun t191 => (some t191)) else (some false)
set_option maxHeartbeats 8000000 in
set_option maxRecDepth 100000 in
theorem impl_isPath.calls (a0 : ByteArray) (r : Bool) (w : World) (h : impl_isPath.f a0 = some r) :
  Calls Tryd.prog 25 #[.string a0] w fun e w' => e = .returned (.bool r) ∧ Drawn0 w w' := by
 have H : (if (a0.size : Int) ≤ 1000 then ((strings_HasPrefix.f a0 (⟨#[47]⟩ : ByteArray)).bind fun t191 => (some t191)) else (some false)) = some r := h
 clear h
 by_cases c2 : (a0.size : Int) ≤ 1000
 rotate_left
 ·
  rw [if_neg c2] at H
  have c2b0 : decide ((a0.size : Int) ≤ 1000) = false := decide_eq_false c2
  have c2b1 : decide (a0.size ≤ 1000) = false := decide_eq_false (by omega)
  clear c2
  obtain rfl := Option.some.inj H
  go_enter Tryd.func25, Tryd.ntmps25
  go_wp2
  go_ret
  exact ⟨by first | rfl | (simp; done) | (simp [*]; done), by repeat (first | exact Drawn0.refl _ | apply Drawn0.step)⟩
 rw [if_pos c2] at H
 have c2b0 : decide ((a0.size : Int) ≤ 1000) = true := decide_eq_true c2
 have c2b1 : decide (a0.size ≤ 1000) = true := decide_eq_true (by omega)
 clear c2
 replace H := Option.bind_eq_some_iff.mp H
 obtain ⟨t191, A30, H⟩ := H
 replace H : (some t191) = some r := H
 have A3 := Aside0.mk A30
 clear A30
 obtain rfl := Option.some.inj H
 go_enter Tryd.func25, Tryd.ntmps25
 go_wp2_with (first | (go_at_call 47; (with_reducible refine (strings_HasPrefix.calls a0 (⟨#[47]⟩ : ByteArray) t191 _ A3.out).mono ?_); rintro e w' ⟨rfl, ⟨nd, rfl⟩⟩))
 go_ret
 exact ⟨by first | rfl | (simp; done) | (simp [*]; done), by repeat (first | exact Drawn0.refl _ | apply Drawn0.step)⟩

/-! ### impl_isQuery: function 27 -/
def impl_isQuery.f (a0_0 : ByteArray) (a0_1 : ByteArray) : Option (Bool) := if (a0_0.size : Int) ≥ 1 then (if (a0_0.size : Int) ≤ 100 then (some (decide ((a0_1.size : Int) ≤ 1000))) else (some false)) else (some false)
set_option maxHeartbeats 8000000 in
set_option maxRecDepth 100000 in
theorem impl_isQuery.calls (a0_0 : ByteArray) (a0_1 : ByteArray) (r : Bool) (w : World) (h : impl_isQuery.f a0_0 a0_1 = some r) :
  Calls Tryd.prog 27 #[.agg #[.string a0_0, .string a0_1]] w fun e w' => e = .returned (.bool r) ∧ Below w.heap.size w w' := by
 have hu45 := Tryd.underlying45
 have HB := Aside0.mk (Below.refl w.heap.size w)
 have H : (if (a0_0.size : Int) ≥ 1 then (if (a0_0.size : Int) ≤ 100 then (some (decide ((a0_1.size : Int) ≤ 1000))) else (some false)) else (some false)) = some r := h
 clear h
 by_cases c2 : (a0_0.size : Int) ≥ 1
 rotate_left
 ·
  rw [if_neg c2] at H
  have c2b0 : decide (1 ≤ (a0_0.size : Int)) = false := decide_eq_false c2
  have c2b1 : decide (1 ≤ a0_0.size) = false := decide_eq_false (by omega)
  clear c2
  obtain rfl := Option.some.inj H
  go_enter Tryd.func27, Tryd.ntmps27
  go_wp2_with (first | ((with_reducible refine gate_dst (N := 1) rfl ?_); (try (refine gate_guard (by rfl) ?_; dsimp only)); refine box_event ?hg (N := 1) ?hd (cs := #[.string a0_0, .string a0_1]) (t := 45) ?hr ?_; (case hd => rfl); (case hg => rfl); (case hr => first | (go_simp; done) | (go_simp; rfl)); intro gb192 hg w8 hbox hb; have n0_ := Aside0.mk (below_step (by first | exact Grow.bl HB.out | exact HB.out) hb); have n1_ := Aside0.mk (hbox); have n2_ := Aside0.mk ((by rw [hg]; exact (below_size (by first | exact Grow.bl HB.out | exact HB.out)) : w.heap.size ≤ gb192)); have n3_ := Aside0.mk ((by rw [hg]; exact (below_size (by first | exact Grow.bl HB.out | exact HB.out)) : w.heap.size ≤ gb192)); clear HB; have HB := n0_; have BK192 := n1_; have GW192 := n2_; have GE192 := n3_; clear n0_ n1_ n2_ n3_; clear hb hbox hg; have hcz9_0 : w8.cell? ⟨gb192, 0, none⟩ = some (.string a0_0) := (blk_cell BK192.out 0).trans rfl; have hcz9_1 : w8.cell? ⟨gb192, 1, none⟩ = some (.string a0_1) := (blk_cell BK192.out 1).trans rfl; have hfz9_0 := blk_frozen BK192.out 0; have hfz9_1 := blk_frozen BK192.out 1))
  go_ret
  exact ⟨by first | rfl | (simp [errW_none, errW_some] <;> rfl) | (simp [*, errW_none, errW_some] <;> rfl), by repeat (first | (with_reducible first | exact HB.out | apply below_alloc | apply pw_below_drewN | apply below_drew1 | refine below_set ?_ GE192.out) | exact HB.out)⟩
 rw [if_pos c2] at H
 have c2b0 : decide (1 ≤ (a0_0.size : Int)) = true := decide_eq_true c2
 have c2b1 : decide (1 ≤ a0_0.size) = true := decide_eq_true (by omega)
 clear c2
 by_cases c3 : (a0_0.size : Int) ≤ 100
 ·
  rw [if_pos c3] at H
  have c3b0 : decide ((a0_0.size : Int) ≤ 100) = true := decide_eq_true c3
  have c3b1 : decide (a0_0.size ≤ 100) = true := decide_eq_true (by omega)
  clear c3
  obtain rfl := Option.some.inj H
  go_enter Tryd.func27, Tryd.ntmps27
  go_wp2_with (first | ((with_reducible refine gate_dst (N := 1) rfl ?_); (try (refine gate_guard (by rfl) ?_; dsimp only)); refine box_event ?hg (N := 1) ?hd (cs := #[.string a0_0, .string a0_1]) (t := 45) ?hr ?_; (case hd => rfl); (case hg => rfl); (case hr => first | (go_simp; done) | (go_simp; rfl)); intro gb192 hg w4 hbox hb; have n0_ := Aside0.mk (below_step (by first | exact Grow.bl HB.out | exact HB.out) hb); have n1_ := Aside0.mk (hbox); have n2_ := Aside0.mk ((by rw [hg]; exact (below_size (by first | exact Grow.bl HB.out | exact HB.out)) : w.heap.size ≤ gb192)); have n3_ := Aside0.mk ((by rw [hg]; exact (below_size (by first | exact Grow.bl HB.out | exact HB.out)) : w.heap.size ≤ gb192)); clear HB; have HB := n0_; have BK192 := n1_; have GW192 := n2_; have GE192 := n3_; clear n0_ n1_ n2_ n3_; clear hb hbox hg; have hcz5_0 : w4.cell? ⟨gb192, 0, none⟩ = some (.string a0_0) := (blk_cell BK192.out 0).trans rfl; have hcz5_1 : w4.cell? ⟨gb192, 1, none⟩ = some (.string a0_1) := (blk_cell BK192.out 1).trans rfl; have hfz5_0 := blk_frozen BK192.out 0; have hfz5_1 := blk_frozen BK192.out 1))
  go_ret
  exact ⟨by first | rfl | (simp [errW_none, errW_some] <;> rfl) | (simp [*, errW_none, errW_some] <;> rfl), by repeat (first | (with_reducible first | exact HB.out | apply below_alloc | apply pw_below_drewN | apply below_drew1 | refine below_set ?_ GE192.out) | exact HB.out)⟩
 rw [if_neg c3] at H
 have c3b0 : decide ((a0_0.size : Int) ≤ 100) = false := decide_eq_false c3
 have c3b1 : decide (a0_0.size ≤ 100) = false := decide_eq_false (by omega)
 clear c3
 obtain rfl := Option.some.inj H
 go_enter Tryd.func27, Tryd.ntmps27
 go_wp2_with (first | ((with_reducible refine gate_dst (N := 1) rfl ?_); (try (refine gate_guard (by rfl) ?_; dsimp only)); refine box_event ?hg (N := 1) ?hd (cs := #[.string a0_0, .string a0_1]) (t := 45) ?hr ?_; (case hd => rfl); (case hg => rfl); (case hr => first | (go_simp; done) | (go_simp; rfl)); intro gb192 hg w6 hbox hb; have n0_ := Aside0.mk (below_step (by first | exact Grow.bl HB.out | exact HB.out) hb); have n1_ := Aside0.mk (hbox); have n2_ := Aside0.mk ((by rw [hg]; exact (below_size (by first | exact Grow.bl HB.out | exact HB.out)) : w.heap.size ≤ gb192)); have n3_ := Aside0.mk ((by rw [hg]; exact (below_size (by first | exact Grow.bl HB.out | exact HB.out)) : w.heap.size ≤ gb192)); clear HB; have HB := n0_; have BK192 := n1_; have GW192 := n2_; have GE192 := n3_; clear n0_ n1_ n2_ n3_; clear hb hbox hg; have hcz7_0 : w6.cell? ⟨gb192, 0, none⟩ = some (.string a0_0) := (blk_cell BK192.out 0).trans rfl; have hcz7_1 : w6.cell? ⟨gb192, 1, none⟩ = some (.string a0_1) := (blk_cell BK192.out 1).trans rfl; have hfz7_0 := blk_frozen BK192.out 0; have hfz7_1 := blk_frozen BK192.out 1))
 go_ret
 exact ⟨by first | rfl | (simp [errW_none, errW_some] <;> rfl) | (simp [*, errW_none, errW_some] <;> rfl), by repeat (first | (with_reducible first | exact HB.out | apply below_alloc | apply pw_below_drewN | apply below_drew1 | refine below_set ?_ GE192.out) | exact HB.out)⟩

/-! ### strings_Trim: function 72 -/
/-- A text without the blanks at its ends. -/
def trimOf (s : ByteArray) : ByteArray := ⟨(Lib.trimB s.data.toList 32).toArray⟩
def strings_Trim.f (s c : ByteArray) : Option (ByteArray) := if c.data.toList = [32] ∧ s.size ≤ 9223372036854775807 then some (trimOf s) else none
theorem strings_Trim.calls (a0 : ByteArray) (a1 : ByteArray) (r : ByteArray) (w : World) (h : strings_Trim.f a0 a1 = some r) :
  Calls Tryd.prog 72 #[.string a0, .string a1] w fun e w' => e = .returned (.string r) ∧ Drawn0 w w' := by
 unfold strings_Trim.f at h
 by_cases hb : a1.data.toList = [32] ∧ a0.size ≤ 9223372036854775807
 rotate_left
 ·
  rw [if_neg hb] at h
  cases h
 rw [if_pos hb] at h
 obtain rfl := Option.some.inj h
 obtain rfl : a1 = ⟨#[32]⟩ := ByteArray.ext (Array.toList_inj.1 hb.1)
 refine (Tryd.strings_Trim_one a0 32 (by decide) w hb.2).mono fun e w' h => ?_
 obtain ⟨rfl, h | h⟩ := h
 ·
  subst h; exact ⟨rfl, ⟨⟨0, rfl⟩⟩⟩
 ·
  subst h; exact ⟨rfl, ⟨⟨1, rfl⟩⟩⟩

/-! ### impl_headerValue: function 49 -/
def impl_headerValue.f (k : Nat) (a0 : ByteArray) : Option (Bool) := (impl_made.f k a0 0 1000 71).bind fun t193 => (if t193 = true then ((strings_Trim.f a0 (⟨#[32]⟩ : ByteArray)).bind fun t194 => (some (t194.toList == a0.toList))) else (some false))
theorem impl_headerValue.mono : ∀ a0 k, LeO (impl_headerValue.f k a0) (impl_headerValue.f (k + 1) a0) := by
  intro a0 k
  unfold impl_headerValue.f
  repeat' first
      | (with_reducible exact impl_made.mono _ _ _ _ _)
      | (with_reducible exact LeO.refl _)
      | (with_reducible exact LeO.none _)
      | (with_reducible refine LeO.ite ?_ ?_)
      | (with_reducible refine LeO.bind ?_ (fun _ => ?_))
      | exact impl_made.mono _ _ _ _ _
      | exact LeO.none _
      | refine LeO.ite ?_ ?_
      | refine LeO.bind ?_ (fun _ => ?_)
set_option maxHeartbeats 8000000 in
set_option maxRecDepth 100000 in
theorem impl_headerValue.calls (k : Nat) (a0 : ByteArray) (r : Bool) (w : World) (h : impl_headerValue.f k a0 = some r) :
  Calls Tryd.prog 49 #[.string a0] w fun e w' => e = .returned (.bool r) ∧ Drawn0 w w' := by
 have H : ((impl_made.f k a0 0 1000 71).bind fun t193 => (if t193 = true then ((strings_Trim.f a0 (⟨#[32]⟩ : ByteArray)).bind fun t194 => (some (t194.toList == a0.toList))) else (some false))) = some r := h
 clear h
 replace H := Option.bind_eq_some_iff.mp H
 obtain ⟨t193, A20, H⟩ := H
 replace H : (if t193 = true then ((strings_Trim.f a0 (⟨#[32]⟩ : ByteArray)).bind fun t194 => (some (t194.toList == a0.toList))) else (some false)) = some r := H
 have A2 := Aside0.mk A20
 clear A20
 by_cases c3 : t193 = true
 rotate_left
 ·
  replace c3 := Bool.eq_false_iff.mpr c3
  subst c3
  have H1 : (some false) = some r := by rw [if_neg (show ¬ (false = true) by decide)] at H; exact H
  clear H
  have H := H1
  clear H1
  obtain rfl := Option.some.inj H
  go_enter Tryd.func49, Tryd.ntmps49
  go_wp2_with (first | ((with_reducible refine gate_callee (f := 45) rfl ?_); refine goesL_ (some 4) rfl rfl Tryd.func45 (by kernel_rfl) rfl #[.string a0, .int .i64 0, .int .i64 1000, .func (.func 71) #[] #[]] rfl (by (try simp only [List.map_toArray, List.map_cons, List.map_nil]); first | done | rfl | (simp only [List.length_drop, List.length_take]; rfl)) ?_; (with_reducible refine (impl_made.calls71 k a0 0 1000 false _ A2.out).mono ?_); rintro e w' ⟨rfl, ⟨nd, rfl⟩⟩; refine ⟨_, rfl, ?_⟩))
  go_ret
  exact ⟨by first | rfl | (simp; done) | (simp [*]; done), by repeat (first | exact Drawn0.refl _ | apply Drawn0.step)⟩
 subst c3
 have H1 : ((strings_Trim.f a0 (⟨#[32]⟩ : ByteArray)).bind fun t194 => (some (t194.toList == a0.toList))) = some r := by rw [if_pos rfl] at H; exact H
 clear H
 have H := H1
 clear H1
 replace H := Option.bind_eq_some_iff.mp H
 obtain ⟨t194, A40, H⟩ := H
 replace H : (some (t194.toList == a0.toList)) = some r := H
 have A4 := Aside0.mk A40
 clear A40
 obtain rfl := Option.some.inj H
 go_enter Tryd.func49, Tryd.ntmps49
 go_wp2_with (first | ((with_reducible refine gate_callee (f := 45) rfl ?_); refine goesL_ (some 4) rfl rfl Tryd.func45 (by kernel_rfl) rfl #[.string a0, .int .i64 0, .int .i64 1000, .func (.func 71) #[] #[]] rfl (by (try simp only [List.map_toArray, List.map_cons, List.map_nil]); first | done | rfl | (simp only [List.length_drop, List.length_take]; rfl)) ?_; (with_reducible refine (impl_made.calls71 k a0 0 1000 true _ A2.out).mono ?_); rintro e w' ⟨rfl, ⟨nd, rfl⟩⟩; refine ⟨_, rfl, ?_⟩) | (go_at_call 72; (with_reducible refine (strings_Trim.calls a0 (⟨#[32]⟩ : ByteArray) t194 _ A4.out).mono ?_); rintro e w' ⟨rfl, ⟨nd, rfl⟩⟩))
 go_ret
 exact ⟨by first | rfl | (simp; done) | (simp [*]; done), by repeat (first | exact Drawn0.refl _ | apply Drawn0.step)⟩

/-! ### impl_isHeader: function 28 -/
def impl_isHeader.f (k : Nat) (a0_0 : ByteArray) (a0_1 : ByteArray) : Option (Bool) := (impl_made.f k a0_0 1 60 48).bind fun t196 => (if t196 = true then (if a0_0.toList = ([108, 101, 110, 103, 116, 104] : List UInt8) then (some false) else ((impl_headerValue.f k a0_1).bind fun t197 => (some t197))) else (some false))
theorem impl_isHeader.mono : ∀ a0 a1 k, LeO (impl_isHeader.f k a0 a1) (impl_isHeader.f (k + 1) a0 a1) := by
  intro a0 a1 k
  unfold impl_isHeader.f
  repeat' first
      | (with_reducible exact impl_headerValue.mono _ _)
      | (with_reducible exact impl_made.mono _ _ _ _ _)
      | (with_reducible exact LeO.refl _)
      | (with_reducible exact LeO.none _)
      | (with_reducible refine LeO.ite ?_ ?_)
      | (with_reducible refine LeO.bind ?_ (fun _ => ?_))
      | exact impl_headerValue.mono _ _
      | exact impl_made.mono _ _ _ _ _
      | exact LeO.none _
      | refine LeO.ite ?_ ?_
      | refine LeO.bind ?_ (fun _ => ?_)
set_option maxHeartbeats 8000000 in
set_option maxRecDepth 100000 in
theorem impl_isHeader.calls (k : Nat) (a0_0 : ByteArray) (a0_1 : ByteArray) (r : Bool) (w : World) (h : impl_isHeader.f k a0_0 a0_1 = some r) :
  Calls Tryd.prog 28 #[.agg #[.string a0_0, .string a0_1]] w fun e w' => e = .returned (.bool r) ∧ Below w.heap.size w w' := by
 have hu45 := Tryd.underlying45
 have HB := Aside0.mk (Below.refl w.heap.size w)
 have H : ((impl_made.f k a0_0 1 60 48).bind fun t196 => (if t196 = true then (if a0_0.toList = ([108, 101, 110, 103, 116, 104] : List UInt8) then (some false) else ((impl_headerValue.f k a0_1).bind fun t197 => (some t197))) else (some false))) = some r := h
 clear h
 replace H := Option.bind_eq_some_iff.mp H
 obtain ⟨t196, A20, H⟩ := H
 replace H : (if t196 = true then (if a0_0.toList = ([108, 101, 110, 103, 116, 104] : List UInt8) then (some false) else ((impl_headerValue.f k a0_1).bind fun t197 => (some t197))) else (some false)) = some r := H
 have A2 := Aside0.mk A20
 clear A20
 by_cases c3 : t196 = true
 rotate_left
 ·
  replace c3 := Bool.eq_false_iff.mpr c3
  subst c3
  have H1 : (some false) = some r := by rw [if_neg (show ¬ (false = true) by decide)] at H; exact H
  clear H
  have H := H1
  clear H1
  obtain rfl := Option.some.inj H
  go_enter Tryd.func28, Tryd.ntmps28
  go_wp2_with (first | ((with_reducible refine gate_dst (N := 1) rfl ?_); refine box_event ?hg (N := 1) ?hd (cs := #[.string a0_0, .string a0_1]) (t := 45) ?hr ?_; (case hd => rfl); (case hg => rfl); (case hr => first | (go_simp; done) | (go_simp; rfl)); intro gb195 hg w10 hbox hb; have n0_ := Aside0.mk (below_step (by first | exact Grow.bl HB.out | exact HB.out) hb); have n1_ := Aside0.mk (hbox); have n2_ := Aside0.mk ((by rw [hg]; exact (below_size (by first | exact Grow.bl HB.out | exact HB.out)) : w.heap.size ≤ gb195)); have n3_ := Aside0.mk ((by rw [hg]; exact (below_size (by first | exact Grow.bl HB.out | exact HB.out)) : w.heap.size ≤ gb195)); clear HB; have HB := n0_; have BK195 := n1_; have GW195 := n2_; have GE195 := n3_; clear n0_ n1_ n2_ n3_; clear hb hbox hg; have hcz11_0 : w10.cell? ⟨gb195, 0, none⟩ = some (.string a0_0) := (blk_cell BK195.out 0).trans rfl; have hcz11_1 : w10.cell? ⟨gb195, 1, none⟩ = some (.string a0_1) := (blk_cell BK195.out 1).trans rfl; have hfz11_0 := blk_frozen BK195.out 0; have hfz11_1 := blk_frozen BK195.out 1) | ((with_reducible refine gate_callee (f := 45) rfl ?_); refine goesL_ (some 5) rfl rfl Tryd.func45 (by kernel_rfl) rfl #[.string a0_0, .int .i64 1, .int .i64 60, .func (.func 48) #[] #[]] rfl (by (try simp only [List.map_toArray, List.map_cons, List.map_nil]); first | done | rfl | (simp only [List.length_drop, List.length_take]; rfl)) ?_; (with_reducible refine (impl_made.calls48 k a0_0 1 60 false _ A2.out).mono ?_); rintro e w' ⟨rfl, ⟨nd, rfl⟩⟩; refine ⟨_, rfl, ?_⟩))
  go_ret
  exact ⟨by first | rfl | (simp [errW_none, errW_some] <;> rfl) | (simp [*, errW_none, errW_some] <;> rfl), by repeat (first | (with_reducible first | exact HB.out | apply below_alloc | apply pw_below_drewN | apply below_drew1 | refine below_set ?_ GE195.out) | exact HB.out)⟩
 subst c3
 have H1 : (if a0_0.toList = ([108, 101, 110, 103, 116, 104] : List UInt8) then (some false) else ((impl_headerValue.f k a0_1).bind fun t197 => (some t197))) = some r := by rw [if_pos rfl] at H; exact H
 clear H
 have H := H1
 clear H1
 by_cases c4 : a0_0.toList = ([108, 101, 110, 103, 116, 104] : List UInt8)
 ·
  rw [if_pos c4] at H
  have c4b0 : (a0_0.toList == ([108, 101, 110, 103, 116, 104] : List UInt8)) = true := beq_iff_eq.mpr c4
  have c4b1 : (a0_0.toList != ([108, 101, 110, 103, 116, 104] : List UInt8)) = false := bne_eq_false_iff_eq.mpr c4
  clear c4
  obtain rfl := Option.some.inj H
  go_enter Tryd.func28, Tryd.ntmps28
  go_wp2_with (first | ((with_reducible refine gate_dst (N := 1) rfl ?_); refine box_event ?hg (N := 1) ?hd (cs := #[.string a0_0, .string a0_1]) (t := 45) ?hr ?_; (case hd => rfl); (case hg => rfl); (case hr => first | (go_simp; done) | (go_simp; rfl)); intro gb195 hg w5 hbox hb; have n0_ := Aside0.mk (below_step (by first | exact Grow.bl HB.out | exact HB.out) hb); have n1_ := Aside0.mk (hbox); have n2_ := Aside0.mk ((by rw [hg]; exact (below_size (by first | exact Grow.bl HB.out | exact HB.out)) : w.heap.size ≤ gb195)); have n3_ := Aside0.mk ((by rw [hg]; exact (below_size (by first | exact Grow.bl HB.out | exact HB.out)) : w.heap.size ≤ gb195)); clear HB; have HB := n0_; have BK195 := n1_; have GW195 := n2_; have GE195 := n3_; clear n0_ n1_ n2_ n3_; clear hb hbox hg; have hcz6_0 : w5.cell? ⟨gb195, 0, none⟩ = some (.string a0_0) := (blk_cell BK195.out 0).trans rfl; have hcz6_1 : w5.cell? ⟨gb195, 1, none⟩ = some (.string a0_1) := (blk_cell BK195.out 1).trans rfl; have hfz6_0 := blk_frozen BK195.out 0; have hfz6_1 := blk_frozen BK195.out 1) | ((with_reducible refine gate_callee (f := 45) rfl ?_); refine goesL_ (some 5) rfl rfl Tryd.func45 (by kernel_rfl) rfl #[.string a0_0, .int .i64 1, .int .i64 60, .func (.func 48) #[] #[]] rfl (by (try simp only [List.map_toArray, List.map_cons, List.map_nil]); first | done | rfl | (simp only [List.length_drop, List.length_take]; rfl)) ?_; (with_reducible refine (impl_made.calls48 k a0_0 1 60 true _ A2.out).mono ?_); rintro e w' ⟨rfl, ⟨nd, rfl⟩⟩; refine ⟨_, rfl, ?_⟩))
  go_ret
  exact ⟨by first | rfl | (simp [errW_none, errW_some] <;> rfl) | (simp [*, errW_none, errW_some] <;> rfl), by repeat (first | (with_reducible first | exact HB.out | apply below_alloc | apply pw_below_drewN | apply below_drew1 | refine below_set ?_ GE195.out) | exact HB.out)⟩
 rw [if_neg c4] at H
 have c4b0 : (a0_0.toList == ([108, 101, 110, 103, 116, 104] : List UInt8)) = false := beq_eq_false_iff_ne.mpr c4
 have c4b1 : (a0_0.toList != ([108, 101, 110, 103, 116, 104] : List UInt8)) = true := bne_iff_ne.mpr c4
 replace H := Option.bind_eq_some_iff.mp H
 obtain ⟨t197, A70, H⟩ := H
 replace H : (some t197) = some r := H
 have A7 := Aside0.mk A70
 clear A70
 obtain rfl := Option.some.inj H
 go_enter Tryd.func28, Tryd.ntmps28
 go_wp2_with (first | ((with_reducible refine gate_dst (N := 1) rfl ?_); refine box_event ?hg (N := 1) ?hd (cs := #[.string a0_0, .string a0_1]) (t := 45) ?hr ?_; (case hd => rfl); (case hg => rfl); (case hr => first | (go_simp; done) | (go_simp; rfl)); intro gb195 hg w8 hbox hb; have n0_ := Aside0.mk (below_step (by first | exact Grow.bl HB.out | exact HB.out) hb); have n1_ := Aside0.mk (hbox); have n2_ := Aside0.mk ((by rw [hg]; exact (below_size (by first | exact Grow.bl HB.out | exact HB.out)) : w.heap.size ≤ gb195)); have n3_ := Aside0.mk ((by rw [hg]; exact (below_size (by first | exact Grow.bl HB.out | exact HB.out)) : w.heap.size ≤ gb195)); clear HB; have HB := n0_; have BK195 := n1_; have GW195 := n2_; have GE195 := n3_; clear n0_ n1_ n2_ n3_; clear hb hbox hg; have hcz9_0 : w8.cell? ⟨gb195, 0, none⟩ = some (.string a0_0) := (blk_cell BK195.out 0).trans rfl; have hcz9_1 : w8.cell? ⟨gb195, 1, none⟩ = some (.string a0_1) := (blk_cell BK195.out 1).trans rfl; have hfz9_0 := blk_frozen BK195.out 0; have hfz9_1 := blk_frozen BK195.out 1) | ((with_reducible refine gate_callee (f := 45) rfl ?_); refine goesL_ (some 5) rfl rfl Tryd.func45 (by kernel_rfl) rfl #[.string a0_0, .int .i64 1, .int .i64 60, .func (.func 48) #[] #[]] rfl (by (try simp only [List.map_toArray, List.map_cons, List.map_nil]); first | done | rfl | (simp only [List.length_drop, List.length_take]; rfl)) ?_; (with_reducible refine (impl_made.calls48 k a0_0 1 60 true _ A2.out).mono ?_); rintro e w' ⟨rfl, ⟨nd, rfl⟩⟩; refine ⟨_, rfl, ?_⟩) | (go_at_call 49; (with_reducible refine (impl_headerValue.calls k a0_1 t197 _ A7.out).mono ?_); rintro e w' ⟨rfl, ⟨nd, rfl⟩⟩))
 go_ret
 exact ⟨by first | rfl | (simp [errW_none, errW_some] <;> rfl) | (simp [*, errW_none, errW_some] <;> rfl), by repeat (first | (with_reducible first | exact HB.out | apply below_alloc | apply pw_below_drewN | apply below_drew1 | refine below_set ?_ GE195.out) | exact HB.out)⟩

end Go.Proofs.YtepnjhmdcaolkaaDoor.QFnExactWriteRequest
