/- The statement FnExactInv16 over numbers alone: the program's Inv16 and the reference's answer the same number. No condition. -/
import Derived.Test.YtnailhkgnccloaaPFnExactInv16x1
import Derived.Laws.BitsAllLaws
import Derived.Laws.Bits64
set_option linter.all false
namespace Go.Proofs.Ytnailhkgnccloaa.Pure
open Go.RowKit Go.Proofs.Ytnailhkgnccloaa.PFnExactInv16 Go.Proofs.YtnailhkgnccloaaW.PrintWords Go.Proofs.YtnailhkgnccloaaW.PrintLast Go.Proofs.YtnailhkgnccloaaW.PrintMore

/-! Small lemmas on wraps, rounds and lists. -/
theorem wrap64_id {x : Int} (h0 : -9223372036854775808 ≤ x) (h1 : x < 9223372036854775808) : wrap64 x = x := by unfold wrap64; omega
theorem u64_id {x : Int} (h0 : 0 ≤ x) (h1 : x < 18446744073709551616) : IntKind.u64.wrap x = x := by rw [IntKind.wrap_u64]; omega
theorem Ev.pos {α : Type} {c : Prop} [Decidable c] {f g : Nat → Option α} {r : α} (h : c) (e : Ev f r) : Ev (fun k => if c then f k else g k) r := by simpa [h] using e
theorem Ev.neg {α : Type} {c : Prop} [Decidable c] {f g : Nat → Option α} {r : α} (h : ¬ c) (e : Ev g r) : Ev (fun k => if c then f k else g k) r := by simpa [h] using e
theorem Ev.bindS {α β : Type} {g : Option α} {f : Nat → α → Option β} {a : α} {r : β} (h : g = some a) (e : Ev (fun k => f k a) r) : Ev (fun k => g.bind (f k)) r := by subst h; simpa using e
theorem Ev.give {α : Type} {r s : α} (h : s = r) : Ev (fun _ => some s) r := by subst h; exact Ev.now _
theorem bt_drop (s : ByteArray) (i : Nat) (h : i < s.size) : ∃ c : UInt8, s.data.toList.drop i = c :: s.data.toList.drop (i + 1) ∧ bt s (i : Int) = (c.toNat : Int) := by
  have hl : i < s.data.toList.length := by simpa using h
  refine ⟨s.data.toList[i], List.drop_eq_getElem_cons hl, ?_⟩
  unfold bt
  rw [dif_pos (by simpa using h)]
  simp [ByteArray.getElem_eq_getElem_data]
theorem drop_end (s : ByteArray) (i : Nat) (h : s.size ≤ i) : s.data.toList.drop i = [] := List.drop_eq_nil_of_le (by simpa using h)
theorem size_strOfNums (l : List Int) : (strOfNums l).size = l.length := by
  show (strOfNums l).data.size = l.length
  simp [strOfNums]
theorem i64_range {n : Int} (h : (Lit.int .i64 n).wf = true) : -9223372036854775808 ≤ n ∧ n < 9223372036854775808 := by
  simp only [Lit.wf, IntKind.min, IntKind.max, IntKind.signed, IntKind.bits, Bool.and_eq_true, decide_eq_true_eq, if_true] at h; omega

/-! Go's bits at numbers from 0 on. -/
theorem bits_xor_i64 (a b : Nat) (ha : a < 9223372036854775808) (hb : b < 9223372036854775808) : Go.bits .xor .i64 (a : Int) (b : Int) = ((a ^^^ b : Nat) : Int) := by
  have hx : a ^^^ b < 2 ^ 63 := Nat.xor_lt_two_pow (by simpa using ha) (by simpa using hb)
  show IntKind.i64.wrap (((BitVec.ofInt 64 (a : Int)) ^^^ (BitVec.ofInt 64 (b : Int))).toNat : Int) = _
  rw [BitVec.toNat_xor, BitVec.ofInt_natCast, BitVec.ofInt_natCast, BitVec.toNat_ofNat, BitVec.toNat_ofNat, Nat.mod_eq_of_lt (by omega : a < 2 ^ 64), Nat.mod_eq_of_lt (by omega : b < 2 ^ 64), IntKind.wrap_i64]
  omega
theorem bits_and_i64 (a b : Nat) (ha : a < 9223372036854775808) (hb : b < 9223372036854775808) : Go.bits .and .i64 (a : Int) (b : Int) = ((a &&& b : Nat) : Int) := by
  have hx : a &&& b < 2 ^ 63 := Nat.and_lt_two_pow _ (by simpa using hb)
  show IntKind.i64.wrap (((BitVec.ofInt 64 (a : Int)) &&& (BitVec.ofInt 64 (b : Int))).toNat : Int) = _
  rw [BitVec.toNat_and, BitVec.ofInt_natCast, BitVec.ofInt_natCast, BitVec.toNat_ofNat, BitVec.toNat_ofNat, Nat.mod_eq_of_lt (by omega : a < 2 ^ 64), Nat.mod_eq_of_lt (by omega : b < 2 ^ 64), IntKind.wrap_i64]
  omega
theorem bits_xor_u8 (a b : Nat) (ha : a < 256) (hb : b < 256) : Go.bits .xor .u8 (a : Int) (b : Int) = ((a ^^^ b : Nat) : Int) := by
  have hx : a ^^^ b < 2 ^ 8 := Nat.xor_lt_two_pow (by simpa using ha) (by simpa using hb)
  show IntKind.u8.wrap (((BitVec.ofInt 8 (a : Int)) ^^^ (BitVec.ofInt 8 (b : Int))).toNat : Int) = _
  rw [BitVec.toNat_xor, BitVec.ofInt_natCast, BitVec.ofInt_natCast, BitVec.toNat_ofNat, BitVec.toNat_ofNat, Nat.mod_eq_of_lt (by omega : a < 2 ^ 8), Nat.mod_eq_of_lt (by omega : b < 2 ^ 8), IntKind.wrap_u8]
  omega
theorem bits_and_u8 (a b : Nat) (ha : a < 256) (hb : b < 256) : Go.bits .and .u8 (a : Int) (b : Int) = ((a &&& b : Nat) : Int) := by
  have hx : a &&& b < 2 ^ 8 := Nat.and_lt_two_pow _ (by simpa using hb)
  show IntKind.u8.wrap (((BitVec.ofInt 8 (a : Int)) &&& (BitVec.ofInt 8 (b : Int))).toNat : Int) = _
  rw [BitVec.toNat_and, BitVec.ofInt_natCast, BitVec.ofInt_natCast, BitVec.toNat_ofNat, BitVec.toNat_ofNat, Nat.mod_eq_of_lt (by omega : a < 2 ^ 8), Nat.mod_eq_of_lt (by omega : b < 2 ^ 8), IntKind.wrap_u8]
  omega
theorem bits_xor_u16 (a b : Nat) (ha : a < 65536) (hb : b < 65536) : Go.bits .xor .u16 (a : Int) (b : Int) = ((a ^^^ b : Nat) : Int) := by
  have hx : a ^^^ b < 2 ^ 16 := Nat.xor_lt_two_pow (by simpa using ha) (by simpa using hb)
  show IntKind.u16.wrap (((BitVec.ofInt 16 (a : Int)) ^^^ (BitVec.ofInt 16 (b : Int))).toNat : Int) = _
  rw [BitVec.toNat_xor, BitVec.ofInt_natCast, BitVec.ofInt_natCast, BitVec.toNat_ofNat, BitVec.toNat_ofNat, Nat.mod_eq_of_lt (by omega : a < 2 ^ 16), Nat.mod_eq_of_lt (by omega : b < 2 ^ 16), IntKind.wrap_u16]
  omega
theorem bits_and_u16 (a b : Nat) (ha : a < 65536) (hb : b < 65536) : Go.bits .and .u16 (a : Int) (b : Int) = ((a &&& b : Nat) : Int) := by
  have hx : a &&& b < 2 ^ 16 := Nat.and_lt_two_pow _ (by simpa using hb)
  show IntKind.u16.wrap (((BitVec.ofInt 16 (a : Int)) &&& (BitVec.ofInt 16 (b : Int))).toNat : Int) = _
  rw [BitVec.toNat_and, BitVec.ofInt_natCast, BitVec.ofInt_natCast, BitVec.toNat_ofNat, BitVec.toNat_ofNat, Nat.mod_eq_of_lt (by omega : a < 2 ^ 16), Nat.mod_eq_of_lt (by omega : b < 2 ^ 16), IntKind.wrap_u16]
  omega
theorem and_top (w a : Nat) (h : a < 2 ^ (w + 1)) : a &&& 2 ^ w = 0 ↔ a < 2 ^ w := by
  have hp : 0 < 2 ^ w := Nat.two_pow_pos w
  have ht : a.testBit w = decide (2 ^ w ≤ a) := by
    rw [Nat.testBit_eq_decide_div_mod_eq]
    have h2 : a / 2 ^ w < 2 := Nat.div_lt_of_lt_mul (by rw [Nat.pow_succ] at h; exact h)
    by_cases hc : 2 ^ w ≤ a
    · have : 1 ≤ a / 2 ^ w := (Nat.le_div_iff_mul_le hp).2 (by omega)
      have e : a / 2 ^ w = 1 := by omega
      simp [e, hc]
    · have e : a / 2 ^ w = 0 := Nat.div_eq_of_lt (by omega)
      simp [e, hc]
  constructor
  · intro h0
    have hb : (a &&& 2 ^ w).testBit w = false := by rw [h0]; simp
    rw [Nat.testBit_and, Nat.testBit_two_pow_self, Bool.and_true, ht] at hb
    simpa using hb
  · intro hl
    apply Nat.eq_of_testBit_eq
    intro i
    rw [Nat.testBit_and, Nat.zero_testBit, Nat.testBit_two_pow]
    by_cases hi : w = i
    · subst hi
      rw [ht]; simp; omega
    · simp [hi]

/-! Products of polynomials over two elements, modulo one of them. -/
def gdbl (top low a : Nat) : Nat := if top ≤ 2 * a then (2 * a - top) ^^^ low else 2 * a
def gmulL (top low : Nat) : Nat → Nat → Nat → Nat → Nat
  | 0, _, _, p => p
  | n + 1, a, b, p => gmulL top low n (gdbl top low a) (b / 2) (if b % 2 = 1 then p ^^^ a else p)
theorem xor_top (w x low : Nat) (h0 : 2 ^ w ≤ x) (h1 : x < 2 * 2 ^ w) (hl : low < 2 ^ w) : x ^^^ (2 ^ w + low) = (x - 2 ^ w) ^^^ low := by
  have hp : 0 < 2 ^ w := Nat.two_pow_pos w
  have hr : (x - 2 ^ w) ^^^ low < 2 ^ w := Nat.xor_lt_two_pow (by omega) hl
  have hd : (x ^^^ (2 ^ w + low)) / 2 ^ w = 0 := by
    rw [Nat.xor_div_two_pow]
    have e1 : x / 2 ^ w = 1 := by
      have := Nat.div_lt_of_lt_mul (m := x) (n := 2 ^ w) (k := 2) (by omega)
      have := (Nat.le_div_iff_mul_le (x := 1) (y := x) hp).2 (by omega)
      omega
    have e2 : (2 ^ w + low) / 2 ^ w = 1 := by rw [Nat.add_div_left _ hp, Nat.div_eq_of_lt hl]
    rw [e1, e2]; rfl
  have hm : (x ^^^ (2 ^ w + low)) % 2 ^ w = (x - 2 ^ w) ^^^ low := by
    rw [Nat.xor_mod_two_pow]
    have e1 : x % 2 ^ w = x - 2 ^ w := by rw [Nat.mod_eq_sub_mod h0, Nat.mod_eq_of_lt (by omega)]
    have e2 : (2 ^ w + low) % 2 ^ w = low := by rw [Nat.add_mod_left, Nat.mod_eq_of_lt hl]
    rw [e1, e2]
  have := Nat.div_add_mod (x ^^^ (2 ^ w + low)) (2 ^ w)
  rw [hd, hm, Nat.mul_zero, Nat.zero_add] at this
  exact this.symm
theorem gdbl_lt (w low a : Nat) (ha : a < 2 ^ w) (hl : low < 2 ^ w) : gdbl (2 ^ w) low a < 2 ^ w := by
  unfold gdbl
  split
  · exact Nat.xor_lt_two_pow (by omega) hl
  · omega
theorem gmulL_lt (w low : Nat) (hl : low < 2 ^ w) : ∀ n a b p, a < 2 ^ w → p < 2 ^ w → gmulL (2 ^ w) low n a b p < 2 ^ w := by
  intro n
  induction n with
  | zero => intro a b p _ hp; exact hp
  | succ n ih =>
    intro a b p ha hp
    rw [gmulL]
    refine ih _ _ _ (gdbl_lt w low a ha hl) ?_
    split
    · exact Nat.xor_lt_two_pow hp ha
    · exact hp
theorem gmulL_zero (top low : Nat) : ∀ n a p, gmulL top low n a 0 p = p := by
  intro n
  induction n with
  | zero => intro a p; rfl
  | succ n ih => intro a p; rw [gmulL]; simpa using ih _ _
def mul8 (a b : Nat) : Nat := gmulL 256 29 8 a b 0
def mul16 (a b : Nat) : Nat := gmulL 65536 4107 16 a b 0
theorem mul8_lt (a b : Nat) (ha : a < 256) : mul8 a b < 256 := gmulL_lt 8 29 (by decide) 8 a b 0 (by simpa using ha) (by decide)
theorem mul16_lt (a b : Nat) (ha : a < 65536) : mul16 a b < 65536 := gmulL_lt 16 4107 (by decide) 16 a b 0 (by simpa using ha) (by decide)

theorem spec_times_l0 (w low poly : Nat) (hw : w ≤ 16) (hp : poly = 2 ^ w + low) (hl : low < 2 ^ w) : ∀ (n a b p : Nat), b < 2 ^ n → b < 65536 → a < 2 ^ w → p < 2 ^ w →
    Ev (fun k => spec_l02Times.l0 k (a : Int) (b : Int) (poly : Int) ((2 ^ w : Nat) : Int) (p : Int)) ((gmulL (2 ^ w) low n a b p : Nat) : Int) := by
  have h16 : 2 ^ w ≤ 65536 := Nat.pow_le_pow_right (n := 2) (by decide) hw
  intro n
  induction n with
  | zero =>
    intro a b p hb hb1 ha hpp
    have : b = 0 := by omega
    subst this
    refine Ev.step (fun k => by rw [spec_l02Times.l0, if_neg (by omega)]) (Ev.give ?_)
    rfl
  | succ n ih =>
    intro a b p hb hb1 ha hpp
    by_cases h0 : b = 0
    · subst h0
      rw [gmulL_zero]
      refine Ev.step (fun k => by rw [spec_l02Times.l0, if_neg (by omega)]) (Ev.give ?_)
      rfl
    · have hd : wrap64 (Int.tdiv (b : Int) 2) = ((b / 2 : Nat) : Int) := by
        rw [Int.tdiv_eq_ediv_of_nonneg (by omega), wrap64_id (by omega) (by omega)]; rfl
      have hm : Int.tmod (b : Int) 2 = ((b % 2 : Nat) : Int) := by rw [Int.tmod_eq_emod_of_nonneg (by omega)]; rfl
      have ha2 : wrap64 ((a : Int) * 2) = ((2 * a : Nat) : Int) := by rw [wrap64_id (by omega) (by omega)]; omega
      have hx : Go.bits .xor .i64 ((2 * a : Nat) : Int) (poly : Int) = (((2 * a) ^^^ poly : Nat) : Int) := bits_xor_i64 _ _ (by omega) (by omega)
      have hpx : Go.bits .xor .i64 (p : Int) (a : Int) = ((p ^^^ a : Nat) : Int) := bits_xor_i64 _ _ (by omega) (by omega)
      have hb2 : b / 2 < 2 ^ n := by rw [Nat.pow_succ] at hb; exact Nat.div_lt_of_lt_mul (by omega)
      have hxa : p ^^^ a < 2 ^ w := Nat.xor_lt_two_pow hpp ha
      have hg := gdbl_lt w low a ha hl
      rw [gmulL]
      by_cases hodd : b % 2 = 1
      · rw [if_pos hodd]
        by_cases ht : 2 ^ w ≤ 2 * a
        · have hga : (2 * a) ^^^ poly = gdbl (2 ^ w) low a := by unfold gdbl; rw [if_pos ht, hp, xor_top w _ _ ht (by omega) hl]
          refine Ev.step (fun k => by rw [spec_l02Times.l0, if_pos (by omega), hm, if_pos (by omega), ha2, if_pos (by omega), hd, hx, hpx, hga]) ?_
          exact ih _ _ _ hb2 (by omega) hg hxa
        · have hga : 2 * a = gdbl (2 ^ w) low a := by unfold gdbl; rw [if_neg ht]
          refine Ev.step (fun k => by rw [spec_l02Times.l0, if_pos (by omega), hm, if_pos (by omega), ha2, if_neg (by omega), hd, hpx, hga]) ?_
          exact ih _ _ _ hb2 (by omega) hg hxa
      · rw [if_neg hodd]
        by_cases ht : 2 ^ w ≤ 2 * a
        · have hga : (2 * a) ^^^ poly = gdbl (2 ^ w) low a := by unfold gdbl; rw [if_pos ht, hp, xor_top w _ _ ht (by omega) hl]
          refine Ev.step (fun k => by rw [spec_l02Times.l0, if_pos (by omega), hm, if_neg (by omega), ha2, if_pos (by omega), hd, hx, hga]) ?_
          exact ih _ _ _ hb2 (by omega) hg hpp
        · have hga : 2 * a = gdbl (2 ^ w) low a := by unfold gdbl; rw [if_neg ht]
          refine Ev.step (fun k => by rw [spec_l02Times.l0, if_pos (by omega), hm, if_neg (by omega), ha2, if_neg (by omega), hd, hga]) ?_
          exact ih _ _ _ hb2 (by omega) hg hpp
theorem spec_in (a top : Int) : spec_l02In.f a top = some (decide (0 ≤ a ∧ a < top)) := by
  unfold spec_l02In.f
  by_cases h : a ≥ 0
  · rw [if_pos h]; simp [show 0 ≤ a from h]
  · rw [if_neg h]; simp [show ¬ 0 ≤ a from h]

/-- What Mul16 answers. -/
def Mul16of (a b : Int) : Int := if (0 ≤ a ∧ a < 65536) ∧ (0 ≤ b ∧ b < 65536) then ((mul16 a.toNat b.toNat : Nat) : Int) else -1
theorem spec_mul16 (a b : Int) : Ev (fun k => spec_Mul16.f k a b) (Mul16of a b) := by
  unfold Mul16of
  by_cases ha : 0 ≤ a ∧ a < 65536
  · by_cases hb : 0 ≤ b ∧ b < 65536
    · rw [if_pos ⟨ha, hb⟩]
      refine Ev.congr (fun k => by rw [spec_Mul16.f, spec_in, Option.bind_some, if_pos (by simp [ha.1, ha.2]), spec_in, Option.bind_some, if_pos (by simp [hb.1, hb.2])]) ?_
      obtain ⟨m, rfl⟩ := Int.eq_ofNat_of_zero_le ha.1
      obtain ⟨n, rfl⟩ := Int.eq_ofNat_of_zero_le hb.1
      exact Ev.bind (spec_times_l0 16 4107 69643 (by decide) (by decide) (by decide) 16 m n 0 (by simp only [Nat.reducePow]; omega) (by omega) (by simp only [Nat.reducePow]; omega) (by decide)) (Ev.give rfl)
    · rw [if_neg (fun h => hb h.2)]
      refine Ev.congr (fun k => by rw [spec_Mul16.f, spec_in, Option.bind_some, if_pos (by simp [ha.1, ha.2]), spec_in, Option.bind_some, if_neg (by simpa using fun h => by omega)]) (Ev.give rfl)
  · rw [if_neg (fun h => ha h.1)]
    refine Ev.congr (fun k => by rw [spec_Mul16.f, spec_in, Option.bind_some, if_neg (by simpa using fun h => by omega)]) (Ev.give rfl)

theorem impl_double16 (a : Nat) (ha : a < 65536) : impl_field_uint16_double.f 4107 32768 (a : Int) = some ((gdbl 65536 4107 a : Nat) : Int) := by
  have hand : Go.bits .and .u16 (a : Int) 32768 = ((a &&& 32768 : Nat) : Int) := bits_and_u16 a 32768 ha (by decide)
  have ht : a &&& 32768 = 0 ↔ a < 32768 := by
    have := and_top 15 a (by simp only [Nat.reduceAdd, Nat.reducePow]; omega)
    simpa only [Nat.reducePow] using this
  unfold impl_field_uint16_double.f gdbl
  rw [hand]
  by_cases h : 65536 ≤ 2 * a
  · rw [if_neg (by omega), if_pos h]
    have e : (IntKind.u16.wrap ((a : Int) * 2)) = ((2 * a - 65536 : Nat) : Int) := by rw [IntKind.wrap_u16]; omega
    have hx : Go.bits .xor .u16 ((2 * a - 65536 : Nat) : Int) 4107 = (((2 * a - 65536) ^^^ 4107 : Nat) : Int) := bits_xor_u16 _ 4107 (by omega) (by decide)
    rw [e, hx]
  · rw [if_pos (by omega), if_neg h]
    have e : (IntKind.u16.wrap ((a : Int) * 2)) = ((2 * a : Nat) : Int) := by rw [IntKind.wrap_u16]; omega
    rw [e]
theorem impl_fmul16_l0 : ∀ (n a b p : Nat), b < 2 ^ n → b < 65536 → a < 65536 → p < 65536 →
    Ev (fun k => impl_field_uint16_mul.l0 k (a : Int) (b : Int) (p : Int) 4107 32768) ((gmulL 65536 4107 n a b p : Nat) : Int) := by
  intro n
  induction n with
  | zero =>
    intro a b p hb hb1 ha hpp
    have : b = 0 := by omega
    subst this
    refine Ev.step (fun k => by rw [impl_field_uint16_mul.l0, if_pos (by omega)]) (Ev.give ?_)
    rfl
  | succ n ih =>
    intro a b p hb hb1 ha hpp
    by_cases h0 : b = 0
    · subst h0
      rw [gmulL_zero]
      refine Ev.step (fun k => by rw [impl_field_uint16_mul.l0, if_pos (by omega)]) (Ev.give ?_)
      rfl
    · have hand : Go.bits .and .u16 (b : Int) 1 = ((b % 2 : Nat) : Int) := by
        have := bits_and_u16 b 1 hb1 (by decide)
        rw [Nat.and_one_is_mod] at this; exact this
      have hpx : Go.bits .xor .u16 (p : Int) (a : Int) = ((p ^^^ a : Nat) : Int) := bits_xor_u16 _ _ (by omega) (by omega)
      have hb2 : b / 2 < 2 ^ n := by rw [Nat.pow_succ] at hb; exact Nat.div_lt_of_lt_mul (by omega)
      have hd : (b : Int) / 2 = ((b / 2 : Nat) : Int) := rfl
      have hxa : p ^^^ a < 65536 := Nat.xor_lt_two_pow (n := 16) hpp ha
      have hg : gdbl 65536 4107 a < 65536 := gdbl_lt 16 4107 a ha (by decide)
      rw [gmulL]
      by_cases hodd : b % 2 = 1
      · rw [if_pos hodd]
        refine Ev.step (fun k => by rw [impl_field_uint16_mul.l0, if_neg (by omega), hand, if_neg (by omega), impl_double16 a ha, Option.bind_some, hd, hpx]) ?_
        exact ih _ _ _ hb2 (by omega) hg hxa
      · rw [if_neg hodd]
        refine Ev.step (fun k => by rw [impl_field_uint16_mul.l0, if_neg (by omega), hand, if_pos (by omega), impl_double16 a ha, Option.bind_some, hd]) ?_
        exact ih _ _ _ hb2 (by omega) hg hpp
theorem impl_fmul16 (a b : Nat) (ha : a < 65536) (hb : b < 65536) : Ev (fun k => impl_field_uint16_mul.f k 4107 32768 (a : Int) (b : Int)) ((mul16 a b : Nat) : Int) :=
  Ev.congr (fun k => by rw [impl_field_uint16_mul.f]; rfl) (impl_fmul16_l0 16 a b 0 hb hb ha (by decide))
theorem impl_isWord (a : Int) : impl_isWord.f a = some (decide (0 ≤ a ∧ a < 65536)) := by
  unfold impl_isWord.f
  by_cases h : a ≥ 0
  · rw [if_pos h]; congr 1; rw [decide_eq_decide]; omega
  · rw [if_neg h]; congr 1; rw [eq_comm, decide_eq_false_iff_not]; omega

theorem Mul16of_nat (a b : Nat) (ha : a < 65536) (hb : b < 65536) : Mul16of (a : Int) (b : Int) = ((mul16 a b : Nat) : Int) := by
  unfold Mul16of
  rw [if_pos ⟨⟨by omega, by omega⟩, by omega, by omega⟩]
  rfl

/-- The product of the squares of s, one behind the other: n of them. -/
def inv16L : Nat → Nat → Nat → Nat
  | 0, _, out => out
  | n + 1, s, out => inv16L n (mul16 s s) (mul16 out s)
def inv16 (a : Nat) : Nat := inv16L 15 (mul16 a a) 1
theorem inv16L_lt : ∀ n s out, s < 65536 → out < 65536 → inv16L n s out < 65536 := by
  intro n
  induction n with
  | zero => intro s out _ h; exact h
  | succ n ih => intro s out hs ho; exact ih _ _ (mul16_lt s s hs) (mul16_lt out s ho)
theorem inv16_lt (a : Nat) (h : a < 65536) : inv16 a < 65536 := inv16L_lt 15 _ _ (mul16_lt a a h) (by decide)

/-- What Inv16 answers. -/
def Inv16of (a : Int) : Int := if 0 ≤ a ∧ a < 65536 then ((inv16 a.toNat : Nat) : Int) else -1
/-- The rounds in which all digits of the exponent are ones. -/
theorem spec_inv16_l0 : ∀ (n s out : Nat), s < 65536 → out < 65536 → n ≤ 15 → Ev (fun k => spec_Inv16.l0 k (s : Int) (out : Int) ((2 ^ n - 1 : Nat) : Int)) ((inv16L n s out : Nat) : Int) := by
  intro n
  induction n with
  | zero =>
    intro s out hs ho hn
    refine Ev.step (fun k => by rw [spec_Inv16.l0, if_neg (by decide)]) (Ev.give ?_)
    rfl
  | succ n ih =>
    intro s out hs ho hn
    have hp : 2 ^ (n + 1) = 2 * 2 ^ n := by rw [Nat.pow_succ]; omega
    have hpp : 0 < 2 ^ n := Nat.two_pow_pos n
    have h15 : 2 ^ (n + 1) ≤ 2 ^ 15 := Nat.pow_le_pow_right (by decide) hn
    have h15' : (2 : Nat) ^ 15 = 32768 := by decide
    have m1 := spec_mul16 (out : Int) (s : Int)
    rw [Mul16of_nat out s ho hs] at m1
    have m2 := spec_mul16 (s : Int) (s : Int)
    rw [Mul16of_nat s s hs hs] at m2
    have hm : Int.tmod ((2 ^ (n + 1) - 1 : Nat) : Int) 2 = 1 := by rw [Int.tmod_eq_emod_of_nonneg (by omega)]; omega
    have hd : wrap64 (Int.tdiv ((2 ^ (n + 1) - 1 : Nat) : Int) 2) = ((2 ^ n - 1 : Nat) : Int) := by
      rw [Int.tdiv_eq_ediv_of_nonneg (by omega), wrap64_id (by omega) (by omega)]; omega
    refine Ev.step (fun k => by rw [spec_Inv16.l0, if_pos (by omega), hm, if_pos rfl, hd]) ?_
    exact Ev.bind m1 (Ev.bind m2 (ih _ _ (mul16_lt s s hs) (mul16_lt out s ho) (by omega)))
theorem inv16_zero : inv16 0 = 0 := by decide +kernel
theorem spec_inv16 (a : Int) : Ev (fun k => spec_Inv16.f k a) (Inv16of a) := by
  unfold Inv16of
  by_cases ha : 0 ≤ a ∧ a < 65536
  · rw [if_pos ha]
    refine Ev.congr (fun k => by rw [spec_Inv16.f, spec_in, Option.bind_some, if_pos (by simp [ha.1, ha.2])]) ?_
    by_cases h0 : a = 0
    · subst h0
      exact Ev.pos rfl (Ev.give (by rw [show (0 : Int).toNat = 0 from rfl, inv16_zero]; rfl))
    · refine Ev.neg h0 ?_
      obtain ⟨m, rfl⟩ := Int.eq_ofNat_of_zero_le ha.1
      have m2 := spec_mul16 (m : Int) (m : Int)
      rw [Mul16of_nat m m (by omega) (by omega)] at m2
      refine Ev.step (fun k => by rw [spec_Inv16.l0, if_pos (by decide), if_neg (by decide), show wrap64 (Int.tdiv 65534 2) = ((2 ^ 15 - 1 : Nat) : Int) by decide +kernel]) ?_
      exact Ev.bind m2 (spec_inv16_l0 15 (mul16 m m) 1 (mul16_lt m m (by omega)) (by decide) (by decide))
  · rw [if_neg ha]
    refine Ev.congr (fun k => by rw [spec_Inv16.f, spec_in, Option.bind_some, if_neg (by simpa using fun h => by omega)]) (Ev.now _)

theorem impl_finv16_l0 : ∀ (n s out : Nat), s < 65536 → out < 65536 → n ≤ 15 → Ev (fun k => impl_field_uint16_inv.l0 k (out : Int) (s : Int) ((2 ^ n : Nat) : Int) 4107 32768) ((inv16L n s out : Nat) : Int) := by
  intro n
  induction n with
  | zero =>
    intro s out hs ho hn
    refine Ev.step (fun k => by rw [impl_field_uint16_inv.l0, if_neg (by decide)]) (Ev.give ?_)
    rfl
  | succ n ih =>
    intro s out hs ho hn
    have hp : 2 ^ (n + 1) = 2 * 2 ^ n := by rw [Nat.pow_succ]; omega
    have hpp : 0 < 2 ^ n := Nat.two_pow_pos n
    refine Ev.step (fun k => by rw [impl_field_uint16_inv.l0, if_pos (by omega)]) ?_
    refine Ev.bind (impl_fmul16 out s ho hs) (Ev.bind (impl_fmul16 s s hs hs) ?_)
    have := ih (mul16 s s) (mul16 out s) (mul16_lt s s hs) (mul16_lt out s ho) (by omega)
    rw [show ((2 ^ (n + 1) : Nat) : Int) / 2 = ((2 ^ n : Nat) : Int) by omega]
    exact this
theorem impl_finv16 (a : Nat) (ha : a < 65536) : Ev (fun k => impl_field_uint16_inv.f k 4107 32768 (a : Int)) ((inv16 a : Nat) : Int) := by
  refine Ev.congr (fun k => by rw [impl_field_uint16_inv.f]) ?_
  refine Ev.bind (impl_fmul16 a a ha ha) ?_
  exact impl_finv16_l0 15 (mul16 a a) 1 (mul16_lt a a ha) (by decide) (by decide)

theorem impl_inv16 (a : Int) : Ev (fun k => impl_Inv16.f k a) (Inv16of a) := by
  unfold Inv16of
  by_cases ha : 0 ≤ a ∧ a < 65536
  · rw [if_pos ha]
    refine Ev.congr (fun k => by rw [impl_Inv16.f, impl_isWord, Option.bind_some, if_pos (by simp [ha.1, ha.2]), impl_words16.f, Option.bind_some]) ?_
    obtain ⟨m, rfl⟩ := Int.eq_ofNat_of_zero_le ha.1
    have hm : IntKind.u16.wrap (m : Int) = (m : Int) := by rw [IntKind.wrap_u16]; omega
    have hlt := inv16_lt m (by omega)
    rw [hm]
    exact Ev.bind (impl_finv16 m (by omega)) (Ev.give (by rw [wrap64_id (by omega) (by omega)]; rfl))
  · rw [if_neg ha]
    have haa : decide (0 ≤ a ∧ a < 65536) = false := by simp only [decide_eq_false_iff_not]; exact ha
    exact Ev.congr (fun k => by rw [impl_Inv16.f, impl_isWord, Option.bind_some, haa, if_neg (by decide)]) (Ev.now _)

theorem FnExactInv16 : laws_FnExactInv16.Pure := by
  intro a _
  refine Ev.rounds (Ev.congr (fun k => by rw [laws_FnExactInv16.f]) ?_)
  refine Ev.bind (spec_inv16 a) (Ev.bind (impl_inv16 a) ?_)
  exact Ev.congr (fun k => by simp) (Ev.now true)

end Go.Proofs.Ytnailhkgnccloaa.Pure
