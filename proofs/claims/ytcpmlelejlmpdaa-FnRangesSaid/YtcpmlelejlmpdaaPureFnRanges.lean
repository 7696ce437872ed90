/- The statement FnRanges over numbers and lists alone: the bytes that RangeReads names of a drawn object, one behind the other, are the range. No condition. -/
import Derived.Test.YtcpmlelejlmpdaaQFnRangesx8
import Derived.Laws.BitsAllLaws
import Derived.Laws.Bits64
set_option linter.all false
namespace Go.Proofs.Ytcpmlelejlmpdaa.Pure
open Go.RowKit Go.Proofs.Ytcpmlelejlmpdaa.QFnRanges Go.Proofs.YtcpmlelejlmpdaaW.PrintWords Go.Proofs.YtcpmlelejlmpdaaW.PrintLast Go.Proofs.YtcpmlelejlmpdaaW.PrintMore

/-! Small lemmas on wraps, rounds and lists. -/
theorem wrap64_id {x : Int} (h0 : -9223372036854775808 ≤ x) (h1 : x < 9223372036854775808) : wrap64 x = x := by unfold wrap64; omega
theorem u64_id {x : Int} (h0 : 0 ≤ x) (h1 : x < 18446744073709551616) : IntKind.u64.wrap x = x := by rw [IntKind.wrap_u64]; omega
theorem Ev.pos {α : Type} {c : Prop} [Decidable c] {f g : Nat → Option α} {r : α} (h : c) (e : Ev f r) : Ev (fun k => if c then f k else g k) r := by simpa [h] using e
theorem Ev.neg {α : Type} {c : Prop} [Decidable c] {f g : Nat → Option α} {r : α} (h : ¬ c) (e : Ev g r) : Ev (fun k => if c then f k else g k) r := by simpa [h] using e
theorem Ev.bindS {α β : Type} {g : Option α} {f : Nat → α → Option β} {a : α} {r : β} (h : g = some a) (e : Ev (fun k => f k a) r) : Ev (fun k => g.bind (f k)) r := by subst h; simpa using e
theorem Ev.give {α : Type} {r s : α} (h : s = r) : Ev (fun _ => some s) r := by subst h; exact Ev.now _
theorem bt_drop (s : ByteArray) (i : Nat) (h : i < s.size) : ∃ c : UInt8, s.data.toList.drop i = c :: s.data.toList.drop (i + 1) ∧ bt s (i : Int) = (c.toNat : Int) := by
  have hl : i < s.data.toList.length := by simpa using h
  refine ⟨s.data.toList[i], List.drop_eq_getElem_cons hl, ?_⟩
  unfold bt
  rw [dif_pos (by simpa using h)]
  simp [ByteArray.getElem_eq_getElem_data]
theorem drop_end (s : ByteArray) (i : Nat) (h : s.size ≤ i) : s.data.toList.drop i = [] := List.drop_eq_nil_of_le (by simpa using h)
theorem size_strOfNums (l : List Int) : (strOfNums l).size = l.length := by
  show (strOfNums l).data.size = l.length
  simp [strOfNums]
theorem i64_range {n : Int} (h : (Lit.int .i64 n).wf = true) : -9223372036854775808 ≤ n ∧ n < 9223372036854775808 := by
  simp only [Lit.wf, IntKind.min, IntKind.max, IntKind.signed, IntKind.bits, Bool.and_eq_true, decide_eq_true_eq, if_true] at h; omega
theorem byte_eq_int (c d : UInt8) : ((c.toNat : Int) = (d.toNat : Int)) ↔ c = d := by
  constructor
  · intro h; exact UInt8.toNat_inj.1 (by omega)
  · rintro rfl; rfl
theorem byte_eq_lit (c : UInt8) (n : Nat) (hn : n < 256) : ((c.toNat : Int) = (n : Int)) ↔ c = UInt8.ofNat n := by
  rw [← byte_eq_int]
  have : (UInt8.ofNat n).toNat = n := by simp [UInt8.toNat_ofNat']; omega
  rw [this]
theorem bt_get (s : ByteArray) (i : Nat) (h : i < s.size) : ∃ c : UInt8, s.data.toList[i]? = some c ∧ bt s (i : Int) = (c.toNat : Int) := by
  obtain ⟨c, e, hb⟩ := bt_drop s i h
  refine ⟨c, ?_, hb⟩
  have : (s.data.toList.drop i)[0]? = some c := by rw [e]; rfl
  simpa using this

/-! Go's bits at numbers from 0 on. -/
theorem bits_xor_i64 (a b : Nat) (ha : a < 9223372036854775808) (hb : b < 9223372036854775808) : Go.bits .xor .i64 (a : Int) (b : Int) = ((a ^^^ b : Nat) : Int) := by
  have hx : a ^^^ b < 2 ^ 63 := Nat.xor_lt_two_pow (by simpa using ha) (by simpa using hb)
  show IntKind.i64.wrap (((BitVec.ofInt 64 (a : Int)) ^^^ (BitVec.ofInt 64 (b : Int))).toNat : Int) = _
  rw [BitVec.toNat_xor, BitVec.ofInt_natCast, BitVec.ofInt_natCast, BitVec.toNat_ofNat, BitVec.toNat_ofNat, Nat.mod_eq_of_lt (by omega : a < 2 ^ 64), Nat.mod_eq_of_lt (by omega : b < 2 ^ 64), IntKind.wrap_i64]
  omega
theorem bits_and_i64 (a b : Nat) (ha : a < 9223372036854775808) (hb : b < 9223372036854775808) : Go.bits .and .i64 (a : Int) (b : Int) = ((a &&& b : Nat) : Int) := by
  have hx : a &&& b < 2 ^ 63 := Nat.and_lt_two_pow _ (by simpa using hb)
  show IntKind.i64.wrap (((BitVec.ofInt 64 (a : Int)) &&& (BitVec.ofInt 64 (b : Int))).toNat : Int) = _
  rw [BitVec.toNat_and, BitVec.ofInt_natCast, BitVec.ofInt_natCast, BitVec.toNat_ofNat, BitVec.toNat_ofNat, Nat.mod_eq_of_lt (by omega : a < 2 ^ 64), Nat.mod_eq_of_lt (by omega : b < 2 ^ 64), IntKind.wrap_i64]
  omega
theorem bits_xor_u8 (a b : Nat) (ha : a < 256) (hb : b < 256) : Go.bits .xor .u8 (a : Int) (b : Int) = ((a ^^^ b : Nat) : Int) := by
  have hx : a ^^^ b < 2 ^ 8 := Nat.xor_lt_two_pow (by simpa using ha) (by simpa using hb)
  show IntKind.u8.wrap (((BitVec.ofInt 8 (a : Int)) ^^^ (BitVec.ofInt 8 (b : Int))).toNat : Int) = _
  rw [BitVec.toNat_xor, BitVec.ofInt_natCast, BitVec.ofInt_natCast, BitVec.toNat_ofNat, BitVec.toNat_ofNat, Nat.mod_eq_of_lt (by omega : a < 2 ^ 8), Nat.mod_eq_of_lt (by omega : b < 2 ^ 8), IntKind.wrap_u8]
  omega
theorem bits_and_u8 (a b : Nat) (ha : a < 256) (hb : b < 256) : Go.bits .and .u8 (a : Int) (b : Int) = ((a &&& b : Nat) : Int) := by
  have hx : a &&& b < 2 ^ 8 := Nat.and_lt_two_pow _ (by simpa using hb)
  show IntKind.u8.wrap (((BitVec.ofInt 8 (a : Int)) &&& (BitVec.ofInt 8 (b : Int))).toNat : Int) = _
  rw [BitVec.toNat_and, BitVec.ofInt_natCast, BitVec.ofInt_natCast, BitVec.toNat_ofNat, BitVec.toNat_ofNat, Nat.mod_eq_of_lt (by omega : a < 2 ^ 8), Nat.mod_eq_of_lt (by omega : b < 2 ^ 8), IntKind.wrap_u8]
  omega
theorem bits_xor_u16 (a b : Nat) (ha : a < 65536) (hb : b < 65536) : Go.bits .xor .u16 (a : Int) (b : Int) = ((a ^^^ b : Nat) : Int) := by
  have hx : a ^^^ b < 2 ^ 16 := Nat.xor_lt_two_pow (by simpa using ha) (by simpa using hb)
  show IntKind.u16.wrap (((BitVec.ofInt 16 (a : Int)) ^^^ (BitVec.ofInt 16 (b : Int))).toNat : Int) = _
  rw [BitVec.toNat_xor, BitVec.ofInt_natCast, BitVec.ofInt_natCast, BitVec.toNat_ofNat, BitVec.toNat_ofNat, Nat.mod_eq_of_lt (by omega : a < 2 ^ 16), Nat.mod_eq_of_lt (by omega : b < 2 ^ 16), IntKind.wrap_u16]
  omega
theorem bits_and_u16 (a b : Nat) (ha : a < 65536) (hb : b < 65536) : Go.bits .and .u16 (a : Int) (b : Int) = ((a &&& b : Nat) : Int) := by
  have hx : a &&& b < 2 ^ 16 := Nat.and_lt_two_pow _ (by simpa using hb)
  show IntKind.u16.wrap (((BitVec.ofInt 16 (a : Int)) &&& (BitVec.ofInt 16 (b : Int))).toNat : Int) = _
  rw [BitVec.toNat_and, BitVec.ofInt_natCast, BitVec.ofInt_natCast, BitVec.toNat_ofNat, BitVec.toNat_ofNat, Nat.mod_eq_of_lt (by omega : a < 2 ^ 16), Nat.mod_eq_of_lt (by omega : b < 2 ^ 16), IntKind.wrap_u16]
  omega
theorem and_top (w a : Nat) (h : a < 2 ^ (w + 1)) : a &&& 2 ^ w = 0 ↔ a < 2 ^ w := by
  have hp : 0 < 2 ^ w := Nat.two_pow_pos w
  have ht : a.testBit w = decide (2 ^ w ≤ a) := by
    rw [Nat.testBit_eq_decide_div_mod_eq]
    have h2 : a / 2 ^ w < 2 := Nat.div_lt_of_lt_mul (by rw [Nat.pow_succ] at h; exact h)
    by_cases hc : 2 ^ w ≤ a
    · have : 1 ≤ a / 2 ^ w := (Nat.le_div_iff_mul_le hp).2 (by omega)
      have e : a / 2 ^ w = 1 := by omega
      simp [e, hc]
    · have e : a / 2 ^ w = 0 := Nat.div_eq_of_lt (by omega)
      simp [e, hc]
  constructor
  · intro h0
    have hb : (a &&& 2 ^ w).testBit w = false := by rw [h0]; simp
    rw [Nat.testBit_and, Nat.testBit_two_pow_self, Bool.and_true, ht] at hb
    simpa using hb
  · intro hl
    apply Nat.eq_of_testBit_eq
    intro i
    rw [Nat.testBit_and, Nat.zero_testBit, Nat.testBit_two_pow]
    by_cases hi : w = i
    · subst hi
      rw [ht]; simp; omega
    · simp [hi]

/-! Products of polynomials over two elements, modulo one of them. -/
def gdbl (top low a : Nat) : Nat := if top ≤ 2 * a then (2 * a - top) ^^^ low else 2 * a
def gmulL (top low : Nat) : Nat → Nat → Nat → Nat → Nat
  | 0, _, _, p => p
  | n + 1, a, b, p => gmulL top low n (gdbl top low a) (b / 2) (if b % 2 = 1 then p ^^^ a else p)
theorem xor_top (w x low : Nat) (h0 : 2 ^ w ≤ x) (h1 : x < 2 * 2 ^ w) (hl : low < 2 ^ w) : x ^^^ (2 ^ w + low) = (x - 2 ^ w) ^^^ low := by
  have hp : 0 < 2 ^ w := Nat.two_pow_pos w
  have hr : (x - 2 ^ w) ^^^ low < 2 ^ w := Nat.xor_lt_two_pow (by omega) hl
  have hd : (x ^^^ (2 ^ w + low)) / 2 ^ w = 0 := by
    rw [Nat.xor_div_two_pow]
    have e1 : x / 2 ^ w = 1 := by
      have := Nat.div_lt_of_lt_mul (m := x) (n := 2 ^ w) (k := 2) (by omega)
      have := (Nat.le_div_iff_mul_le (x := 1) (y := x) hp).2 (by omega)
      omega
    have e2 : (2 ^ w + low) / 2 ^ w = 1 := by rw [Nat.add_div_left _ hp, Nat.div_eq_of_lt hl]
    rw [e1, e2]; rfl
  have hm : (x ^^^ (2 ^ w + low)) % 2 ^ w = (x - 2 ^ w) ^^^ low := by
    rw [Nat.xor_mod_two_pow]
    have e1 : x % 2 ^ w = x - 2 ^ w := by rw [Nat.mod_eq_sub_mod h0, Nat.mod_eq_of_lt (by omega)]
    have e2 : (2 ^ w + low) % 2 ^ w = low := by rw [Nat.add_mod_left, Nat.mod_eq_of_lt hl]
    rw [e1, e2]
  have := Nat.div_add_mod (x ^^^ (2 ^ w + low)) (2 ^ w)
  rw [hd, hm, Nat.mul_zero, Nat.zero_add] at this
  exact this.symm
theorem gdbl_lt (w low a : Nat) (ha : a < 2 ^ w) (hl : low < 2 ^ w) : gdbl (2 ^ w) low a < 2 ^ w := by
  unfold gdbl
  split
  · exact Nat.xor_lt_two_pow (by omega) hl
  · omega
theorem gmulL_lt (w low : Nat) (hl : low < 2 ^ w) : ∀ n a b p, a < 2 ^ w → p < 2 ^ w → gmulL (2 ^ w) low n a b p < 2 ^ w := by
  intro n
  induction n with
  | zero => intro a b p _ hp; exact hp
  | succ n ih =>
    intro a b p ha hp
    rw [gmulL]
    refine ih _ _ _ (gdbl_lt w low a ha hl) ?_
    split
    · exact Nat.xor_lt_two_pow hp ha
    · exact hp
theorem gmulL_zero (top low : Nat) : ∀ n a p, gmulL top low n a 0 p = p := by
  intro n
  induction n with
  | zero => intro a p; rfl
  | succ n ih => intro a p; rw [gmulL]; simpa using ih _ _
def mul8 (a b : Nat) : Nat := gmulL 256 29 8 a b 0
def mul16 (a b : Nat) : Nat := gmulL 65536 4107 16 a b 0
theorem mul8_lt (a b : Nat) (ha : a < 256) : mul8 a b < 256 := gmulL_lt 8 29 (by decide) 8 a b 0 (by simpa using ha) (by decide)
theorem mul16_lt (a b : Nat) (ha : a < 65536) : mul16 a b < 65536 := gmulL_lt 16 4107 (by decide) 16 a b 0 (by simpa using ha) (by decide)

/-! The algebra of these products: linear in each factor, commutative, associative. -/
theorem xor_even (a b : Nat) : (a ^^^ b) / 2 = a / 2 ^^^ b / 2 := by
  have := Nat.xor_div_two_pow (a := a) (b := b) (n := 1)
  simpa using this
theorem xor_odd (a b : Nat) : (a ^^^ b) % 2 = (a % 2) ^^^ (b % 2) := by
  have := Nat.xor_mod_two_pow (a := a) (b := b) (n := 1)
  simpa using this
theorem xor_dbl (a b : Nat) : 2 * (a ^^^ b) = (2 * a) ^^^ (2 * b) := by
  have := Nat.shiftLeft_xor_distrib (a := a) (b := b) (i := 1)
  simp only [Nat.shiftLeft_eq, Nat.pow_one] at this
  rw [Nat.mul_comm 2 (a ^^^ b), this, Nat.mul_comm a 2, Nat.mul_comm b 2]
theorem xor4 (a b c d : Nat) : (a ^^^ b) ^^^ (c ^^^ d) = (a ^^^ c) ^^^ (b ^^^ d) := by
  rw [Nat.xor_assoc, Nat.xor_assoc]
  congr 1
  rw [← Nat.xor_assoc, Nat.xor_comm b c, Nat.xor_assoc]
theorem gdbl_bit (w low a : Nat) (hl : low < 2 ^ (w + 1)) (ha : a < 2 ^ (w + 1)) : gdbl (2 ^ (w + 1)) low a = (2 * a) ^^^ (if a.testBit w then 2 ^ (w + 1) + low else 0) := by
  have hp : 2 ^ (w + 1) = 2 * 2 ^ w := by rw [Nat.pow_succ]; omega
  have hpp : 0 < 2 ^ w := Nat.two_pow_pos w
  have ht : a.testBit w = decide (2 ^ w ≤ a) := by
    rw [Nat.testBit_eq_decide_div_mod_eq]
    have h2 : a / 2 ^ w < 2 := Nat.div_lt_of_lt_mul (by omega)
    by_cases hc : 2 ^ w ≤ a
    · have : 1 ≤ a / 2 ^ w := (Nat.le_div_iff_mul_le hpp).2 (by omega)
      have e : a / 2 ^ w = 1 := by omega
      simp [e, hc]
    · have e : a / 2 ^ w = 0 := Nat.div_eq_of_lt (by omega)
      simp [e, hc]
  unfold gdbl
  by_cases hc : 2 ^ w ≤ a
  · rw [if_pos (by omega), ht, if_pos (by simpa using hc), xor_top (w + 1) (2 * a) low (by omega) (by omega) hl]
  · rw [if_neg (by omega), ht, if_neg (by simpa using hc), Nat.xor_zero]
theorem gdbl_xor (w low a b : Nat) (hl : low < 2 ^ (w + 1)) (ha : a < 2 ^ (w + 1)) (hb : b < 2 ^ (w + 1)) : gdbl (2 ^ (w + 1)) low (a ^^^ b) = gdbl (2 ^ (w + 1)) low a ^^^ gdbl (2 ^ (w + 1)) low b := by
  rw [gdbl_bit w low a hl ha, gdbl_bit w low b hl hb, gdbl_bit w low _ hl (Nat.xor_lt_two_pow ha hb), xor_dbl, Nat.testBit_xor, xor4]
  congr 1
  cases a.testBit w <;> cases b.testBit w <;> simp
theorem gdbl_zero (top low : Nat) (h : 0 < top) : gdbl top low 0 = 0 := by unfold gdbl; rw [if_neg (by omega)]
theorem gmulL_acc (top low : Nat) : ∀ n a b p, gmulL top low n a b p = p ^^^ gmulL top low n a b 0 := by
  intro n
  induction n with
  | zero => intro a b p; simp [gmulL]
  | succ n ih =>
    intro a b p
    rw [gmulL, gmulL, ih _ _ (if b % 2 = 1 then p ^^^ a else p), ih _ _ (if b % 2 = 1 then 0 ^^^ a else 0), ← Nat.xor_assoc]
    congr 1
    split <;> simp
theorem gmulL_succ (top low n a b : Nat) : gmulL top low (n + 1) a b 0 = (if b % 2 = 1 then a else 0) ^^^ gmulL top low n (gdbl top low a) (b / 2) 0 := by
  rw [gmulL, gmulL_acc]
  congr 1
  split <;> simp
section
variable (w low : Nat) (hl : low < 2 ^ (w + 1))
include hl
theorem gm_lt (n a b : Nat) (ha : a < 2 ^ (w + 1)) : gmulL (2 ^ (w + 1)) low n a b 0 < 2 ^ (w + 1) := gmulL_lt (w + 1) low hl n a b 0 ha (Nat.two_pow_pos _)
theorem gm_xor_left : ∀ n a a' b, a < 2 ^ (w + 1) → a' < 2 ^ (w + 1) → gmulL (2 ^ (w + 1)) low n (a ^^^ a') b 0 = gmulL (2 ^ (w + 1)) low n a b 0 ^^^ gmulL (2 ^ (w + 1)) low n a' b 0 := by
  intro n
  induction n with
  | zero => intro a a' b _ _; simp [gmulL]
  | succ n ih =>
    intro a a' b ha ha'
    rw [gmulL_succ, gmulL_succ, gmulL_succ, gdbl_xor w low a a' hl ha ha', ih _ _ _ (gdbl_lt (w + 1) low a ha hl) (gdbl_lt (w + 1) low a' ha' hl), xor4]
    congr 1
    split <;> simp
omit hl in
theorem gm_xor_right : ∀ n a b b', gmulL (2 ^ (w + 1)) low n a (b ^^^ b') 0 = gmulL (2 ^ (w + 1)) low n a b 0 ^^^ gmulL (2 ^ (w + 1)) low n a b' 0 := by
  intro n
  induction n with
  | zero => intro a b b'; simp [gmulL]
  | succ n ih =>
    intro a b b'
    rw [gmulL_succ, gmulL_succ, gmulL_succ, xor_even, ih, xor_odd, xor4]
    congr 1
    rcases Nat.mod_two_eq_zero_or_one b with h | h <;> rcases Nat.mod_two_eq_zero_or_one b' with h' | h' <;> simp [h, h']
/-- A factor doubled doubles the product. -/
theorem gm_dbl_left : ∀ n a b, a < 2 ^ (w + 1) → gmulL (2 ^ (w + 1)) low n (gdbl (2 ^ (w + 1)) low a) b 0 = gdbl (2 ^ (w + 1)) low (gmulL (2 ^ (w + 1)) low n a b 0) := by
  intro n
  induction n with
  | zero =>
    intro a b _
    rw [show gmulL (2 ^ (w + 1)) low 0 a b 0 = 0 from rfl, gdbl_zero _ _ (Nat.two_pow_pos _)]; rfl
  | succ n ih =>
    intro a b ha
    have hg := gdbl_lt (w + 1) low a ha hl
    have hsel : (if b % 2 = 1 then a else 0) < 2 ^ (w + 1) := by
      split
      · exact ha
      · exact Nat.two_pow_pos _
    rw [gmulL_succ, gmulL_succ, ih _ _ hg, gdbl_xor w low _ _ hl hsel (gm_lt w low hl n _ _ hg)]
    congr 1
    split
    · rfl
    · rw [gdbl_zero _ _ (Nat.two_pow_pos _)]
end
/-- Two linear maps that agree at each power of two below 2^n agree below 2^n. -/
theorem linear_ext (f g : Nat → Nat) : ∀ n, (∀ a b, a < 2 ^ n → b < 2 ^ n → f (a ^^^ b) = f a ^^^ f b) → (∀ a b, a < 2 ^ n → b < 2 ^ n → g (a ^^^ b) = g a ^^^ g b) → (∀ i, i < n → f (2 ^ i) = g (2 ^ i)) → ∀ a, a < 2 ^ n → f a = g a := by
  intro n
  induction n with
  | zero =>
    intro hf hg _ a ha
    have : a = 0 := by omega
    subst this
    have h1 := hf 0 0 (by omega) (by omega)
    have h2 := hg 0 0 (by omega) (by omega)
    simp at h1 h2
    rw [h1, h2]
  | succ n ih =>
    intro hf hg hi a ha
    have hp : 2 ^ (n + 1) = 2 * 2 ^ n := by rw [Nat.pow_succ]; omega
    have hpp : 0 < 2 ^ n := Nat.two_pow_pos n
    have low := ih (fun a b ha hb => hf a b (by omega) (by omega)) (fun a b ha hb => hg a b (by omega) (by omega)) (fun i h => hi i (by omega))
    by_cases h : a < 2 ^ n
    · exact low a h
    · have e : a = 2 ^ n ^^^ (a - 2 ^ n) := by
        have := xor_top n a 0 (by omega) (by omega) (by omega)
        rw [Nat.add_zero, Nat.xor_zero] at this
        rw [← this, Nat.xor_comm a, ← Nat.xor_assoc, Nat.xor_self, Nat.zero_xor]
      rw [e, hf _ _ (by omega) (by omega), hg _ _ (by omega) (by omega), hi n (by omega), low _ (by omega)]
/-- What commutes at the powers of two commutes. -/
theorem gm_comm (w low : Nat) (hl : low < 2 ^ (w + 1)) (n : Nat) (hb : ∀ i, i < w + 1 → ∀ j, j < w + 1 → gmulL (2 ^ (w + 1)) low n (2 ^ i) (2 ^ j) 0 = gmulL (2 ^ (w + 1)) low n (2 ^ j) (2 ^ i) 0) :
    ∀ a b, a < 2 ^ (w + 1) → b < 2 ^ (w + 1) → gmulL (2 ^ (w + 1)) low n a b 0 = gmulL (2 ^ (w + 1)) low n b a 0 := by
  intro a b ha hbb
  refine linear_ext (fun a => gmulL (2 ^ (w + 1)) low n a b 0) (fun a => gmulL (2 ^ (w + 1)) low n b a 0) (w + 1) (fun x y hx hy => gm_xor_left w low hl n x y b hx hy) (fun x y _ _ => gm_xor_right w low n b x y) (fun i hi => ?_) a ha
  refine linear_ext (fun b => gmulL (2 ^ (w + 1)) low n (2 ^ i) b 0) (fun b => gmulL (2 ^ (w + 1)) low n b (2 ^ i) 0) (w + 1) (fun x y _ _ => gm_xor_right w low n (2 ^ i) x y) (fun x y hx hy => gm_xor_left w low hl n x y (2 ^ i) hx hy) (fun j hj => hb i hi j hj) b hbb
/-- Associativity, out of commutativity: induction on the rounds of the outer product. -/
theorem gm_assoc (w low : Nat) (hl : low < 2 ^ (w + 1)) (n : Nat) (hc : ∀ a b, a < 2 ^ (w + 1) → b < 2 ^ (w + 1) → gmulL (2 ^ (w + 1)) low n a b 0 = gmulL (2 ^ (w + 1)) low n b a 0) :
    ∀ m a b c, a < 2 ^ (w + 1) → b < 2 ^ (w + 1) → gmulL (2 ^ (w + 1)) low m (gmulL (2 ^ (w + 1)) low n a b 0) c 0 = gmulL (2 ^ (w + 1)) low n a (gmulL (2 ^ (w + 1)) low m b c 0) 0 := by
  intro m
  induction m with
  | zero =>
    intro a b c ha hb
    rw [show gmulL (2 ^ (w + 1)) low 0 (gmulL (2 ^ (w + 1)) low n a b 0) c 0 = 0 from rfl, show gmulL (2 ^ (w + 1)) low 0 b c 0 = 0 from rfl, gmulL_zero]
  | succ m ih =>
    intro a b c ha hb
    have hg := gdbl_lt (w + 1) low b hb hl
    have h1 : gdbl (2 ^ (w + 1)) low (gmulL (2 ^ (w + 1)) low n a b 0) = gmulL (2 ^ (w + 1)) low n a (gdbl (2 ^ (w + 1)) low b) 0 := by
      rw [hc a b ha hb, ← gm_dbl_left w low hl n b a hb, hc _ _ hg ha]
    rw [gmulL_succ, gmulL_succ, h1, ih _ _ _ ha hg, gm_xor_right]
    congr 1
    split
    · rfl
    · rw [gmulL_zero]

theorem mul8_comm (a b : Nat) (ha : a < 256) (hb : b < 256) : mul8 a b = mul8 b a :=
  gm_comm 7 29 (by decide) 8 (by decide +kernel) a b ha hb
theorem mul8_assoc (a b c : Nat) (ha : a < 256) (hb : b < 256) : mul8 (mul8 a b) c = mul8 a (mul8 b c) :=
  gm_assoc 7 29 (by decide) 8 (gm_comm 7 29 (by decide) 8 (by decide +kernel)) 8 a b c ha hb
theorem mul8_xor (a b c : Nat) : mul8 a (b ^^^ c) = mul8 a b ^^^ mul8 a c := gm_xor_right 7 29 8 a b c
theorem mul8_xor_left (a b c : Nat) (ha : a < 256) (hb : b < 256) : mul8 (a ^^^ b) c = mul8 a c ^^^ mul8 b c := gm_xor_left 7 29 (by decide) 8 a b c ha hb
theorem mul8_one (a : Nat) (ha : a < 256) : mul8 a 1 = a := by
  have key : ∀ x : Fin 256, mul8 x.val 1 = x.val := by decide +kernel
  exact key ⟨a, ha⟩

/-! In the field of 256 what is not 0 has one inverse. -/
def inv8L : Nat → Nat → Nat → Nat
  | 0, _, out => out
  | n + 1, s, out => inv8L n (mul8 s s) (mul8 out s)
def inv8 (a : Nat) : Nat := inv8L 7 (mul8 a a) 1
theorem inv8L_lt : ∀ n s out, s < 256 → out < 256 → inv8L n s out < 256 := by
  intro n
  induction n with
  | zero => intro s out _ h; exact h
  | succ n ih => intro s out hs ho; exact ih _ _ (mul8_lt s s hs) (mul8_lt out s ho)
theorem inv8_lt (a : Nat) (h : a < 256) : inv8 a < 256 := inv8L_lt 7 _ _ (mul8_lt a a h) (by decide)
theorem mul8_zero (a : Nat) : mul8 a 0 = 0 := gmulL_zero _ _ _ _ _
theorem zero_mul8 (a : Nat) (h : a < 256) : mul8 0 a = 0 := by rw [mul8_comm 0 a (by decide) h, mul8_zero]
theorem one_mul8 (a : Nat) (h : a < 256) : mul8 1 a = a := by rw [mul8_comm 1 a (by decide) h, mul8_one a h]
theorem mul_inv8 (a : Nat) (h : a < 256) (h0 : a ≠ 0) : mul8 a (inv8 a) = 1 := by
  have key : ∀ x : Fin 256, x.val ≠ 0 → mul8 x.val (inv8 x.val) = 1 := by decide +kernel
  exact key ⟨a, h⟩ h0
theorem inv8_zero : inv8 0 = 0 := by decide +kernel
theorem inv8_one_only (a x : Nat) (h : a < 256) (hx : x < 256) (h1 : mul8 a x = 1) : x = inv8 a := by
  by_cases h0 : a = 0
  · subst h0; rw [zero_mul8 x hx] at h1; exact absurd h1 (by decide)
  · have e := mul_inv8 a h h0
    have hi := inv8_lt a h
    calc x = mul8 x 1 := (mul8_one x hx).symm
      _ = mul8 x (mul8 a (inv8 a)) := by rw [e]
      _ = mul8 (mul8 x a) (inv8 a) := (mul8_assoc x a _ hx h).symm
      _ = mul8 (mul8 a x) (inv8 a) := by rw [mul8_comm x a hx h]
      _ = inv8 a := by rw [h1, one_mul8 _ hi]

/-! Lists of numbers: copied, held against one another, counted. -/
theorem set_prefix_id {α : Type} (z : α) (l : List α) (i : Nat) (h : i < l.length) (x : α) (hx : l[i]? = some x) :
    (l.take i ++ List.replicate (l.length - i) z).set i x = l.take (i + 1) ++ List.replicate (l.length - (i + 1)) z := by
  have h1 : (l.take i).length = i := by simp; omega
  rw [List.set_append_right _ _ (by omega), h1, Nat.sub_self]
  have h2 : List.replicate (l.length - i) z = z :: List.replicate (l.length - (i + 1)) z := by
    rw [show l.length - i = (l.length - (i + 1)) + 1 by omega]; rfl
  rw [h2, List.set_cons_zero, List.take_add_one, hx]
  simp
theorem rd_at (l : List Int) (i : Nat) (h : i < l.length) : rd l (i : Int) = l[i] := by
  unfold rd; rw [Int.toNat_natCast, List.getD_eq_getElem?_getD, List.getElem?_eq_getElem h]; rfl

/-! Bytes as the program's numbers, and as texts. -/
def bI (o : List UInt8) : List Int := o.map fun c => (c.toNat : Int)
def mkB (o : List UInt8) : ByteArray := ⟨o.toArray⟩
theorem strOf_bI (o : List UInt8) : strOfNums (bI o) = mkB o := by
  unfold strOfNums bI mkB
  congr 1
  rw [List.map_map]
  congr 1
  conv => rhs; rw [← List.map_id o]
  apply List.map_congr_left
  intro c _
  simp
theorem bI_snoc (o : List UInt8) (c : UInt8) : bI o ++ [(c.toNat : Int)] = bI (o ++ [c]) := by simp [bI]
theorem bI_app (o p : List UInt8) : bI o ++ bI p = bI (o ++ p) := by simp [bI]
theorem bI_length (o : List UInt8) : (bI o).length = o.length := by simp [bI]
theorem mkB_list (o : List UInt8) : (mkB o).data.toList = o := rfl
theorem mkB_toList (o : List UInt8) : (mkB o).toList = o := by rw [ByteArray.toList_eq]; rfl
theorem mkB_size (o : List UInt8) : (mkB o).size = o.length := by show o.toArray.size = _; simp
theorem mkB_data (s : ByteArray) : mkB s.data.toList = s := by unfold mkB; simp
theorem data_len (s : ByteArray) : s.data.toList.length = s.size := by simp
/-- Two bytes on, where there are. -/
theorem bt_next (s : ByteArray) (i : Nat) (h : i < s.size) : ∃ c : UInt8, s.data.toList.drop i = c :: s.data.toList.drop (i + 1) ∧ bt s (i : Int) = (c.toNat : Int) := bt_drop s i h

/-! Draws: a number out of a code, at a place. -/
def Bytes8 (l : List Int) : Prop := ∀ x ∈ l, (Lit.int .u8 x).wf = true
theorem u8_in {x : Int} (h : (Lit.int .u8 x).wf = true) : 0 ≤ x ∧ x < 256 := by
  simp only [Lit.wf, IntKind.min, IntKind.max, IntKind.signed, IntKind.bits, Bool.and_eq_true, decide_eq_true_eq] at h
  simp at h
  omega
def codeAt (l : List Int) (i : Nat) : Nat := (rd l (i : Int)).toNat
theorem codeAt_ok (l : List Int) (hl : Bytes8 l) (i : Nat) (h : i < l.length) : rd l (i : Int) = ((codeAt l i : Nat) : Int) ∧ codeAt l i < 256 := by
  have hr : rd l (i : Int) = l[i] := by unfold rd; rw [Int.toNat_natCast, List.getD_eq_getElem?_getD, List.getElem?_eq_getElem h]; rfl
  have := u8_in (hl _ (List.getElem_mem h))
  unfold codeAt
  rw [hr]
  omega
def drawV (l : List Int) (a most : Nat) : Nat :=
  if most = 0 then 0 else if l.length = 0 then a * 7 % most else
    if most > 200 then ((codeAt l (a % l.length) + a / l.length * 37) * 251 + codeAt l ((a + 1) % l.length) * 13 + a) % most
    else (codeAt l (a % l.length) + a / l.length * 37) % most
theorem drawV_lt (l : List Int) (a most : Nat) (h : 0 < most) : drawV l a most < most := by
  unfold drawV
  rw [if_neg (by omega)]
  split
  · exact Nat.mod_lt _ h
  · split
    · exact Nat.mod_lt _ h
    · exact Nat.mod_lt _ h
theorem draw_small (c q most : Nat) (hc : c < 256) (hq : q < 1099511627776) : Int.tmod (wrap64 ((wrap64 (c : Int)) + (wrap64 ((wrap64 (q : Int)) * 37)))) (most : Int) = (((c + q * 37) % most : Nat) : Int) := by
  rw [wrap64_id (x := (c : Int)) (by omega) (by omega), wrap64_id (x := (q : Int)) (by omega) (by omega), wrap64_id (x := (q : Int) * 37) (by omega) (by omega), wrap64_id (x := (c : Int) + (q : Int) * 37) (by omega) (by omega), Int.tmod_eq_emod_of_nonneg (by omega)]
  rfl
theorem draw_big (c q c1 a most : Nat) (hc : c < 256) (hc1 : c1 < 256) (hq : q < 1099511627776) (ha : a < 1099511627776) :
    Int.tmod (wrap64 ((wrap64 ((wrap64 ((wrap64 ((wrap64 (c : Int)) + (wrap64 ((wrap64 (q : Int)) * 37)))) * 251)) + (wrap64 ((wrap64 (c1 : Int)) * 13)))) + (a : Int))) (most : Int) = ((((c + q * 37) * 251 + c1 * 13 + a) % most : Nat) : Int) := by
  rw [wrap64_id (x := (c : Int)) (by omega) (by omega), wrap64_id (x := (q : Int)) (by omega) (by omega), wrap64_id (x := (q : Int) * 37) (by omega) (by omega), wrap64_id (x := (c : Int) + (q : Int) * 37) (by omega) (by omega),
    wrap64_id (x := ((c : Int) + (q : Int) * 37) * 251) (by omega) (by omega), wrap64_id (x := (c1 : Int)) (by omega) (by omega), wrap64_id (x := (c1 : Int) * 13) (by omega) (by omega), wrap64_id (x := ((c : Int) + (q : Int) * 37) * 251 + (c1 : Int) * 13) (by omega) (by omega),
    wrap64_id (x := ((c : Int) + (q : Int) * 37) * 251 + (c1 : Int) * 13 + (a : Int)) (by omega) (by omega), Int.tmod_eq_emod_of_nonneg (by omega)]
  rfl
theorem next_at (a : Nat) (ha : a < 1099511627776) : wrap64 ((a : Int) + 1) = ((a + 1 : Nat) : Int) := by rw [wrap64_id (by omega) (by omega)]; rfl
theorem back_at (a : Nat) (ha : a < 1099511627776) : wrap64 (wrap64 ((a : Int) + 1) - 1) = (a : Int) := by rw [wrap64_id (x := (a : Int) + 1) (by omega) (by omega), wrap64_id (by omega) (by omega)]; omega
theorem tmod_nat (a b : Nat) : Int.tmod (a : Int) (b : Int) = ((a % b : Nat) : Int) := by rw [Int.tmod_eq_emod_of_nonneg (by omega)]; rfl
theorem tdiv_nat (a b : Nat) : Int.tdiv (a : Int) (b : Int) = ((a / b : Nat) : Int) := by rw [Int.tdiv_eq_ediv_of_nonneg (by omega)]; rfl
theorem drawN_nil (l : List Int) (hk : l.length = 0) (a most : Nat) (ha : a < 1099511627776) (sz : Int) :
    spec_l01Src_n.f l (a : Int) sz (most : Int) = some (((drawV l a most : Nat) : Int), ((a + 1 : Nat) : Int), sz) := by
  unfold spec_l01Src_n.f drawV
  rw [back_at a ha, next_at a ha]
  by_cases h0 : most = 0
  · subst h0
    rw [if_pos (by omega), if_pos rfl]; rfl
  · rw [if_neg (by omega), if_neg h0, if_pos (by omega), if_neg (by omega), if_pos hk, wrap64_id (by omega) (by omega), Int.tmod_eq_emod_of_nonneg (by omega)]
    rfl
theorem drawN (l : List Int) (hl : Bytes8 l) (hlen : l.length ≤ 1048576) (a most : Nat) (ha : a < 1099511627776) (hm : most < 4611686018427387904) (sz : Int) :
    spec_l01Src_n.f l (a : Int) sz (most : Int) = some (((drawV l a most : Nat) : Int), ((a + 1 : Nat) : Int), sz) := by
  by_cases hk : l.length = 0
  · exact drawN_nil l hk a most ha sz
  · unfold spec_l01Src_n.f drawV
    rw [back_at a ha]
    by_cases h0 : most = 0
    · rw [if_pos (by omega), if_pos h0, next_at a ha]; rfl
    · have hkp : 0 < l.length := by omega
      obtain ⟨r0, b0⟩ := codeAt_ok l hl _ (Nat.mod_lt a hkp)
      obtain ⟨r1, b1⟩ := codeAt_ok l hl _ (Nat.mod_lt (a + 1) hkp)
      have hdl : a / l.length < 1099511627776 := Nat.lt_of_le_of_lt (Nat.div_le_self _ _) ha
      have m0 := Nat.mod_lt a hkp
      have m1 := Nat.mod_lt (a + 1) hkp
      rw [if_neg (by omega), if_neg h0, if_neg (by omega), if_neg hk, next_at a ha, tmod_nat, tmod_nat, tdiv_nat, r0, r1]
      generalize a % l.length = i0 at m0 b0 ⊢
      generalize (a + 1) % l.length = i1 at m1 b1 ⊢
      generalize a / l.length = q at hdl ⊢
      generalize codeAt l i0 = c0 at b0 ⊢
      generalize codeAt l i1 = c1 at b1 ⊢
      rw [if_pos (by omega), if_pos (by omega)]
      by_cases hbig : most > 200
      · rw [if_pos (by omega), if_pos (by omega), if_pos (by omega), if_neg (by omega), if_pos hbig, draw_big c0 q c1 a most b0 b1 hdl ha]
      · rw [if_neg (by omega), if_neg (by omega), if_neg hbig, draw_small c0 q most b0 hdl]
/-- A source: the code, and where its reading stands. -/
theorem source_ok (l : List Int) (hlen : l.length ≤ 1048576) : ∃ sz : Nat, sz ≤ 12 ∧ spec_l01Source.f l = some (l, 0, (sz : Int)) := by
  unfold spec_l01Source.f
  have h : wrap64 ((l.length : Int) / 16) = ((l.length / 16 : Nat) : Int) := by rw [wrap64_id (by omega) (by omega)]; rfl
  rw [h]
  by_cases h12 : ((l.length / 16 : Nat) : Int) > 12
  · rw [if_pos h12]; exact ⟨12, by omega, rfl⟩
  · rw [if_neg h12]; exact ⟨l.length / 16, by omega, rfl⟩
/-- What was drawn, kept out of arithmetic's sight. -/
structure Drew (l : List Int) (a most v : Nat) : Prop where mk ::
  out : drawV l a most = v
theorem drawE (l : List Int) (hl : Bytes8 l) (hlen : l.length ≤ 1048576) (a most : Nat) (h0 : 0 < most) (ha : a < 1099511627776) (hm : most < 4611686018427387904) (sz : Int) :
    ∃ v : Nat, v < most ∧ Drew l a most v ∧ spec_l01Src_n.f l (a : Int) sz (most : Int) = some ((v : Int), ((a + 1 : Nat) : Int), sz) :=
  ⟨drawV l a most, drawV_lt l a most h0, ⟨rfl⟩, drawN l hl hlen a most ha hm sz⟩

theorem drawOne (l : List Int) (hl : Bytes8 l) (hlen : l.length ≤ 1048576) (a most : Nat) (ha : a < 1099511627776) (hm : most < 4611686018427387904) (sz : Int) :
    spec_l01Src_one.f l (a : Int) sz (most : Int) = some (decide (drawV l a most = 0), ((a + 1 : Nat) : Int), sz) := by
  unfold spec_l01Src_one.f
  rw [drawN l hl hlen a most ha hm sz, Option.bind_some]
  have : (((drawV l a most : Nat) : Int) == 0) = decide (drawV l a most = 0) := by
    by_cases h : drawV l a most = 0
    · simp [h]
    · have : ¬ ((drawV l a most : Nat) : Int) = 0 := by omega
      simp [h, this]
  rw [this]
theorem oneE (l : List Int) (hl : Bytes8 l) (hlen : l.length ≤ 1048576) (a most : Nat) (ha : a < 1099511627776) (hm : most < 4611686018427387904) (sz : Int) :
    ∃ b : Bool, spec_l01Src_one.f l (a : Int) sz (most : Int) = some (b, ((a + 1 : Nat) : Int), sz) := ⟨_, drawOne l hl hlen a most ha hm sz⟩

/-- Drawn bytes: at most n of them. -/
theorem drawBytes_l0 (l : List Int) (hl : Bytes8 l) (hlen : l.length ≤ 1048576) (sz : Int) (n kind : Nat) (hn : n ≤ 1000000) (hk : kind < 6) : ∀ (d i : Nat) (o : List UInt8) (a : Nat), n - i = d → i ≤ n → o.length ≤ 3 * i → a + 2 * d < 1099511627776 →
    ∃ (s : ByteArray) (a' : Nat), Ev (fun k => spec_l01Src_bytes.l0 k (n : Int) (bI o) (kind : Int) (i : Int) l (a : Int) sz) (s, (a' : Int), sz) ∧ s.size ≤ n ∧ a ≤ a' ∧ a' ≤ a + 2 * d := by
  intro d
  induction d with
  | zero =>
    intro i o a hd hi ho ha
    have hin : i = n := by omega
    by_cases hlong : o.length > n
    · refine ⟨mkB (o.take n), a, ?_, by rw [mkB_size]; simp; omega, by omega, by omega⟩
      refine Ev.step (fun k => by rw [spec_l01Src_bytes.l0, if_neg (by omega), if_pos (by rw [bI_length]; omega), show decide ((n : Int) ≥ 0) = true from decide_eq_true (by omega)]) (Ev.step (fun k => by rw [spec_l01Src_bytes.j2, if_pos rfl, if_pos (by omega), if_pos (by rw [bI_length]; omega), Int.toNat_natCast]) (Ev.give ?_))
      rw [show (bI o).take n = bI (o.take n) by simp [bI, List.map_take], strOf_bI]
    · refine ⟨mkB o, a, ?_, by rw [mkB_size]; omega, by omega, by omega⟩
      refine Ev.step (fun k => by rw [spec_l01Src_bytes.l0, if_neg (by omega), if_neg (by rw [bI_length]; omega)]) (Ev.step (fun k => by rw [spec_l01Src_bytes.j2, if_neg (by decide), strOf_bI]) (Ev.now _))
  | succ d ih =>
    intro i o a hd hi ho ha
    have hw : wrap64 ((i : Int) + 1) = ((i + 1 : Nat) : Int) := by rw [wrap64_id (by omega) (by omega)]; rfl
    have byte : ∀ x : Nat, ∃ c : UInt8, ((x : Int) % 256) = (c.toNat : Int) := fun x => ⟨UInt8.ofNat x, by rw [UInt8.toNat_ofNat']; omega⟩
    by_cases h0 : kind = 0
    · have dn : spec_l01Src_n.f l ((a : Nat) : Int) sz 256 = some (((drawV l a 256 : Nat) : Int), ((a + 1 : Nat) : Int), sz) := drawN l hl hlen a 256 (by omega) (by omega) sz
      obtain ⟨c, hc⟩ := byte (drawV l a 256)
      obtain ⟨s, a', hE, h1, h2, h3⟩ := ih (i + 1) (o ++ [c]) (a + 1) (by omega) (by omega) (by simp; omega) (by omega)
      refine ⟨s, a', ?_, h1, by omega, by omega⟩
      exact Ev.step (fun k => by rw [spec_l01Src_bytes.l0, if_pos (by omega), if_pos (by omega), dn, Option.bind_some]; simp only; rw [if_pos (by rw [bI_length]; omega), hc, bI_snoc, hw]) hE
    · by_cases h1k : kind = 1
      · have dn : spec_l01Src_n.f l ((a : Nat) : Int) sz 9 = some (((drawV l a 9 : Nat) : Int), ((a + 1 : Nat) : Int), sz) := drawN l hl hlen a 9 (by omega) (by omega) sz
        have dl := drawV_lt l a 9 (by decide)
        obtain ⟨c, _, hc⟩ := bt_get (⟨#[32, 9, 61, 46, 13, 10, 45, 97, 95]⟩ : ByteArray) (drawV l a 9) (by exact dl)
        obtain ⟨s, a', hE, h1, h2, h3⟩ := ih (i + 1) (o ++ [c]) (a + 1) (by omega) (by omega) (by simp; omega) (by omega)
        refine ⟨s, a', ?_, h1, by omega, by omega⟩
        exact Ev.step (fun k => by rw [spec_l01Src_bytes.l0, if_pos (by omega), if_neg (by omega), if_pos (by omega), dn, Option.bind_some]; simp only; rw [if_pos (by omega), if_pos (by omega), if_pos (by rw [bI_length]; omega), hc, bI_snoc, hw]) hE
      · by_cases h2k : kind = 2
        · have dn : spec_l01Src_one.f l ((a : Nat) : Int) sz 12 = some (decide (drawV l a 12 = 0), ((a + 1 : Nat) : Int), sz) := drawOne l hl hlen a 12 (by omega) (by omega) sz
          have dm : spec_l01Src_n.f l (((a + 1) : Nat) : Int) sz 95 = some (((drawV l (a + 1) 95 : Nat) : Int), (((a + 1) + 1 : Nat) : Int), sz) := drawN l hl hlen (a + 1) 95 (by omega) (by omega) sz
          have dl := drawV_lt l (a + 1) 95 (by decide)
          obtain ⟨c, hc⟩ := byte (32 + drawV l (a + 1) 95)
          have hc' : (wrap64 (32 + ((drawV l (a + 1) 95 : Nat) : Int))) % 256 = (c.toNat : Int) := by rw [wrap64_id (by omega) (by omega), ← hc]; rfl
          by_cases hz : drawV l a 12 = 0
          · obtain ⟨s, a', hE, h1, h2, h3⟩ := ih (i + 1) (o ++ [13, 10] ++ [c]) (a + 2) (by omega) (by omega) (by simp; omega) (by omega)
            refine ⟨s, a', ?_, h1, by omega, by omega⟩
            have hE1 : Ev (fun k => spec_l01Src_bytes.j1 k (n : Int) (bI (o ++ [13, 10])) (kind : Int) (i : Int) l (((a + 1 : Nat)) : Int) sz) (s, (a' : Int), sz) := Ev.step (fun k => by rw [spec_l01Src_bytes.j1, dm, Option.bind_some]; simp only; rw [if_pos (by rw [bI_length]; simp; omega), hc', bI_snoc, hw]) hE
            exact Ev.step (fun k => by rw [spec_l01Src_bytes.l0, if_pos (by omega), if_neg (by omega), if_neg (by omega), if_pos (by omega), dn, Option.bind_some]; simp only; rw [if_pos (by simpa using hz), Option.bind_some, if_pos (by rw [bI_length]; simp; omega), show ([13, 10] : List Int) = bI [13, 10] from rfl, bI_app]) hE1
          · obtain ⟨s, a', hE, h1, h2, h3⟩ := ih (i + 1) (o ++ [c]) (a + 2) (by omega) (by omega) (by simp; omega) (by omega)
            refine ⟨s, a', ?_, h1, by omega, by omega⟩
            have hE1 : Ev (fun k => spec_l01Src_bytes.j1 k (n : Int) (bI o) (kind : Int) (i : Int) l (((a + 1 : Nat)) : Int) sz) (s, (a' : Int), sz) := Ev.step (fun k => by rw [spec_l01Src_bytes.j1, dm, Option.bind_some]; simp only; rw [if_pos (by rw [bI_length]; omega), hc', bI_snoc, hw]) hE
            exact Ev.step (fun k => by rw [spec_l01Src_bytes.l0, if_pos (by omega), if_neg (by omega), if_neg (by omega), if_pos (by omega), dn, Option.bind_some]; simp only; rw [if_neg (by simpa using hz)]) hE1
        · have dn : spec_l01Src_n.f l ((a : Nat) : Int) sz 23 = some (((drawV l a 23 : Nat) : Int), ((a + 1 : Nat) : Int), sz) := drawN l hl hlen a 23 (by omega) (by omega) sz
          have dl := drawV_lt l a 23 (by decide)
          obtain ⟨c, _, hc⟩ := bt_get (⟨#[97, 98, 99, 100, 101, 102, 103, 104, 32, 105, 106, 107, 108, 109, 110, 111, 112, 46, 32, 101, 116, 97, 111]⟩ : ByteArray) (drawV l a 23) (by exact dl)
          obtain ⟨s, a', hE, h1, h2, h3⟩ := ih (i + 1) (o ++ [c]) (a + 1) (by omega) (by omega) (by simp; omega) (by omega)
          refine ⟨s, a', ?_, h1, by omega, by omega⟩
          exact Ev.step (fun k => by rw [spec_l01Src_bytes.l0, if_pos (by omega), if_neg (by omega), if_neg (by omega), if_neg (by omega), dn, Option.bind_some]; simp only; rw [if_pos (by omega), if_pos (by omega), if_pos (by rw [bI_length]; omega), hc, bI_snoc, hw]) hE
theorem drawBytes (l : List Int) (hl : Bytes8 l) (hlen : l.length ≤ 1048576) (sz : Int) (n : Nat) (hn : n ≤ 1000000) (a : Nat) (ha : a < 1000000000000) :
    ∃ (s : ByteArray) (a' : Nat), Ev (fun k => spec_l01Src_bytes.f k l (a : Int) sz (n : Int)) (s, (a' : Int), sz) ∧ s.size ≤ n ∧ a ≤ a' ∧ a' ≤ a + 1 + 2 * n := by
  have dn : spec_l01Src_n.f l ((a : Nat) : Int) sz 6 = some (((drawV l a 6 : Nat) : Int), ((a + 1 : Nat) : Int), sz) := drawN l hl hlen a 6 (by omega) (by omega) sz
  have dl := drawV_lt l a 6 (by decide)
  obtain ⟨s, a', hE, h1, h2, h3⟩ := drawBytes_l0 l hl hlen sz n (drawV l a 6) hn dl n 0 [] (a + 1) (by omega) (by omega) (by simp) (by omega)
  refine ⟨s, a', ?_, h1, by omega, by omega⟩
  exact Ev.congr (fun k => by rw [spec_l01Src_bytes.f, dn, Option.bind_some]; rfl) hE

/-! The drawn object: a code, a unit, a text. -/
theorem drawCode2 (l : List Int) (hl : Bytes8 l) (hlen : l.length ≤ 1048576) (sz : Int) (a : Nat) (ha : a < 1000000000) :
    ∃ (K M G : Int) (a' : Nat), spec_l01Src_code2.f l (a : Int) sz = some (K, M, G, (a' : Int), sz) ∧ a ≤ a' ∧ a' ≤ a + 10 := by
  obtain ⟨v, hv, _, e1⟩ := drawE l hl hlen a 6 (by omega) (by omega) (by omega) sz
  obtain ⟨m, hm, _, e2⟩ := drawE l hl hlen (a + 1) 4 (by omega) (by omega) (by omega) sz
  obtain ⟨b, e3⟩ := oneE l hl hlen (a + 1 + 1) 2 (by omega) (by omega) sz
  have hw : wrap64 (1 + (v : Int)) = ((v + 1 : Nat) : Int) := by rw [wrap64_id (by omega) (by omega)]; omega
  have hw2 : wrap64 (((v + 1 : Nat) : Int) + 1) = ((v + 2 : Nat) : Int) := by rw [wrap64_id (by omega) (by omega)]; omega
  obtain ⟨g, hg, _, e4⟩ := drawE l hl hlen (a + 1 + 1 + 1) (v + 2) (by omega) (by omega) (by omega) sz
  have e1' : spec_l01Src_n.f l (a : Int) sz 6 = some ((v : Int), ((a + 1 : Nat) : Int), sz) := e1
  have e2' : spec_l01Src_n.f l ((a + 1 : Nat) : Int) sz 4 = some ((m : Int), ((a + 1 + 1 : Nat) : Int), sz) := e2
  have e3' : spec_l01Src_one.f l ((a + 1 + 1 : Nat) : Int) sz 2 = some (b, ((a + 1 + 1 + 1 : Nat) : Int), sz) := e3
  unfold spec_l01Src_code2.f
  rw [e1', Option.bind_some, e2', Option.bind_some, e3', Option.bind_some, hw, hw2, e4, Option.bind_some]
  cases b
  · exact ⟨_, _, _, a + 1 + 1 + 1, rfl, by omega, by omega⟩
  · exact ⟨_, _, _, a + 1 + 1 + 1 + 1, rfl, by omega, by omega⟩
theorem drawUnit (l : List Int) (hl : Bytes8 l) (hlen : l.length ≤ 1048576) (sz : Int) (a : Nat) (ha : a < 1000000000) :
    ∃ (u : Int) (a' : Nat), spec_l01Src_unit.f l (a : Int) sz = some (u, (a' : Int), sz) ∧ a ≤ a' ∧ a' ≤ a + 10 := by
  obtain ⟨b, e1⟩ := oneE l hl hlen a 20 (by omega) (by omega) sz
  obtain ⟨v, hv, _, e2⟩ := drawE l hl hlen (a + 1) 4 (by omega) (by omega) (by omega) sz
  obtain ⟨m, hm, _, e3⟩ := drawE l hl hlen (a + 1) 6 (by omega) (by omega) (by omega) sz
  have e1' : spec_l01Src_one.f l (a : Int) sz 20 = some (b, ((a + 1 : Nat) : Int), sz) := e1
  have e2' : spec_l01Src_n.f l ((a + 1 : Nat) : Int) sz 4 = some ((v : Int), ((a + 1 + 1 : Nat) : Int), sz) := e2
  have e3' : spec_l01Src_n.f l ((a + 1 : Nat) : Int) sz 6 = some ((m : Int), ((a + 1 + 1 : Nat) : Int), sz) := e3
  unfold spec_l01Src_unit.f
  rw [e1', Option.bind_some]
  cases b
  · refine ⟨wrap64 (1 + (m : Int)), a + 1 + 1, ?_, by omega, by omega⟩
    simp only [Bool.false_eq_true, if_false, e3', Option.bind_some]
  · refine ⟨rd [0, 4096, 4097, (-1)] (v : Int), a + 1 + 1, ?_, by omega, by omega⟩
    have q1 : (0 : Int) ≤ (v : Int) := by omega
    have q2 : (v : Int) < ((([0, 4096, 4097, (-1)] : List Int).length : Nat) : Int) := by simp; omega
    simp only [if_true, e2', Option.bind_some]
    rw [if_pos q1, if_pos q2]
theorem drawSplit (l : List Int) (hl : Bytes8 l) (hlen : l.length ≤ 1048576) : ∃ (K M G u : Int) (d : ByteArray), Ev (fun k => spec_DrawSplitObject.f k l) (K, M, G, u, d) ∧ d.size ≤ 60 := by
  obtain ⟨sz, _, e0⟩ := source_ok l hlen
  obtain ⟨K, M, G, a1, e1, h1, h2⟩ := drawCode2 l hl hlen (sz : Int) 0 (by omega)
  obtain ⟨u, a2, e2, h3, h4⟩ := drawUnit l hl hlen (sz : Int) a1 (by omega)
  obtain ⟨n, hn, _, e3⟩ := drawE l hl hlen a2 60 (by omega) (by omega) (by omega) (sz : Int)
  have e3' : spec_l01Src_n.f l (a2 : Int) (sz : Int) 60 = some ((n : Int), ((a2 + 1 : Nat) : Int), (sz : Int)) := e3
  have e1' : spec_l01Src_code2.f l 0 (sz : Int) = some (K, M, G, (a1 : Int), (sz : Int)) := e1
  obtain ⟨d, a3, e4, h5, _, _⟩ := drawBytes l hl hlen (sz : Int) n (by omega) (a2 + 1) (by omega)
  refine ⟨K, M, G, u, d, ?_, by omega⟩
  refine Ev.congr (fun k => by rw [spec_DrawSplitObject.f]) ?_
  refine Ev.bindS e0 (Ev.bindS e1' (Ev.bindS e2 (Ev.bindS e3' (Ev.bind e4 (Ev.now _)))))

/-- A drawn byte. -/
def lwAtN (l : List Int) (i : Nat) : Nat := if i < l.length then (rd l (i : Int)).toNat else (i * 61 + 29) % 256
theorem u8_range {x : Int} (h : (Lit.int .u8 x).wf = true) : 0 ≤ x ∧ x < 256 := by
  simp only [Lit.wf, IntKind.min, IntKind.max, IntKind.signed, IntKind.bits, Bool.and_eq_true, decide_eq_true_eq] at h
  simp at h
  omega
theorem lwAtN_lt (l : List Int) (hl : ∀ x ∈ l, (Lit.int .u8 x).wf = true) (i : Nat) : lwAtN l i < 256 := by
  unfold lwAtN
  by_cases h : i < l.length
  · rw [if_pos h]
    have hr : rd l (i : Int) = l[i] := by unfold rd; rw [Int.toNat_natCast, List.getD_eq_getElem?_getD, List.getElem?_eq_getElem h]; rfl
    have := u8_range (hl _ (List.getElem_mem h))
    rw [hr]; omega
  · rw [if_neg h]; omega
theorem lwAt (l : List Int) (hl : ∀ x ∈ l, (Lit.int .u8 x).wf = true) (i : Nat) (hi : i < 100000) : laws_lwAt.f l (i : Int) = some ((lwAtN l i : Nat) : Int) := by
  unfold laws_lwAt.f lwAtN
  by_cases h : i < l.length
  · have hr : rd l (i : Int) = l[i] := by unfold rd; rw [Int.toNat_natCast, List.getD_eq_getElem?_getD, List.getElem?_eq_getElem h]; rfl
    have := u8_range (hl _ (List.getElem_mem h))
    rw [if_pos (by omega), if_pos (by omega), if_pos h, hr, wrap64_id (by omega) (by omega)]
    congr 1; omega
  · rw [if_neg (by omega), if_neg h, wrap64_id (x := (i : Int) * 61) (by omega) (by omega), wrap64_id (x := (i : Int) * 61 + 29) (by omega) (by omega)]
    try rw [wrap64_id (by omega) (by omega)]
    rw [Int.tmod_eq_emod_of_nonneg (by omega)]
    rfl

/-- What CodeFault answers. -/
def codeFaultOf (K M G : Int) : Int := if 1 ≤ K ∧ K ≤ 32 ∧ 0 ≤ M ∧ M ≤ 16 ∧ 0 ≤ G ∧ G ≤ K ∧ K + M + G ≤ 64 then 0 else 1
theorem spec_codeFault (a b c : Int) : Ev (fun k => spec_CodeFault.f k a b c) (codeFaultOf a b c) := by
  refine Ev.congr (fun k => by rw [spec_CodeFault.f]) ?_
  unfold codeFaultOf
  have bad : Ev (fun k => spec_CodeFault.j0 k true) 1 := Ev.step (fun k => by rw [spec_CodeFault.j0, if_pos rfl]) (Ev.now _)
  by_cases h1 : a < 1
  · rw [if_neg (by omega)]; exact Ev.pos h1 bad
  · refine Ev.neg h1 ?_
    by_cases h2 : a > 32
    · rw [if_neg (by omega)]; exact Ev.pos h2 bad
    · refine Ev.neg h2 ?_
      by_cases h3 : b < 0
      · rw [if_neg (by omega)]; exact Ev.pos h3 bad
      · refine Ev.neg h3 ?_
        by_cases h4 : b > 16
        · rw [if_neg (by omega)]; exact Ev.pos h4 bad
        · refine Ev.neg h4 ?_
          by_cases h5 : c < 0
          · rw [if_neg (by omega)]; exact Ev.pos h5 bad
          · refine Ev.neg h5 ?_
            by_cases h6 : c > a
            · rw [if_neg (by omega)]; exact Ev.pos h6 bad
            · refine Ev.neg h6 ?_
              have hw : wrap64 (wrap64 (a + b) + c) = a + b + c := by rw [wrap64_id (x := a + b) (by omega) (by omega), wrap64_id (x := a + b + c) (by omega) (by omega)]
              rw [hw]
              by_cases h7 : a + b + c > 64
              · rw [if_neg (by omega), show decide (a + b + c > 64) = true from decide_eq_true h7]; exact bad
              · rw [if_pos (by omega), show decide (a + b + c > 64) = false from decide_eq_false h7]
                exact Ev.step (fun k => by rw [spec_CodeFault.j0, if_neg (by decide)]) (Ev.now _)
theorem impl_codeFault (a b c : Int) : Ev (fun k => impl_CodeFault.f k a b c) (codeFaultOf a b c) := by
  refine Ev.congr (fun k => by rw [impl_CodeFault.f]) ?_
  unfold codeFaultOf
  have bad : Ev (fun k => impl_CodeFault.j0 k true) 1 := Ev.step (fun k => by rw [impl_CodeFault.j0, if_pos rfl]) (Ev.now _)
  by_cases h1 : a < 1
  · rw [if_neg (by omega)]; exact Ev.pos h1 bad
  · refine Ev.neg h1 ?_
    by_cases h2 : a > 32
    · rw [if_neg (by omega)]; exact Ev.pos h2 bad
    · refine Ev.neg h2 ?_
      by_cases h3 : b < 0
      · rw [if_neg (by omega)]; exact Ev.pos h3 bad
      · refine Ev.neg h3 ?_
        by_cases h4 : b > 16
        · rw [if_neg (by omega)]; exact Ev.pos h4 bad
        · refine Ev.neg h4 ?_
          by_cases h5 : c < 0
          · rw [if_neg (by omega)]; exact Ev.pos h5 bad
          · refine Ev.neg h5 ?_
            by_cases h6 : c > a
            · rw [if_neg (by omega)]; exact Ev.pos h6 bad
            · refine Ev.neg h6 ?_
              have hw : wrap64 (wrap64 (a + b) + c) = a + b + c := by rw [wrap64_id (x := a + b) (by omega) (by omega), wrap64_id (x := a + b + c) (by omega) (by omega)]
              rw [hw]
              by_cases h7 : a + b + c > 64
              · rw [if_neg (by omega), show decide (a + b + c > 64) = true from decide_eq_true h7]; exact bad
              · rw [if_pos (by omega), show decide (a + b + c > 64) = false from decide_eq_false h7]
                exact Ev.step (fun k => by rw [impl_CodeFault.j0, if_neg (by decide)]) (Ev.now _)
theorem codeFault_zero {a b c : Int} (h : codeFaultOf a b c = 0) : 1 ≤ a ∧ a ≤ 32 ∧ 0 ≤ b ∧ b ≤ 16 ∧ 0 ≤ c ∧ c ≤ a ∧ a + b + c ≤ 64 := by
  unfold codeFaultOf at h
  by_cases hc : 1 ≤ a ∧ a ≤ 32 ∧ 0 ≤ b ∧ b ≤ 16 ∧ 0 ≤ c ∧ c ≤ a ∧ a + b + c ≤ 64
  · exact hc
  · rw [if_neg hc] at h; exact absurd h (by decide)

/-- What StripeCount answers. -/
def stripeOf (K M G unit size : Int) : Int :=
  if codeFaultOf K M G = 0 ∧ 1 ≤ unit ∧ unit ≤ 4096 ∧ 0 ≤ size ∧ size ≤ 100000 then
    (if (size + K * unit - 1) / (K * unit) > 200 then -1 else (size + K * unit - 1) / (K * unit)) else -1
theorem mul_bounds {K unit : Int} (h1 : 1 ≤ K) (h2 : K ≤ 32) (h3 : 1 ≤ unit) (h4 : unit ≤ 4096) : 1 ≤ K * unit ∧ K * unit ≤ 131072 := by
  have e1 : K * unit ≤ 32 * unit := Int.mul_le_mul_of_nonneg_right h2 (by omega)
  have e2 : 1 * unit ≤ K * unit := Int.mul_le_mul_of_nonneg_right h1 (by omega)
  omega
theorem stripe_last {K unit size : Int} (h1 : 1 ≤ K) (h2 : K ≤ 32) (h3 : 1 ≤ unit) (h4 : unit ≤ 4096) (h5 : 0 ≤ size) (h6 : size ≤ 100000) :
    wrap64 (Int.tdiv (wrap64 ((wrap64 (size + (wrap64 (K * unit)))) - 1)) (wrap64 (K * unit))) = (size + K * unit - 1) / (K * unit) := by
  obtain ⟨hb1, hb2⟩ := mul_bounds h1 h2 h3 h4
  rw [wrap64_id (x := K * unit) (by omega) (by omega), wrap64_id (x := size + K * unit) (by omega) (by omega), wrap64_id (x := size + K * unit - 1) (by omega) (by omega), Int.tdiv_eq_ediv_of_nonneg (by omega)]
  have hd : (size + K * unit - 1) / (K * unit) ≤ size + K * unit - 1 := Int.ediv_le_self _ (by omega)
  have hn : 0 ≤ (size + K * unit - 1) / (K * unit) := Int.ediv_nonneg (by omega) (by omega)
  exact wrap64_id (by omega) (by omega)
theorem spec_stripeCount (K M G unit size : Int) : Ev (fun k => spec_StripeCount.f k K M G unit size) (stripeOf K M G unit size) := by
  unfold stripeOf
  refine Ev.congr (fun k => by rw [spec_StripeCount.f]) (Ev.bind (spec_codeFault K M G) ?_)
  have bad : ∀ b : Bool, b = true → Ev (fun k => spec_StripeCount.j0 k unit size b K M G) (-1) := by
    rintro b rfl
    exact Ev.step (fun k => by rw [spec_StripeCount.j0, if_pos rfl]) (Ev.now _)
  by_cases h0 : codeFaultOf K M G = 0
  · refine Ev.pos h0 ?_
    obtain ⟨k1, k2, -, -, -, -, -⟩ := codeFault_zero h0
    by_cases h1 : unit < 1
    · rw [if_neg (by omega)]; exact Ev.pos h1 (bad _ rfl)
    · refine Ev.neg h1 ?_
      by_cases h2 : unit > 4096
      · rw [if_neg (by omega)]; exact Ev.pos h2 (bad _ rfl)
      · refine Ev.neg h2 ?_
        by_cases h3 : size < 0
        · rw [if_neg (by omega)]; exact Ev.pos h3 (bad _ rfl)
        · refine Ev.neg h3 ?_
          by_cases h4 : size > 100000
          · rw [if_neg (by omega)]; exact bad _ (by simpa using h4)
          · rw [if_pos ⟨h0, by omega, by omega, by omega, by omega⟩]
            have hl := stripe_last k1 k2 (by omega : 1 ≤ unit) (by omega) (by omega : 0 ≤ size) (by omega)
            have hb := mul_bounds k1 k2 (by omega : 1 ≤ unit) (by omega)
            have hw : wrap64 (K * unit) = K * unit := wrap64_id (by omega) (by omega)
            refine Ev.step (fun k => by rw [spec_StripeCount.j0, if_neg (by simpa using h4), hl, if_neg (by rw [hw]; omega)]) ?_
            by_cases h5 : (size + K * unit - 1) / (K * unit) > 200
            · rw [if_pos h5, if_pos h5]; exact Ev.now _
            · rw [if_neg h5, if_neg h5]; exact Ev.now _
  · rw [if_neg (fun h => h0 h.1)]
    exact Ev.neg h0 (bad _ rfl)
theorem impl_stripeCount (K M G unit size : Int) : Ev (fun k => impl_StripeCount.f k K M G unit size) (stripeOf K M G unit size) := by
  unfold stripeOf
  refine Ev.congr (fun k => by rw [impl_StripeCount.f]) (Ev.bind (impl_codeFault K M G) ?_)
  have bad : ∀ b : Bool, b = true → Ev (fun k => impl_StripeCount.j0 k unit size b K M G) (-1) := by
    rintro b rfl
    exact Ev.step (fun k => by rw [impl_StripeCount.j0, if_pos rfl]) (Ev.now _)
  by_cases h0 : codeFaultOf K M G = 0
  · refine Ev.pos h0 ?_
    obtain ⟨k1, k2, -, -, -, -, -⟩ := codeFault_zero h0
    by_cases h1 : unit < 1
    · rw [if_neg (by omega)]; exact Ev.pos h1 (bad _ rfl)
    · refine Ev.neg h1 ?_
      by_cases h2 : unit > 4096
      · rw [if_neg (by omega)]; exact Ev.pos h2 (bad _ rfl)
      · refine Ev.neg h2 ?_
        by_cases h3 : size < 0
        · rw [if_neg (by omega)]; exact Ev.pos h3 (bad _ rfl)
        · refine Ev.neg h3 ?_
          by_cases h4 : size > 100000
          · rw [if_neg (by omega)]; exact bad _ (by simpa using h4)
          · rw [if_pos ⟨h0, by omega, by omega, by omega, by omega⟩]
            have hl := stripe_last k1 k2 (by omega : 1 ≤ unit) (by omega) (by omega : 0 ≤ size) (by omega)
            have hb := mul_bounds k1 k2 (by omega : 1 ≤ unit) (by omega)
            have hw : wrap64 (K * unit) = K * unit := wrap64_id (by omega) (by omega)
            refine Ev.step (fun k => by rw [impl_StripeCount.j0, if_neg (by simpa using h4), hl, if_neg (by rw [hw]; omega)]) ?_
            by_cases h5 : (size + K * unit - 1) / (K * unit) > 200
            · rw [if_pos h5, if_pos h5]; exact Ev.now _
            · rw [if_neg h5, if_neg h5]; exact Ev.now _
  · rw [if_neg (fun h => h0 h.1)]
    exact Ev.neg h0 (bad _ rfl)

/-! The table's product is the field's. -/
def p2 : Nat → Nat
  | 0 => 1
  | n + 1 => mul8 (p2 n) 2
theorem p2_lt : ∀ n, p2 n < 256
  | 0 => by decide
  | n + 1 => mul8_lt _ _ (p2_lt n)
theorem p2_add (m : Nat) : ∀ n, mul8 (p2 m) (p2 n) = p2 (m + n)
  | 0 => mul8_one _ (p2_lt m)
  | n + 1 => by
    show mul8 (p2 m) (mul8 (p2 n) 2) = mul8 (p2 (m + n)) 2
    rw [← mul8_assoc _ _ _ (p2_lt m) (p2_lt n), p2_add m n]
theorem p2_ex : ∀ j, j < 255 → p2 j = ex j
  | 0, _ => by decide +kernel
  | j + 1, h => by
    show mul8 (p2 j) 2 = ex (j + 1)
    rw [p2_ex j (by omega)]
    have key : ∀ x : Fin 254, mul8 (ex x.val) 2 = ex (x.val + 1) := by decide +kernel
    exact key ⟨j, by omega⟩
theorem p2_255 : p2 255 = 1 := by
  show mul8 (p2 254) 2 = 1
  rw [p2_ex 254 (by omega)]
  decide +kernel
theorem lg_ex : ∀ a : Fin 256, lg a.val < 255 ∧ (a.val ≠ 0 → ex (lg a.val) = a.val) := by decide +kernel
theorem tabMul_field (a b : Nat) (ha : a < 256) (hb : b < 256) : tabMul a b = mul8 a b := by
  unfold tabMul
  by_cases h0 : a = 0
  · rw [if_pos h0, h0, zero_mul8 b hb]
  · rw [if_neg h0]
    by_cases h1 : b = 0
    · rw [if_pos h1, h1, mul8_zero]
    · rw [if_neg h1]
      obtain ⟨l0, e0⟩ := lg_ex ⟨a, ha⟩
      obtain ⟨l1, e1⟩ := lg_ex ⟨b, hb⟩
      simp only at l0 l1 e0 e1
      have f0 := e0 h0
      have f1 := e1 h1
      rw [← p2_ex _ l0] at f0
      rw [← p2_ex _ l1] at f1
      have e : mul8 a b = p2 (lg a + lg b) := by rw [← p2_add, f0, f1]
      rw [e]
      unfold tE
      by_cases h : lg a + lg b < 255
      · rw [if_pos h, p2_ex _ h]
      · rw [if_neg h, if_pos ⟨by omega, by omega⟩, ← p2_ex _ (by omega : lg a + lg b - 255 < 255)]
        have h2 : lg a + lg b = 255 + (lg a + lg b - 255) := by omega
        conv => rhs; rw [h2, ← p2_add, p2_255]
        rw [one_mul8 _ (p2_lt _)]

/-! The program's encode. -/
theorem tabInv_field (a : Nat) (h : a < 256) : tabInv a = inv8 a := by
  have key : ∀ x : Fin 256, tabInv x.val = inv8 x.val := by decide +kernel
  exact key ⟨a, h⟩
theorem xr_lt (i j : Nat) (hi : i < 64) (hj : j < 64) : xr i j < 64 := Nat.xor_lt_two_pow (n := 6) (by omega) (by omega)
theorem rds_at (l : List ByteArray) (i : Nat) (h : i < l.length) : rdOf ByteArray.empty l (i : Int) = l[i] := by
  unfold rdOf; rw [Int.toNat_natCast, List.getD_eq_getElem?_getD, List.getElem?_eq_getElem h]; rfl
theorem bt_bd (s : ByteArray) (i : Int) : 0 ≤ bt s i ∧ bt s i < 256 := by
  unfold bt
  split
  · have := (s[i.toNat]).toNat_lt; omega
  · omega
theorem tabMul_lt (a b : Nat) (ha : a < 256) (hb : b < 256) : tabMul a b < 256 := by rw [tabMul_field a b ha hb]; exact mul8_lt _ _ ha
theorem mixV_one (l1 : List Int) (l2 : List ByteArray) (i t : Nat) (h1 : ∀ j, j < l1.length → rd l1 (j : Int) = if j = i then 1 else 0) : ∀ m, m ≤ l1.length → mixV l1 l2 t m = if i < m then (bt (rdOf ByteArray.empty l2 (i : Int)) (t : Int)).toNat else 0
  | 0, _ => by unfold mixV; rw [if_neg (by omega)]
  | m + 1, h => by
    unfold mixV
    rw [mixV_one l1 l2 i t h1 m (by omega), h1 m (by omega)]
    have hb := bt_bd (rdOf ByteArray.empty l2 (m : Int)) (t : Int)
    by_cases e : m = i
    · subst e
      rw [if_pos rfl, if_neg (by omega), if_pos (by omega), Nat.zero_xor, show (1 : Int).toNat = 1 from rfl, tabMul_field _ _ (by omega) (by omega), one_mul8 _ (by omega)]
    · rw [if_neg e, show tabMul (0 : Int).toNat (bt (rdOf ByteArray.empty l2 (m : Int)) (t : Int)).toNat = 0 from rfl, Nat.xor_zero]
      by_cases e2 : i < m
      · rw [if_pos e2, if_pos (by omega)]
      · rw [if_neg e2, if_neg (by omega)]
theorem strOf_bytes (s : ByteArray) (l : List Int) (hl : l.length = s.size) (h : ∀ t, t < s.size → l[t]? = some (bt s (t : Int))) : strOfNums l = s := by
  have e : l = bI s.data.toList := by
    apply List.ext_getElem?
    intro t
    unfold bI
    rw [List.getElem?_map]
    by_cases ht : t < s.size
    · obtain ⟨c, hc, hb⟩ := bt_get s t ht
      rw [h t ht, hc, hb]; rfl
    · rw [List.getElem?_eq_none (by omega), List.getElem?_eq_none (by simpa using ht)]; rfl
  rw [e, strOf_bI, mkB_data]
theorem mixF_unit (n : Nat) (l1 : List Int) (l2 : List ByteArray) (i : Nat) (hi : i < l1.length) (h1 : ∀ j, j < l1.length → rd l1 (j : Int) = if j = i then 1 else 0) (hs : (rdOf ByteArray.empty l2 (i : Int)).size = n) : mixF n l1 l2 = rdOf ByteArray.empty l2 (i : Int) := by
  unfold mixF
  refine strOf_bytes _ _ (by rw [mixF_len, hs]) (fun t ht => ?_)
  unfold mixL
  rw [List.getElem?_map, List.getElem?_range (by omega)]
  have hb := bt_bd (rdOf ByteArray.empty l2 (i : Int)) (t : Int)
  show some ((mixV l1 l2 t l1.length : Nat) : Int) = _
  rw [mixV_one l1 l2 i t h1 _ (Nat.le_refl _), if_pos hi]
  congr 1
  omega
theorem rowC_range (K M G i j : Nat) (hi : i < 64) (hj : j < 32) : 0 ≤ rowC K M G i j ∧ rowC K M G i j < 256 := by
  unfold rowC
  split
  · split <;> omega
  · split
    · rw [tabInv_field _ (by have := xr_lt i j hi (by omega); omega)]
      have := inv8_lt (xr i j) (by have := xr_lt i j hi (by omega); omega)
      omega
    · split <;> omega
theorem plant_of {K M G : Int} (h0 : codeFaultOf K M G = 0) : impl_newPlant.f K M G = some (plantNo K M G) ∧ pK (plantNo K M G) = K.toNat ∧ pM (plantNo K M G) = M.toNat ∧ pG (plantNo K M G) = G.toNat := by
  obtain ⟨b1, b2, b3, b4, b5, b6, b7⟩ := codeFault_zero h0
  refine ⟨?_, ?_⟩
  · unfold impl_newPlant.f
    rw [if_pos ⟨b1, b2, b3, b4, b5, by omega⟩]
  · obtain ⟨K, rfl⟩ := Int.eq_ofNat_of_zero_le (show 0 ≤ K by omega)
    obtain ⟨M, rfl⟩ := Int.eq_ofNat_of_zero_le b3
    obtain ⟨G, rfl⟩ := Int.eq_ofNat_of_zero_le b5
    exact plantNo_of K M G (by omega) (by omega) (by omega)
theorem plant_row {K M G i : Int} (h0 : codeFaultOf K M G = 0) (hi0 : 0 ≤ i) (hi : i < K + M + G) : impl_plant_row.f (plantNo K M G) i = some (rowL K.toNat M.toNat G.toNat i.toNat) := by
  obtain ⟨_, e1, e2, e3⟩ := plant_of h0
  obtain ⟨b1, b2, b3, b4, b5, b6, b7⟩ := codeFault_zero h0
  unfold impl_plant_row.f
  rw [e1, e2, e3, if_pos ⟨hi0, by omega⟩]
def szP (n : Nat) (s : ByteArray) : Bool := decide (1 ≤ s.size ∧ s.size ≤ 4096 ∧ s.size = n)
def oneOk (l : List ByteArray) : Bool := l.all (szP (rdOf ByteArray.empty l 0).size)
def shardsOf (K M G : Int) (l : List ByteArray) : List ByteArray := (List.range (K.toNat + M.toNat + G.toNat)).map fun i => mixF (rdOf ByteArray.empty l 0).size (rowL K.toNat M.toNat G.toNat i) l
theorem oneOk_all {l : List ByteArray} (h : oneOk l = true) : ∀ s ∈ l, s.size = (rdOf ByteArray.empty l 0).size ∧ 1 ≤ s.size ∧ s.size ≤ 4096 := by
  unfold oneOk at h
  rw [List.all_eq_true] at h
  intro s hs
  have := h s hs
  simp only [szP, decide_eq_true_eq] at this
  exact ⟨this.2.2, this.1, this.2.1⟩
section
variable {K M G : Int} {l : List ByteArray} (h0 : codeFaultOf K M G = 0) (hK : (l.length : Int) = K) (hok : oneOk l = true)
include h0 hK hok
theorem enc_facts : (rdOf ByteArray.empty l 0).size ≤ 4096 ∧ 1 ≤ (rdOf ByteArray.empty l 0).size ∧ 1 ≤ l.length ∧ l.length ≤ 32 ∧ l.length = K.toNat := by
  obtain ⟨b1, b2, b3, b4, b5, b6, b7⟩ := codeFault_zero h0
  have hl : 0 < l.length := by omega
  have := oneOk_all hok _ (List.getElem_mem hl)
  rw [show rdOf ByteArray.empty l 0 = l[0] from rds_at l 0 hl]
  omega
theorem enc_row (i : Nat) (hi : (i : Int) < K + M + G) : (rowL K.toNat M.toNat G.toNat i).length = l.length ∧ ∀ x ∈ rowL K.toNat M.toNat G.toNat i, 0 ≤ x ∧ x < 256 := by
  obtain ⟨b1, b2, b3, b4, b5, b6, b7⟩ := codeFault_zero h0
  refine ⟨by rw [rowL_len]; omega, fun x hx => ?_⟩
  obtain ⟨j, hj, rfl⟩ := List.mem_map.1 (show x ∈ (List.range K.toNat).map (rowC K.toNat M.toNat G.toNat i) from hx)
  exact rowC_range _ _ _ _ _ (by omega) (by have := List.mem_range.1 hj; omega)
theorem impl_enc_l0 : ∀ (d i : Nat), (K.toNat + M.toNat + G.toNat) - i = d → i ≤ K.toNat + M.toNat + G.toNat →
    Ev (fun k => impl_plant_encode.l0 k (plantNo K M G) l ((shardsOf K M G l).take i) ((K.toNat + M.toNat + G.toNat : Nat) : Int) (i : Int)) (shardsOf K M G l) := by
  obtain ⟨b1, b2, b3, b4, b5, b6, b7⟩ := codeFault_zero h0
  obtain ⟨f1, f2, f3, f4, f5⟩ := enc_facts h0 hK hok
  have hlen : (shardsOf K M G l).length = K.toNat + M.toNat + G.toNat := by unfold shardsOf; simp
  intro d
  induction d with
  | zero =>
    intro i hd hi
    refine Ev.step (fun k => by rw [impl_plant_encode.l0, if_neg (by omega)]) (Ev.give ?_)
    exact List.take_of_length_le (by omega)
  | succ d ih =>
    intro i hd hi
    obtain ⟨r1, r2⟩ := enc_row h0 hK hok i (by omega)
    have h := ih (i + 1) (by omega) (by omega)
    rw [List.take_add_one, show (shardsOf K M G l)[i]? = some (mixF (rdOf ByteArray.empty l 0).size (rowL K.toNat M.toNat G.toNat i) l) by unfold shardsOf; rw [List.getElem?_map, List.getElem?_range (by omega)]; rfl] at h
    refine Ev.step (fun k => by rw [impl_plant_encode.l0, if_pos (by omega), wrap64_id (x := (i : Int) + 1) (by omega) (by omega)]) ?_
    by_cases hi2 : i < l.length
    · refine Ev.pos (by omega) (Ev.pos (by omega) (Ev.pos (by rw [List.length_take]; omega) ?_))
      rw [mixF_unit _ (rowL K.toNat M.toNat G.toNat i) l i (by omega) (fun j hj => by
        have g := rowL_get K.toNat M.toNat G.toNat i j (by omega)
        unfold rd
        rw [Int.toNat_natCast, List.getD_eq_getElem?_getD, g]
        show rowC _ _ _ i j = _
        unfold rowC
        rw [if_pos (by omega)]) (by rw [rds_at l i hi2]; exact (oneOk_all hok _ (List.getElem_mem hi2)).1)] at h
      exact h
    · refine Ev.neg (by omega) ?_
      have hrow := plant_row (i := (i : Int)) h0 (by omega) (by omega)
      rw [Int.toNat_natCast] at hrow
      refine Ev.bindS hrow (Ev.bindS (a := mixF (rdOf ByteArray.empty l 0).size (rowL K.toNat M.toNat G.toNat i) l) ?_ (Ev.pos (by rw [List.length_take]; omega) h))
      unfold impl_plant_mix.f
      rw [if_pos]
      unfold mixOk
      simp only [Bool.and_eq_true, decide_eq_true_eq, List.all_eq_true]
      exact ⟨⟨⟨by omega, by omega, by omega, by omega, by omega⟩, r2⟩, fun s hs => (oneOk_all hok s hs).1⟩
theorem impl_enc : Ev (fun k => impl_plant_encode.f k (plantNo K M G) l) (shardsOf K M G l) := by
  obtain ⟨_, e1, e2, e3⟩ := plant_of h0
  refine Ev.congr (fun k => by rw [impl_plant_encode.f]) ?_
  refine Ev.bindS (a := ((K.toNat + M.toNat + G.toNat : Nat) : Int)) (by unfold impl_plant_size.f; rw [e1, e2, e3]) ?_
  exact impl_enc_l0 h0 hK hok _ 0 rfl (by omega)
end

/-! What SplitObject makes. -/
theorem rdOf_get (l : List ByteArray) (i : Nat) (h : i < l.length) : rdOf ByteArray.empty l (i : Int) = l[i] := rds_at l i h
theorem daOf_at (d : ByteArray) (o K u i : Nat) (h : i < K) : (daOf d o K u)[i]? = some (strOfNums (daBytes d (o + i * u) u)) := by
  unfold daOf
  rw [List.getElem?_map, List.getElem?_range h]
  rfl
theorem daOf_size (d : ByteArray) (o K u : Nat) : ∀ s ∈ daOf d o K u, s.size = u := by
  intro s hs
  obtain ⟨i, _, rfl⟩ := List.mem_map.1 (show s ∈ (List.range K).map (fun i => strOfNums (daBytes d (o + i * u) u)) from hs)
  rw [size_strOfNums]
  simp [daBytes]
theorem daOf_ok (d : ByteArray) (o K u : Nat) (hK : 1 ≤ K) (hu1 : 1 ≤ u) (hu : u ≤ 4096) : oneOk (daOf d o K u) = true := by
  have hl : (daOf d o K u).length = K := by simp [daOf]
  have h0 : rdOf ByteArray.empty (daOf d o K u) 0 = (daOf d o K u)[0]'(by omega) := rdOf_get _ 0 (by omega)
  have hs := daOf_size d o K u
  unfold oneOk
  rw [List.all_eq_true]
  intro s hm
  unfold szP
  rw [h0, hs _ (List.getElem_mem _), hs s hm]
  simp
  omega
theorem shards_data {K M G : Int} {l : List ByteArray} (h0 : codeFaultOf K M G = 0) (hK : (l.length : Int) = K) (hok : oneOk l = true) (i : Nat) (hi : i < l.length) :
    (shardsOf K M G l).length = K.toNat + M.toNat + G.toNat ∧ rdOf ByteArray.empty (shardsOf K M G l) (i : Int) = rdOf ByteArray.empty l (i : Int) := by
  have hlen : (shardsOf K M G l).length = K.toNat + M.toNat + G.toNat := by simp [shardsOf]
  refine ⟨hlen, ?_⟩
  have hi2 : i < (shardsOf K M G l).length := by omega
  rw [rdOf_get _ i hi2]
  have hq : (shardsOf K M G l)[i]? = some (mixF (rdOf ByteArray.empty l 0).size (rowL K.toNat M.toNat G.toNat i) l) := by
    unfold shardsOf
    rw [List.getElem?_map, List.getElem?_range (by omega)]
    rfl
  have hg : (shardsOf K M G l)[i] = mixF (rdOf ByteArray.empty l 0).size (rowL K.toNat M.toNat G.toNat i) l := by
    have h := List.getElem?_eq_getElem hi2
    rw [hq] at h
    exact (Option.some.inj h).symm
  rw [hg]
  refine mixF_unit _ _ _ i (by rw [rowL_len]; omega) (fun j hj => ?_) ?_
  · rw [rowL_len] at hj
    unfold rd
    rw [Int.toNat_natCast, List.getD_eq_getElem?_getD, rowL_get _ _ _ _ _ hj]
    unfold rowC
    rw [if_pos (by omega)]
    rfl
  · rw [rdOf_get l i hi]
    exact (oneOk_all hok _ (List.getElem_mem hi)).1
def stripesOf (K M G u : Int) (d : ByteArray) (n : Nat) : List S86 := (List.range n).map fun t => ⟨shardsOf K M G (daOf d (t * K.toNat * u.toNat) K.toNat u.toNat)⟩
theorem stripesOf_succ (K M G u : Int) (d : ByteArray) (n : Nat) : stripesOf K M G u d (n + 1) = stripesOf K M G u d n ++ [⟨shardsOf K M G (daOf d (n * K.toNat * u.toNat) K.toNat u.toNat)⟩] := by
  unfold stripesOf
  rw [List.range_succ, List.map_append]
  rfl
theorem split_l0 (K M G u : Int) (d : ByteArray) (n : Nat) (h0 : codeFaultOf K M G = 0) (hu1 : 1 ≤ u) (hu : u ≤ 4096) (hd : d.size ≤ 100000) (hn : n ≤ 200) (hfit : ∀ i, i < n → i * K.toNat * u.toNat ≤ d.size) : ∀ (m i : Nat), n - i = m → i ≤ n →
    Ev (fun k => impl_SplitObject.l0 k d (plantNo K M G) (n : Int) (i : Int) K M G u (d.size : Int) 0 (stripesOf K M G u d i)) (0, stripesOf K M G u d n) := by
  obtain ⟨b1, b2, -, -, -, -, -⟩ := codeFault_zero h0
  have k1 : 1 ≤ K.toNat := by omega
  have k2 : ((K.toNat : Nat) : Int) = K := by omega
  have u1 : 1 ≤ u.toNat := by omega
  have u2 : u.toNat ≤ 4096 := by omega
  have d1 : d.size ≤ 9223372036854775807 := Nat.le_trans hd (by decide)
  intro m
  induction m with
  | zero =>
    intro i hd_ hi
    have e : i = n := by clear hfit; omega
    subst e
    exact Ev.step (fun k => by rw [impl_SplitObject.l0, if_neg (Int.lt_irrefl _)]) (Ev.now _)
  | succ m ih =>
    intro i hd_ hi
    have hin : i < n := by clear hfit; omega
    have hin1 : n - (i + 1) = m := by clear hfit; omega
    have i1 : i < 1000 := Nat.lt_of_lt_of_le hin (Nat.le_trans hn (by decide))
    have hw : wrap64 ((i : Int) + 1) = ((i + 1 : Nat) : Int) := by clear hfit; rw [wrap64_id (by omega) (by omega)]; rfl
    have q1 : (i : Int) < (n : Int) := Int.ofNat_lt.2 hin
    have hda : impl_cut_dataAt.f K M G u (d.size : Int) (i : Int) d = some (daOf d (i * K.toNat * u.toNat) K.toNat u.toNat) := by
      unfold impl_cut_dataAt.f
      rw [if_pos ⟨⟨b1, b2⟩, ⟨hu1, hu⟩, Int.natCast_nonneg i, d1, by rw [Int.toNat_natCast]; exact hfit i hin⟩, Int.toNat_natCast]
    have hl : ((daOf d (i * K.toNat * u.toNat) K.toNat u.toNat).length : Int) = K := by rw [show (daOf d (i * K.toNat * u.toNat) K.toNat u.toNat).length = K.toNat by simp [daOf]]; exact k2
    have henc := impl_enc h0 hl (daOf_ok d (i * K.toNat * u.toNat) K.toNat u.toNat k1 u1 u2)
    have hsl : (stripesOf K M G u d i).length < 5864062014805 := by
      rw [show (stripesOf K M G u d i).length = i by simp [stripesOf]]
      exact Nat.lt_trans i1 (by decide)
    refine Ev.step (fun k => by rw [impl_SplitObject.l0, if_pos q1, hda, Option.bind_some, hw]) (Ev.bind henc (Ev.pos hsl ?_))
    rw [← stripesOf_succ]
    exact ih (i + 1) hin1 hin
theorem split_fit (p q n size m : Nat) (hm : p * q = m) (hm1 : 1 ≤ m) (he : (n : Int) = ((size : Int) + (m : Int) - 1) / (m : Int)) (i : Nat) (hi : i < n) : i * p * q ≤ size := by
  rw [Nat.mul_assoc, hm]
  have h1 : (m : Int) * (n : Int) ≤ (size : Int) + (m : Int) - 1 := by
    rw [he]
    exact Int.mul_ediv_self_le (by omega)
  have h2 : (i + 1) * m ≤ n * m := Nat.mul_le_mul_right _ hi
  rw [Nat.succ_mul] at h2
  have h3 : (m : Int) * (n : Int) = ((n * m : Nat) : Int) := by rw [← Int.natCast_mul, Nat.mul_comm]
  rw [h3] at h1
  generalize n * m = x at h1 h2
  generalize i * m = y at h2 ⊢
  omega
theorem stripe_facts {K M G u : Int} {size : Nat} (h : ¬ stripeOf K M G u (size : Int) < 0) : codeFaultOf K M G = 0 ∧ 1 ≤ u ∧ u ≤ 4096 ∧ size ≤ 100000 ∧ ∃ n : Nat, stripeOf K M G u (size : Int) = (n : Int) ∧ n ≤ 200 ∧ ((n : Nat) : Int) = ((size : Int) + K * u - 1) / (K * u) := by
  unfold stripeOf at h ⊢
  by_cases h1 : codeFaultOf K M G = 0 ∧ 1 ≤ u ∧ u ≤ 4096 ∧ 0 ≤ (size : Int) ∧ (size : Int) ≤ 100000
  · rw [if_pos h1] at h ⊢
    by_cases h2 : ((size : Int) + K * u - 1) / (K * u) > 200
    · rw [if_pos h2] at h
      exact absurd (by decide : (-1 : Int) < 0) h
    · rw [if_neg h2] at h ⊢
      generalize hx : ((size : Int) + K * u - 1) / (K * u) = x at h h2 ⊢
      obtain ⟨n, rfl⟩ := Int.eq_ofNat_of_zero_le (Int.not_lt.1 h)
      refine ⟨h1.1, h1.2.1, h1.2.2.1, ?_, n, rfl, ?_, rfl⟩
      · have := h1.2.2.2.2
        omega
      · omega
  · rw [if_neg h1] at h
    exact absurd (by decide : (-1 : Int) < 0) h
theorem impl_split (K M G u : Int) (d : ByteArray) : Ev (fun k => impl_SplitObject.f k K M G u d) (if stripeOf K M G u (d.size : Int) < 0 then (1, []) else (0, stripesOf K M G u d (stripeOf K M G u (d.size : Int)).toNat)) := by
  refine Ev.congr (fun k => by rw [impl_SplitObject.f]) (Ev.bind (impl_stripeCount K M G u (d.size : Int)) ?_)
  by_cases h : stripeOf K M G u (d.size : Int) < 0
  · rw [if_pos h]; exact Ev.pos h (Ev.now _)
  · rw [if_neg h]
    refine Ev.neg h ?_
    obtain ⟨h0, hu1, hu, hd, n, hn_, hn, he⟩ := stripe_facts h
    obtain ⟨b1, b2, -, -, -, -, -⟩ := codeFault_zero h0
    obtain ⟨hb1, -⟩ := mul_bounds b1 b2 hu1 hu
    refine Ev.bindS (plant_of h0).1 ?_
    rw [hn_, Int.toNat_natCast]
    have hfit : ∀ i, i < n → i * K.toNat * u.toNat ≤ d.size := by
      obtain ⟨p, rfl⟩ := Int.eq_ofNat_of_zero_le (Int.le_trans (by decide) b1)
      obtain ⟨q, rfl⟩ := Int.eq_ofNat_of_zero_le (Int.le_trans (by decide) hu1)
      rw [← Int.natCast_mul] at he hb1
      exact fun i hi => split_fit p q n d.size (p * q) rfl (by exact_mod_cast hb1) he i hi
    exact split_l0 K M G u d n h0 hu1 hu hd hn hfit n 0 rfl (Nat.zero_le _)

theorem stripe_good {K M G unit size : Int} (h : ¬ stripeOf K M G unit size < 0) : codeFaultOf K M G = 0 ∧ 1 ≤ unit ∧ unit ≤ 4096 ∧ 0 ≤ size ∧ size ≤ 100000 := by
  unfold stripeOf at h
  split at h
  · assumption
  · omega
/-- What RangeReads answers. -/
def rangesOf (K M G u size f c : Int) : Int × List S84 := if stripeOf K M G u size < 0 ∨ f < 0 ∨ c < 0 then (1, []) else (0, rrAll (K * u) u size f c)
theorem impl_ranges (K M G u size f c : Int) : Ev (fun k => impl_RangeReads.f k K M G u size f c) (rangesOf K M G u size f c) := by
  refine Ev.congr (fun k => by rw [impl_RangeReads.f]) ?_
  refine Ev.bind (impl_stripeCount K M G u size) ?_
  unfold rangesOf
  by_cases h1 : stripeOf K M G u size < 0
  · rw [if_pos (Or.inl h1)]; exact Ev.pos h1 (Ev.now _)
  · refine Ev.neg h1 ?_
    by_cases h2 : f < 0
    · rw [if_pos (Or.inr (Or.inl h2))]; exact Ev.pos h2 (Ev.now _)
    · refine Ev.neg h2 ?_
      by_cases h3 : c < 0
      · rw [if_pos (Or.inr (Or.inr h3))]; exact Ev.pos h3 (Ev.now _)
      · refine Ev.neg h3 ?_
        rw [if_neg (show ¬ (stripeOf K M G u size < 0 ∨ f < 0 ∨ c < 0) by omega)]
        obtain ⟨h0, h4, h5, h6, h7⟩ := stripe_good h1
        obtain ⟨k1, k2, -, -, -, -, -⟩ := codeFault_zero h0
        have hb := mul_bounds k1 k2 h4 h5
        have hw : wrap64 (K * u) = K * u := wrap64_id (by omega) (by omega)
        rw [hw]
        exact Ev.pos (by omega) (Ev.now _)

/-! The bytes of a piece of a range are the data's. -/
theorem ba_of_bt {a b : ByteArray} (hs : a.size = b.size) (h : ∀ t : Nat, t < b.size → bt a (t : Int) = bt b (t : Int)) : a = b := by
  have h1 := strOf_bytes a ((List.range b.size).map fun t : Nat => bt b (t : Int)) (by simp [hs]) (fun t ht => by
    rw [List.getElem?_map, List.getElem?_range (by omega)]
    show some (bt b (t : Int)) = _
    rw [h t (by omega)])
  have h2 := strOf_bytes b ((List.range b.size).map fun t : Nat => bt b (t : Int)) (by simp) (fun t ht => by
    rw [List.getElem?_map, List.getElem?_range (by omega)]
    rfl)
  rw [← h1, h2]
theorem bt_extract (d : ByteArray) (i j t : Nat) (hj : j ≤ d.size) (ht : i + t < j) : bt (d.extract i j) (t : Int) = bt d ((i + t : Nat) : Int) := by
  unfold bt
  rw [dif_pos (by simp; omega), dif_pos (by simp; omega)]
  simp [ByteArray.getElem_eq_getElem_data, ByteArray.data_extract, show ((i : Int) + (t : Int)).toNat = i + t by omega]
theorem bt_strOf (l : List Int) (t : Nat) (ht : t < l.length) (hb : 0 ≤ l[t] ∧ l[t] < 256) : bt (strOfNums l) (t : Int) = l[t] := by
  unfold bt strOfNums
  rw [dif_pos (by show t < (List.map (fun n : Int => UInt8.ofNat n.toNat) l).toArray.size; simpa using ht)]
  simp [ByteArray.getElem_eq_getElem_data]
  omega
theorem da_piece (d : ByteArray) (o u p c : Nat) (hpc : p + c ≤ u) (hd : o + p + c ≤ d.size) : (strOfNums (daBytes d o u)).extract p (p + c) = d.extract (o + p) (o + p + c) := by
  have hl : (daBytes d o u).length = u := daBytes_len d o u
  have hs : (strOfNums (daBytes d o u)).size = u := by rw [size_strOfNums, hl]
  refine ba_of_bt (by simp [hs]; omega) (fun t ht => ?_)
  have ht' : t < c := by simp at ht; omega
  rw [bt_extract _ _ _ _ (by omega) (by omega), bt_extract _ _ _ _ (by omega) (by omega)]
  have hg : (daBytes d o u)[p + t]'(by omega) = bt d ((o + (p + t) : Nat) : Int) := by
    have h := daBytes_get d o u (p + t) (by omega)
    rw [List.getD_eq_getElem?_getD, List.getElem?_eq_getElem (by omega), Option.getD_some, if_pos (by omega)] at h
    exact h
  rw [bt_strOf _ _ (by omega) (by rw [hg]; exact bt_bd _ _), hg, Nat.add_assoc]
theorem piece_at (x K u : Nat) : x / (K * u) * K * u + x % (K * u) / u * u + x % (K * u) % u = x := by
  have h1 := Nat.div_add_mod x (K * u)
  have h2 := Nat.div_add_mod (x % (K * u)) u
  rw [Nat.mul_comm] at h2
  rw [Nat.mul_assoc, Nat.add_assoc, h2, Nat.mul_comm]
  exact h1
theorem extract_app (d : ByteArray) (a b c : Nat) (h1 : a ≤ b) (h2 : b ≤ c) (h3 : c ≤ d.size) : d.extract a b ++ d.extract b c = d.extract a c := by
  apply ByteArray.ext
  rw [ByteArray.data_append, ByteArray.data_extract, ByteArray.data_extract, ByteArray.data_extract, Array.extract_append_extract, Nat.min_eq_left h1, Nat.max_eq_right h2]

/-! The law: the pieces of a drawn object's range, one behind the other, are the range. -/
theorem rng_j4 (d : ByteArray) (f c : Nat) (hd : d.size ≤ 100000) (hc : c < 256) (hf : f ≤ d.size) :
    Ev (fun k => laws_FnRanges.j4 k d (d.size : Int) (f : Int) (c : Int) (d.extract f (min (f + c) d.size))) true := by
  have hw : wrap64 ((f : Int) + (c : Int)) = ((f + c : Nat) : Int) := by rw [wrap64_id (by omega) (by omega)]; rfl
  refine Ev.step (fun k => by rw [laws_FnRanges.j4, hw]) ?_
  by_cases h : f + c > d.size
  · refine Ev.pos (by omega) (Ev.pos (by omega) (Ev.pos (by omega) (Ev.pos (by omega) (Ev.give ?_))))
    rw [Int.toNat_natCast, Int.toNat_natCast, Nat.min_eq_right (by omega)]
    simp
  · refine Ev.neg (by omega) (Ev.pos (by omega) (Ev.pos (by omega) (Ev.pos (by omega) (Ev.give ?_))))
    rw [Int.toNat_natCast, Int.toNat_natCast, Nat.min_eq_left (by omega)]
    simp
theorem rng_item (P u e x : Nat) (hx : x < e) (hu : x % P % u < u) : rrItem (P : Int) (u : Int) (e : Int) (x : Int) = ⟨((x / P : Nat) : Int), ((x % P / u : Nat) : Int), ((x % P % u : Nat) : Int), ((min (e - x) (u - x % P % u) : Nat) : Int)⟩ ∧ rrCount (P : Int) (u : Int) (e : Int) (x : Int) = ((min (e - x) (u - x % P % u) : Nat) : Int) := by
  have h2 : rrCount (P : Int) (u : Int) (e : Int) (x : Int) = ((min (e - x) (u - x % P % u) : Nat) : Int) := by
    unfold rrCount
    rw [show (x : Int) % (P : Int) % (u : Int) = ((x % P % u : Nat) : Int) from rfl]
    generalize x % P % u = q at hu ⊢
    split <;> omega
  refine ⟨?_, h2⟩
  unfold rrItem
  rw [h2]
  rfl
theorem rng_rd (pre rest : List S84) (v : S84) : rd_T84 (pre ++ v :: rest) (pre.length : Int) = v := by
  unfold rd_T84
  rw [Int.toNat_natCast, List.getD_eq_getElem?_getD, List.getElem?_append_right (Nat.le_refl _)]
  simp
theorem rng_stripe (K M G u : Int) (d : ByteArray) (n t : Nat) (h : t < n) : (rd_T86 (stripesOf K M G u d n) (t : Int)).f0 = shardsOf K M G (daOf d (t * K.toNat * u.toNat) K.toNat u.toNat) := by
  unfold rd_T86 stripesOf
  rw [Int.toNat_natCast, List.getD_eq_getElem?_getD, List.getElem?_map, List.getElem?_range h]
  rfl
theorem rng_round (u size f c K M G : Int) (d got : ByteArray) (L : List S86) (P : List S84) (i t s p q : Nat) (sh : List ByteArray) (b : ByteArray) (r : Bool)
    (hi : i < P.length) (hi2 : i < 1000000) (hr : rd_T84 P (i : Int) = ⟨(t : Int), (s : Int), (p : Int), (q : Int)⟩) (ht : t < L.length) (hsh : (rd_T86 L (t : Int)).f0 = sh) (hs : (s : Int) < K) (hl : K ≤ (sh.length : Int))
    (hb : rdOf ByteArray.empty sh (s : Int) = b) (hq : 1 ≤ q) (hpq : ((p + q : Nat) : Int) ≤ u) (hbs : (b.size : Int) = u) (hu : u ≤ 4096) (hg : got.size ≤ 1000000)
    (h : Ev (fun k => laws_FnRanges.l0 k u d size f c (got ++ b.extract p (p + q)) ((i + 1 : Nat) : Int) K M G 0 L 0 P) r) : Ev (fun k => laws_FnRanges.l0 k u d size f c got (i : Int) K M G 0 L 0 P) r := by
  have hex : (b.extract p (p + q)).size = q := by simp; omega
  have c1 : (i : Int) < (P.length : Int) := by omega
  have c2 : (0 : Int) ≤ (i : Int) := by omega
  have c3 : ¬ ((t : Int) < 0) := by omega
  have c4 : ¬ ((t : Int) ≥ (L.length : Int)) := by omega
  have c5 : ¬ ((s : Int) < 0) := by omega
  have c6 : ¬ ((s : Int) ≥ K) := by omega
  have c7 : ¬ ((p : Int) < 0) := by omega
  have c8 : ¬ ((q : Int) < 1) := by omega
  have c9 : ¬ (((p + q : Nat) : Int) > u) := by omega
  have c10 : (0 : Int) ≤ (t : Int) := by omega
  have c11 : (t : Int) < (L.length : Int) := by omega
  have c12 : decide ((sh.length : Int) < K) = false := decide_eq_false (by omega)
  have c13 : (0 : Int) ≤ (s : Int) := by omega
  have c14 : (s : Int) < (sh.length : Int) := by omega
  have c15 : (0 : Int) ≤ (p : Int) := by omega
  have c16 : (p : Int) ≤ ((p + q : Nat) : Int) := by omega
  have c17 : ((p + q : Nat) : Int) ≤ (b.size : Int) := by omega
  have c18 : got.size + (b.extract p (p + q)).size ≤ 9223372036854775807 := by omega
  have w1 : wrap64 ((p : Int) + (q : Int)) = ((p + q : Nat) : Int) := by rw [wrap64_id (by omega) (by omega)]; rfl
  have w2 : wrap64 ((i : Int) + 1) = ((i + 1 : Nat) : Int) := by clear w1; rw [wrap64_id (by omega) (by omega)]; rfl
  refine Ev.step (fun k => by rw [laws_FnRanges.l0]) ?_
  refine Ev.pos c1 (Ev.pos c2 ?_)
  rw [hr]
  dsimp only
  refine Ev.neg c3 (Ev.neg c4 (Ev.neg c5 (Ev.neg c6 (Ev.neg c7 (Ev.neg c8 ?_)))))
  rw [w1]
  refine Ev.neg c9 (Ev.pos c10 (Ev.pos c11 ?_))
  rw [hsh, c12]
  refine Ev.step (fun k => by rw [laws_FnRanges.j3]) ?_
  refine Ev.neg (by decide) (Ev.pos c10 (Ev.pos c11 (Ev.pos c13 ?_)))
  rw [hsh, hb, w1, w2, Int.toNat_natCast, Int.toNat_natCast]
  exact Ev.pos c14 (Ev.pos c15 (Ev.pos c16 (Ev.pos c17 (Ev.pos c18 h))))
section
variable (K u M G : Nat) (d : ByteArray) (n f c : Nat) (h0 : codeFaultOf (K : Int) (M : Int) (G : Int) = 0) (hu1 : 1 ≤ u) (hu : u ≤ 4096) (hd : d.size ≤ 100000) (hn : n ≤ 200) (hfit : d.size ≤ n * (K * u)) (hc : c < 256) (hf : f ≤ d.size)
include h0 hu1 hu hd hn hfit hc hf
theorem rng_l0 : ∀ (m x : Nat) (pre : List S84), min (f + c) d.size - x ≤ m → f ≤ x → x ≤ min (f + c) d.size → pre.length + (min (f + c) d.size - x) ≤ 100000 →
    Ev (fun k => laws_FnRanges.l0 k (u : Int) d (d.size : Int) (f : Int) (c : Int) (d.extract f x) (pre.length : Int) (K : Int) (M : Int) (G : Int) 0 (stripesOf (K : Int) (M : Int) (G : Int) (u : Int) d n) 0 (pre ++ rrL ((K * u : Nat) : Int) (u : Int) ((min (f + c) d.size : Nat) : Int) m (x : Int))) true := by
  obtain ⟨b1, b2, -, -, -, -, -⟩ := codeFault_zero h0
  have hP : 1 ≤ K * u := Nat.mul_le_mul (show 1 ≤ K by omega) hu1
  obtain ⟨e, he⟩ : ∃ e, min (f + c) d.size = e := ⟨_, rfl⟩
  have hes : e ≤ d.size := by omega
  have last : ∀ pre : List S84, Ev (fun k => laws_FnRanges.l0 k (u : Int) d (d.size : Int) (f : Int) (c : Int) (d.extract f e) (pre.length : Int) (K : Int) (M : Int) (G : Int) 0 (stripesOf (K : Int) (M : Int) (G : Int) (u : Int) d n) 0 pre) true := by
    intro pre
    refine Ev.step (fun k => by rw [laws_FnRanges.l0, if_neg (Int.lt_irrefl _), if_neg (show ¬ ((f : Int) > (d.size : Int)) by omega)]) ?_
    rw [← he]
    exact rng_j4 d f c hd hc hf
  intro m
  rw [he]
  induction m with
  | zero =>
    intro x pre hm hfx hx hl
    have e1 : x = e := by omega
    subst e1
    rw [rrL_end (by omega), List.append_nil]
    exact last pre
  | succ m ih =>
    intro x pre hm hfx hx hl
    by_cases hxe : x < e
    · obtain ⟨p, hp⟩ : ∃ p, x % (K * u) % u = p := ⟨_, rfl⟩
      obtain ⟨s, hs⟩ : ∃ s, x % (K * u) / u = s := ⟨_, rfl⟩
      obtain ⟨t, ht⟩ : ∃ t, x / (K * u) = t := ⟨_, rfl⟩
      have hpu : p < u := by rw [← hp]; exact Nat.mod_lt _ hu1
      have hsK : s < K := by
        rw [← hs]
        exact Nat.div_lt_of_lt_mul (by rw [Nat.mul_comm u K]; exact Nat.mod_lt _ hP)
      have htn : t < n := by
        rw [← ht]
        exact Nat.div_lt_of_lt_mul (by rw [Nat.mul_comm (K * u) n]; exact Nat.lt_of_lt_of_le hxe (Nat.le_trans hes hfit))
      obtain ⟨q, hq⟩ : ∃ q, min (e - x) (u - p) = q := ⟨_, rfl⟩
      have hq1 : 1 ≤ q := by omega
      have hq2 : x + q ≤ e := by omega
      have hq3 : p + q ≤ u := by omega
      obtain ⟨i1, i2⟩ := rng_item (K * u) u e x hxe (by rw [hp]; exact hpu)
      rw [hp, hq] at i1 i2
      rw [hs, ht] at i1
      have hat := piece_at x K u
      rw [hp, hs, ht] at hat
      rw [rrL, if_pos (by omega), i1, i2]
      have hsh := rng_stripe (K : Int) (M : Int) (G : Int) (u : Int) d n t htn
      rw [Int.toNat_natCast, Int.toNat_natCast] at hsh
      obtain ⟨o, ho⟩ : ∃ o, t * K * u = o := ⟨_, rfl⟩
      rw [ho] at hat hsh
      have hok := daOf_ok d o K u (by omega) hu1 hu
      have hlK : ((daOf d o K u).length : Int) = (K : Int) := by rw [daOf_len]
      obtain ⟨g1, g2⟩ := shards_data h0 hlK hok s (by rw [daOf_len]; exact hsK)
      have g3 : rdOf ByteArray.empty (daOf d o K u) (s : Int) = strOfNums (daBytes d (o + s * u) u) := by
        rw [rds_at _ s (by rw [daOf_len]; exact hsK)]
        exact Option.some.inj ((List.getElem?_eq_getElem _).symm.trans (daOf_at d o K u s hsK))
      have g4 : (strOfNums (daBytes d (o + s * u) u)).size = u := by rw [size_strOfNums, daBytes_len]
      have g5 : (strOfNums (daBytes d (o + s * u) u)).extract p (p + q) = d.extract x (x + q) := by
        have := da_piece d (o + s * u) u p q hq3 (by omega)
        rw [this, hat]
      have hnl : (stripesOf (K : Int) (M : Int) (G : Int) (u : Int) d n).length = n := by simp [stripesOf]
      have hpl : pre.length < 100000 := by clear hat hfit; omega
      have hp1 : (pre ++ [(⟨(t : Int), (s : Int), (p : Int), (q : Int)⟩ : S84)]).length = pre.length + 1 := by simp
      have hn := ih (x + q) (pre ++ [⟨(t : Int), (s : Int), (p : Int), (q : Int)⟩]) (by clear hat hfit; omega) (by clear hat hfit; omega) hq2 (by rw [hp1]; clear hat hfit; omega)
      rw [List.append_assoc, hp1, show ((x + q : Nat) : Int) = (x : Int) + (q : Int) from rfl] at hn
      refine rng_round (u : Int) (d.size : Int) (f : Int) (c : Int) (K : Int) (M : Int) (G : Int) d (d.extract f x) _ _ pre.length t s p q _ _ true (by rw [List.length_append, List.length_cons]; exact Nat.lt_add_of_pos_right (Nat.succ_pos _)) (Nat.lt_trans hpl (by decide)) (rng_rd pre _ _) (by rw [hnl]; exact htn) hsh (Int.ofNat_lt.2 hsK) (by rw [g1]; clear hat hfit; omega) (g2.trans g3) hq1 (Int.ofNat_le.2 hq3) (by rw [g4]) (by clear hat hfit; omega) (by simp; clear hat hfit; omega) ?_
      rw [g5, extract_app d f x (x + q) hfx (Nat.le_add_right _ _) (Nat.le_trans hq2 hes)]
      exact hn
    · have e1 : x = e := by omega
      subst e1
      rw [rrL_end (by omega), List.append_nil]
      exact last pre
end
theorem FnRanges : laws_FnRanges.Pure := by
  intro l0 l1 h1 h2 h3 h4 h5 h6
  show ∃ k, laws_FnRanges.f k l0 l1 = some true
  suffices hE : Ev (fun k => laws_FnRanges.f k l0 l1) true by
    obtain ⟨k, hk⟩ := hE
    exact ⟨k, hk k (Nat.le_refl _)⟩
  by_cases hl0 : (l0.length : Int) > 1048576
  · exact Ev.congr (fun k => by rw [laws_FnRanges.f, if_pos hl0]) (Ev.step (fun k => by rw [laws_FnRanges.j0, if_pos rfl]) (Ev.now _))
  by_cases hl1 : (l1.length : Int) > 1048576
  · exact Ev.congr (fun k => by rw [laws_FnRanges.f, if_neg hl0, decide_eq_true hl1]) (Ev.step (fun k => by rw [laws_FnRanges.j0, if_pos rfl]) (Ev.now _))
  refine Ev.congr (fun k => by rw [laws_FnRanges.f, if_neg hl0, decide_eq_false hl1]) (Ev.step (fun k => by rw [laws_FnRanges.j0, if_neg (by decide)]) ?_)
  obtain ⟨K, M, G, u, d, hD, hd⟩ := drawSplit l0 h3 (by omega)
  refine Ev.bind hD (Ev.bind (impl_split K M G u d) (Ev.bind (spec_stripeCount K M G u (d.size : Int)) ?_))
  by_cases hs : stripeOf K M G u (d.size : Int) < 0
  · rw [if_pos hs]
    exact Ev.pos hs (Ev.give rfl)
  rw [if_neg hs]
  obtain ⟨h0, hu1, hu, hd2, n, hn_, hn, he⟩ := stripe_facts hs
  rw [hn_, Int.toNat_natCast]
  obtain ⟨b1, b2, b3, b4, b5, b6, b7⟩ := codeFault_zero h0
  have a0 := lwAt l1 h6 0 (by omega)
  have a1 := lwAt l1 h6 1 (by omega)
  have r0 := lwAtN_lt l1 h6 0
  have r1 := lwAtN_lt l1 h6 1
  obtain ⟨c, hc⟩ : ∃ c, lwAtN l1 1 = c := ⟨_, rfl⟩
  obtain ⟨f, hf⟩ : ∃ f, lwAtN l1 0 % (d.size + 3) = f := ⟨_, rfl⟩
  have hfl : f < d.size + 3 := by rw [← hf]; exact Nat.mod_lt _ (by omega)
  have q1 : ¬ ((n : Int) < 0) := by omega
  have q2 : ¬ (((d.size + 3 : Nat) : Int) = 0) := by omega
  have hw3 : wrap64 ((d.size : Int) + 3) = ((d.size + 3 : Nat) : Int) := by rw [wrap64_id (by omega) (by omega)]; rfl
  have hmod : Int.tmod ((lwAtN l1 0 : Nat) : Int) ((d.size + 3 : Nat) : Int) = (f : Int) := by rw [Int.tmod_eq_emod_of_nonneg (by omega), ← hf]; rfl
  rw [hc] at a1 r1
  have a0' : laws_lwAt.f l1 0 = some ((lwAtN l1 0 : Nat) : Int) := a0
  have a1' : laws_lwAt.f l1 1 = some (c : Int) := a1
  dsimp only
  refine Ev.neg q1 (Ev.bindS a0' ?_)
  rw [hw3, hmod]
  clear hw3 hmod
  refine Ev.neg q2 (Ev.bindS a1' ?_)
  clear a0 a0' a1 a1'
  obtain ⟨hb1, hb2⟩ := mul_bounds b1 b2 hu1 hu
  refine Ev.bind (impl_ranges K M G u (d.size : Int) (f : Int) (c : Int)) ?_
  have hrg : rangesOf K M G u (d.size : Int) (f : Int) (c : Int) = (0, rrAll (K * u) u (d.size : Int) (f : Int) (c : Int)) := by
    unfold rangesOf
    rw [if_neg]
    omega
  rw [hrg]
  refine Ev.pos rfl (Ev.step (fun k => by rw [laws_FnRanges.j1, if_neg (show ¬ (((0 : Int) != 0) = true) by decide)]) ?_)
  obtain ⟨K, rfl⟩ := Int.eq_ofNat_of_zero_le (show 0 ≤ K by omega)
  obtain ⟨M, rfl⟩ := Int.eq_ofNat_of_zero_le b3
  obtain ⟨G, rfl⟩ := Int.eq_ofNat_of_zero_le b5
  obtain ⟨u, rfl⟩ := Int.eq_ofNat_of_zero_le (show 0 ≤ u by omega)
  have hfit : d.size ≤ n * (K * u) := by
    rw [← Int.natCast_mul] at he hb1
    obtain ⟨P, hP⟩ : ∃ P, K * u = P := ⟨_, rfl⟩
    rw [hP] at he hb1 ⊢
    have h1 : (d.size : Int) + (P : Int) - 1 < (P : Int) * ((((d.size : Int) + (P : Int) - 1) / (P : Int)) + 1) := by
      rw [Int.mul_add, Int.mul_one]
      exact Int.lt_mul_ediv_self_add (by omega)
    rw [← he, Int.mul_add, Int.mul_one, ← Int.natCast_mul, Nat.mul_comm] at h1
    generalize n * P = z at h1 ⊢
    omega
  by_cases hfs : f < d.size
  · have hall : rrAll ((K : Int) * (u : Int)) (u : Int) (d.size : Int) (f : Int) (c : Int) = rrL ((K * u : Nat) : Int) (u : Int) ((min (f + c) d.size : Nat) : Int) (min (f + c) d.size - f) (f : Int) := by
      unfold rrAll
      have e1 : rrEnd (d.size : Int) (f : Int) (c : Int) = ((min (f + c) d.size : Nat) : Int) := by unfold rrEnd; split <;> omega
      rw [if_pos (by omega), e1, ← Int.natCast_mul]
      congr 1
      omega
    rw [hall]
    have h := rng_l0 K u M G d n f c h0 (by omega) (by omega) (by omega) hn hfit r1 (by omega) (min (f + c) d.size - f) f [] (Nat.le_refl _) (Nat.le_refl _) (by omega) (by simp; omega)
    have e0 : d.extract f f = (⟨#[]⟩ : ByteArray) := by apply ByteArray.ext; simp
    rw [e0] at h
    exact h
  · have hall : rrAll ((K : Int) * (u : Int)) (u : Int) (d.size : Int) (f : Int) (c : Int) = [] := by
      unfold rrAll
      rw [if_neg (by omega)]
    rw [hall]
    refine Ev.step (fun k => by rw [laws_FnRanges.l0, if_neg (by simp)]) ?_
    have h := rng_j4 d d.size c hd2 r1 (Nat.le_refl _)
    have e0 : d.extract d.size (min (d.size + c) d.size) = (⟨#[]⟩ : ByteArray) := by apply ByteArray.ext; simp
    rw [e0] at h
    by_cases hg : (f : Int) > (d.size : Int)
    · exact Ev.pos hg h
    · have e2 : f = d.size := by omega
      subst e2
      exact Ev.neg hg h

end Go.Proofs.Ytcpmlelejlmpdaa.Pure
