/- The statement FnExactSplitObject over numbers and lists alone: the program's SplitObject and the reference's make the same stripes, and what is made is of its own memory. No condition. -/
import Derived.Test.YtcpmlelejlmpdaaQFnExactSplitObjectx11
import Derived.Laws.BitsAllLaws
import Derived.Laws.Bits64
import Derived.Test.YtcpmlelejlmpdaaGoodFnExactSplitObject
set_option linter.all false
namespace Go.Proofs.Ytcpmlelejlmpdaa.Pure
open Go.RowKit Go.Proofs.Ytcpmlelejlmpdaa.QFnExactSplitObject Go.Proofs.YtcpmlelejlmpdaaW.PrintWords Go.Proofs.YtcpmlelejlmpdaaW.PrintLast Go.Proofs.YtcpmlelejlmpdaaW.PrintMore

/-! Small lemmas on wraps, rounds and lists. -/
theorem wrap64_id {x : Int} (h0 : -9223372036854775808 ≤ x) (h1 : x < 9223372036854775808) : wrap64 x = x := by unfold wrap64; omega
theorem u64_id {x : Int} (h0 : 0 ≤ x) (h1 : x < 18446744073709551616) : IntKind.u64.wrap x = x := by rw [IntKind.wrap_u64]; omega
theorem Ev.pos {α : Type} {c : Prop} [Decidable c] {f g : Nat → Option α} {r : α} (h : c) (e : Ev f r) : Ev (fun k => if c then f k else g k) r := by simpa [h] using e
theorem Ev.neg {α : Type} {c : Prop} [Decidable c] {f g : Nat → Option α} {r : α} (h : ¬ c) (e : Ev g r) : Ev (fun k => if c then f k else g k) r := by simpa [h] using e
theorem Ev.bindS {α β : Type} {g : Option α} {f : Nat → α → Option β} {a : α} {r : β} (h : g = some a) (e : Ev (fun k => f k a) r) : Ev (fun k => g.bind (f k)) r := by subst h; simpa using e
theorem Ev.give {α : Type} {r s : α} (h : s = r) : Ev (fun _ => some s) r := by subst h; exact Ev.now _
theorem bt_drop (s : ByteArray) (i : Nat) (h : i < s.size) : ∃ c : UInt8, s.data.toList.drop i = c :: s.data.toList.drop (i + 1) ∧ bt s (i : Int) = (c.toNat : Int) := by
  have hl : i < s.data.toList.length := by simpa using h
  refine ⟨s.data.toList[i], List.drop_eq_getElem_cons hl, ?_⟩
  unfold bt
  rw [dif_pos (by simpa using h)]
  simp [ByteArray.getElem_eq_getElem_data]
theorem drop_end (s : ByteArray) (i : Nat) (h : s.size ≤ i) : s.data.toList.drop i = [] := List.drop_eq_nil_of_le (by simpa using h)
theorem size_strOfNums (l : List Int) : (strOfNums l).size = l.length := by
  show (strOfNums l).data.size = l.length
  simp [strOfNums]
theorem i64_range {n : Int} (h : (Lit.int .i64 n).wf = true) : -9223372036854775808 ≤ n ∧ n < 9223372036854775808 := by
  simp only [Lit.wf, IntKind.min, IntKind.max, IntKind.signed, IntKind.bits, Bool.and_eq_true, decide_eq_true_eq, if_true] at h; omega
theorem byte_eq_int (c d : UInt8) : ((c.toNat : Int) = (d.toNat : Int)) ↔ c = d := by
  constructor
  · intro h; exact UInt8.toNat_inj.1 (by omega)
  · rintro rfl; rfl
theorem byte_eq_lit (c : UInt8) (n : Nat) (hn : n < 256) : ((c.toNat : Int) = (n : Int)) ↔ c = UInt8.ofNat n := by
  rw [← byte_eq_int]
  have : (UInt8.ofNat n).toNat = n := by simp [UInt8.toNat_ofNat']; omega
  rw [this]
theorem bt_get (s : ByteArray) (i : Nat) (h : i < s.size) : ∃ c : UInt8, s.data.toList[i]? = some c ∧ bt s (i : Int) = (c.toNat : Int) := by
  obtain ⟨c, e, hb⟩ := bt_drop s i h
  refine ⟨c, ?_, hb⟩
  have : (s.data.toList.drop i)[0]? = some c := by rw [e]; rfl
  simpa using this

/-! Go's bits at numbers from 0 on. -/
theorem bits_xor_i64 (a b : Nat) (ha : a < 9223372036854775808) (hb : b < 9223372036854775808) : Go.bits .xor .i64 (a : Int) (b : Int) = ((a ^^^ b : Nat) : Int) := by
  have hx : a ^^^ b < 2 ^ 63 := Nat.xor_lt_two_pow (by simpa using ha) (by simpa using hb)
  show IntKind.i64.wrap (((BitVec.ofInt 64 (a : Int)) ^^^ (BitVec.ofInt 64 (b : Int))).toNat : Int) = _
  rw [BitVec.toNat_xor, BitVec.ofInt_natCast, BitVec.ofInt_natCast, BitVec.toNat_ofNat, BitVec.toNat_ofNat, Nat.mod_eq_of_lt (by omega : a < 2 ^ 64), Nat.mod_eq_of_lt (by omega : b < 2 ^ 64), IntKind.wrap_i64]
  omega
theorem bits_and_i64 (a b : Nat) (ha : a < 9223372036854775808) (hb : b < 9223372036854775808) : Go.bits .and .i64 (a : Int) (b : Int) = ((a &&& b : Nat) : Int) := by
  have hx : a &&& b < 2 ^ 63 := Nat.and_lt_two_pow _ (by simpa using hb)
  show IntKind.i64.wrap (((BitVec.ofInt 64 (a : Int)) &&& (BitVec.ofInt 64 (b : Int))).toNat : Int) = _
  rw [BitVec.toNat_and, BitVec.ofInt_natCast, BitVec.ofInt_natCast, BitVec.toNat_ofNat, BitVec.toNat_ofNat, Nat.mod_eq_of_lt (by omega : a < 2 ^ 64), Nat.mod_eq_of_lt (by omega : b < 2 ^ 64), IntKind.wrap_i64]
  omega
theorem bits_xor_u8 (a b : Nat) (ha : a < 256) (hb : b < 256) : Go.bits .xor .u8 (a : Int) (b : Int) = ((a ^^^ b : Nat) : Int) := by
  have hx : a ^^^ b < 2 ^ 8 := Nat.xor_lt_two_pow (by simpa using ha) (by simpa using hb)
  show IntKind.u8.wrap (((BitVec.ofInt 8 (a : Int)) ^^^ (BitVec.ofInt 8 (b : Int))).toNat : Int) = _
  rw [BitVec.toNat_xor, BitVec.ofInt_natCast, BitVec.ofInt_natCast, BitVec.toNat_ofNat, BitVec.toNat_ofNat, Nat.mod_eq_of_lt (by omega : a < 2 ^ 8), Nat.mod_eq_of_lt (by omega : b < 2 ^ 8), IntKind.wrap_u8]
  omega
theorem bits_and_u8 (a b : Nat) (ha : a < 256) (hb : b < 256) : Go.bits .and .u8 (a : Int) (b : Int) = ((a &&& b : Nat) : Int) := by
  have hx : a &&& b < 2 ^ 8 := Nat.and_lt_two_pow _ (by simpa using hb)
  show IntKind.u8.wrap (((BitVec.ofInt 8 (a : Int)) &&& (BitVec.ofInt 8 (b : Int))).toNat : Int) = _
  rw [BitVec.toNat_and, BitVec.ofInt_natCast, BitVec.ofInt_natCast, BitVec.toNat_ofNat, BitVec.toNat_ofNat, Nat.mod_eq_of_lt (by omega : a < 2 ^ 8), Nat.mod_eq_of_lt (by omega : b < 2 ^ 8), IntKind.wrap_u8]
  omega
theorem bits_xor_u16 (a b : Nat) (ha : a < 65536) (hb : b < 65536) : Go.bits .xor .u16 (a : Int) (b : Int) = ((a ^^^ b : Nat) : Int) := by
  have hx : a ^^^ b < 2 ^ 16 := Nat.xor_lt_two_pow (by simpa using ha) (by simpa using hb)
  show IntKind.u16.wrap (((BitVec.ofInt 16 (a : Int)) ^^^ (BitVec.ofInt 16 (b : Int))).toNat : Int) = _
  rw [BitVec.toNat_xor, BitVec.ofInt_natCast, BitVec.ofInt_natCast, BitVec.toNat_ofNat, BitVec.toNat_ofNat, Nat.mod_eq_of_lt (by omega : a < 2 ^ 16), Nat.mod_eq_of_lt (by omega : b < 2 ^ 16), IntKind.wrap_u16]
  omega
theorem bits_and_u16 (a b : Nat) (ha : a < 65536) (hb : b < 65536) : Go.bits .and .u16 (a : Int) (b : Int) = ((a &&& b : Nat) : Int) := by
  have hx : a &&& b < 2 ^ 16 := Nat.and_lt_two_pow _ (by simpa using hb)
  show IntKind.u16.wrap (((BitVec.ofInt 16 (a : Int)) &&& (BitVec.ofInt 16 (b : Int))).toNat : Int) = _
  rw [BitVec.toNat_and, BitVec.ofInt_natCast, BitVec.ofInt_natCast, BitVec.toNat_ofNat, BitVec.toNat_ofNat, Nat.mod_eq_of_lt (by omega : a < 2 ^ 16), Nat.mod_eq_of_lt (by omega : b < 2 ^ 16), IntKind.wrap_u16]
  omega
theorem and_top (w a : Nat) (h : a < 2 ^ (w + 1)) : a &&& 2 ^ w = 0 ↔ a < 2 ^ w := by
  have hp : 0 < 2 ^ w := Nat.two_pow_pos w
  have ht : a.testBit w = decide (2 ^ w ≤ a) := by
    rw [Nat.testBit_eq_decide_div_mod_eq]
    have h2 : a / 2 ^ w < 2 := Nat.div_lt_of_lt_mul (by rw [Nat.pow_succ] at h; exact h)
    by_cases hc : 2 ^ w ≤ a
    · have : 1 ≤ a / 2 ^ w := (Nat.le_div_iff_mul_le hp).2 (by omega)
      have e : a / 2 ^ w = 1 := by omega
      simp [e, hc]
    · have e : a / 2 ^ w = 0 := Nat.div_eq_of_lt (by omega)
      simp [e, hc]
  constructor
  · intro h0
    have hb : (a &&& 2 ^ w).testBit w = false := by rw [h0]; simp
    rw [Nat.testBit_and, Nat.testBit_two_pow_self, Bool.and_true, ht] at hb
    simpa using hb
  · intro hl
    apply Nat.eq_of_testBit_eq
    intro i
    rw [Nat.testBit_and, Nat.zero_testBit, Nat.testBit_two_pow]
    by_cases hi : w = i
    · subst hi
      rw [ht]; simp; omega
    · simp [hi]

/-! Products of polynomials over two elements, modulo one of them. -/
def gdbl (top low a : Nat) : Nat := if top ≤ 2 * a then (2 * a - top) ^^^ low else 2 * a
def gmulL (top low : Nat) : Nat → Nat → Nat → Nat → Nat
  | 0, _, _, p => p
  | n + 1, a, b, p => gmulL top low n (gdbl top low a) (b / 2) (if b % 2 = 1 then p ^^^ a else p)
theorem xor_top (w x low : Nat) (h0 : 2 ^ w ≤ x) (h1 : x < 2 * 2 ^ w) (hl : low < 2 ^ w) : x ^^^ (2 ^ w + low) = (x - 2 ^ w) ^^^ low := by
  have hp : 0 < 2 ^ w := Nat.two_pow_pos w
  have hr : (x - 2 ^ w) ^^^ low < 2 ^ w := Nat.xor_lt_two_pow (by omega) hl
  have hd : (x ^^^ (2 ^ w + low)) / 2 ^ w = 0 := by
    rw [Nat.xor_div_two_pow]
    have e1 : x / 2 ^ w = 1 := by
      have := Nat.div_lt_of_lt_mul (m := x) (n := 2 ^ w) (k := 2) (by omega)
      have := (Nat.le_div_iff_mul_le (x := 1) (y := x) hp).2 (by omega)
      omega
    have e2 : (2 ^ w + low) / 2 ^ w = 1 := by rw [Nat.add_div_left _ hp, Nat.div_eq_of_lt hl]
    rw [e1, e2]; rfl
  have hm : (x ^^^ (2 ^ w + low)) % 2 ^ w = (x - 2 ^ w) ^^^ low := by
    rw [Nat.xor_mod_two_pow]
    have e1 : x % 2 ^ w = x - 2 ^ w := by rw [Nat.mod_eq_sub_mod h0, Nat.mod_eq_of_lt (by omega)]
    have e2 : (2 ^ w + low) % 2 ^ w = low := by rw [Nat.add_mod_left, Nat.mod_eq_of_lt hl]
    rw [e1, e2]
  have := Nat.div_add_mod (x ^^^ (2 ^ w + low)) (2 ^ w)
  rw [hd, hm, Nat.mul_zero, Nat.zero_add] at this
  exact this.symm
theorem gdbl_lt (w low a : Nat) (ha : a < 2 ^ w) (hl : low < 2 ^ w) : gdbl (2 ^ w) low a < 2 ^ w := by
  unfold gdbl
  split
  · exact Nat.xor_lt_two_pow (by omega) hl
  · omega
theorem gmulL_lt (w low : Nat) (hl : low < 2 ^ w) : ∀ n a b p, a < 2 ^ w → p < 2 ^ w → gmulL (2 ^ w) low n a b p < 2 ^ w := by
  intro n
  induction n with
  | zero => intro a b p _ hp; exact hp
  | succ n ih =>
    intro a b p ha hp
    rw [gmulL]
    refine ih _ _ _ (gdbl_lt w low a ha hl) ?_
    split
    · exact Nat.xor_lt_two_pow hp ha
    · exact hp
theorem gmulL_zero (top low : Nat) : ∀ n a p, gmulL top low n a 0 p = p := by
  intro n
  induction n with
  | zero => intro a p; rfl
  | succ n ih => intro a p; rw [gmulL]; simpa using ih _ _
def mul8 (a b : Nat) : Nat := gmulL 256 29 8 a b 0
def mul16 (a b : Nat) : Nat := gmulL 65536 4107 16 a b 0
theorem mul8_lt (a b : Nat) (ha : a < 256) : mul8 a b < 256 := gmulL_lt 8 29 (by decide) 8 a b 0 (by simpa using ha) (by decide)
theorem mul16_lt (a b : Nat) (ha : a < 65536) : mul16 a b < 65536 := gmulL_lt 16 4107 (by decide) 16 a b 0 (by simpa using ha) (by decide)

/-! The algebra of these products: linear in each factor, commutative, associative. -/
theorem xor_even (a b : Nat) : (a ^^^ b) / 2 = a / 2 ^^^ b / 2 := by
  have := Nat.xor_div_two_pow (a := a) (b := b) (n := 1)
  simpa using this
theorem xor_odd (a b : Nat) : (a ^^^ b) % 2 = (a % 2) ^^^ (b % 2) := by
  have := Nat.xor_mod_two_pow (a := a) (b := b) (n := 1)
  simpa using this
theorem xor_dbl (a b : Nat) : 2 * (a ^^^ b) = (2 * a) ^^^ (2 * b) := by
  have := Nat.shiftLeft_xor_distrib (a := a) (b := b) (i := 1)
  simp only [Nat.shiftLeft_eq, Nat.pow_one] at this
  rw [Nat.mul_comm 2 (a ^^^ b), this, Nat.mul_comm a 2, Nat.mul_comm b 2]
theorem xor4 (a b c d : Nat) : (a ^^^ b) ^^^ (c ^^^ d) = (a ^^^ c) ^^^ (b ^^^ d) := by
  rw [Nat.xor_assoc, Nat.xor_assoc]
  congr 1
  rw [← Nat.xor_assoc, Nat.xor_comm b c, Nat.xor_assoc]
theorem gdbl_bit (w low a : Nat) (hl : low < 2 ^ (w + 1)) (ha : a < 2 ^ (w + 1)) : gdbl (2 ^ (w + 1)) low a = (2 * a) ^^^ (if a.testBit w then 2 ^ (w + 1) + low else 0) := by
  have hp : 2 ^ (w + 1) = 2 * 2 ^ w := by rw [Nat.pow_succ]; omega
  have hpp : 0 < 2 ^ w := Nat.two_pow_pos w
  have ht : a.testBit w = decide (2 ^ w ≤ a) := by
    rw [Nat.testBit_eq_decide_div_mod_eq]
    have h2 : a / 2 ^ w < 2 := Nat.div_lt_of_lt_mul (by omega)
    by_cases hc : 2 ^ w ≤ a
    · have : 1 ≤ a / 2 ^ w := (Nat.le_div_iff_mul_le hpp).2 (by omega)
      have e : a / 2 ^ w = 1 := by omega
      simp [e, hc]
    · have e : a / 2 ^ w = 0 := Nat.div_eq_of_lt (by omega)
      simp [e, hc]
  unfold gdbl
  by_cases hc : 2 ^ w ≤ a
  · rw [if_pos (by omega), ht, if_pos (by simpa using hc), xor_top (w + 1) (2 * a) low (by omega) (by omega) hl]
  · rw [if_neg (by omega), ht, if_neg (by simpa using hc), Nat.xor_zero]
theorem gdbl_xor (w low a b : Nat) (hl : low < 2 ^ (w + 1)) (ha : a < 2 ^ (w + 1)) (hb : b < 2 ^ (w + 1)) : gdbl (2 ^ (w + 1)) low (a ^^^ b) = gdbl (2 ^ (w + 1)) low a ^^^ gdbl (2 ^ (w + 1)) low b := by
  rw [gdbl_bit w low a hl ha, gdbl_bit w low b hl hb, gdbl_bit w low _ hl (Nat.xor_lt_two_pow ha hb), xor_dbl, Nat.testBit_xor, xor4]
  congr 1
  cases a.testBit w <;> cases b.testBit w <;> simp
theorem gdbl_zero (top low : Nat) (h : 0 < top) : gdbl top low 0 = 0 := by unfold gdbl; rw [if_neg (by omega)]
theorem gmulL_acc (top low : Nat) : ∀ n a b p, gmulL top low n a b p = p ^^^ gmulL top low n a b 0 := by
  intro n
  induction n with
  | zero => intro a b p; simp [gmulL]
  | succ n ih =>
    intro a b p
    rw [gmulL, gmulL, ih _ _ (if b % 2 = 1 then p ^^^ a else p), ih _ _ (if b % 2 = 1 then 0 ^^^ a else 0), ← Nat.xor_assoc]
    congr 1
    split <;> simp
theorem gmulL_succ (top low n a b : Nat) : gmulL top low (n + 1) a b 0 = (if b % 2 = 1 then a else 0) ^^^ gmulL top low n (gdbl top low a) (b / 2) 0 := by
  rw [gmulL, gmulL_acc]
  congr 1
  split <;> simp
section
variable (w low : Nat) (hl : low < 2 ^ (w + 1))
include hl
theorem gm_lt (n a b : Nat) (ha : a < 2 ^ (w + 1)) : gmulL (2 ^ (w + 1)) low n a b 0 < 2 ^ (w + 1) := gmulL_lt (w + 1) low hl n a b 0 ha (Nat.two_pow_pos _)
theorem gm_xor_left : ∀ n a a' b, a < 2 ^ (w + 1) → a' < 2 ^ (w + 1) → gmulL (2 ^ (w + 1)) low n (a ^^^ a') b 0 = gmulL (2 ^ (w + 1)) low n a b 0 ^^^ gmulL (2 ^ (w + 1)) low n a' b 0 := by
  intro n
  induction n with
  | zero => intro a a' b _ _; simp [gmulL]
  | succ n ih =>
    intro a a' b ha ha'
    rw [gmulL_succ, gmulL_succ, gmulL_succ, gdbl_xor w low a a' hl ha ha', ih _ _ _ (gdbl_lt (w + 1) low a ha hl) (gdbl_lt (w + 1) low a' ha' hl), xor4]
    congr 1
    split <;> simp
omit hl in
theorem gm_xor_right : ∀ n a b b', gmulL (2 ^ (w + 1)) low n a (b ^^^ b') 0 = gmulL (2 ^ (w + 1)) low n a b 0 ^^^ gmulL (2 ^ (w + 1)) low n a b' 0 := by
  intro n
  induction n with
  | zero => intro a b b'; simp [gmulL]
  | succ n ih =>
    intro a b b'
    rw [gmulL_succ, gmulL_succ, gmulL_succ, xor_even, ih, xor_odd, xor4]
    congr 1
    rcases Nat.mod_two_eq_zero_or_one b with h | h <;> rcases Nat.mod_two_eq_zero_or_one b' with h' | h' <;> simp [h, h']
/-- A factor doubled doubles the product. -/
theorem gm_dbl_left : ∀ n a b, a < 2 ^ (w + 1) → gmulL (2 ^ (w + 1)) low n (gdbl (2 ^ (w + 1)) low a) b 0 = gdbl (2 ^ (w + 1)) low (gmulL (2 ^ (w + 1)) low n a b 0) := by
  intro n
  induction n with
  | zero =>
    intro a b _
    rw [show gmulL (2 ^ (w + 1)) low 0 a b 0 = 0 from rfl, gdbl_zero _ _ (Nat.two_pow_pos _)]; rfl
  | succ n ih =>
    intro a b ha
    have hg := gdbl_lt (w + 1) low a ha hl
    have hsel : (if b % 2 = 1 then a else 0) < 2 ^ (w + 1) := by
      split
      · exact ha
      · exact Nat.two_pow_pos _
    rw [gmulL_succ, gmulL_succ, ih _ _ hg, gdbl_xor w low _ _ hl hsel (gm_lt w low hl n _ _ hg)]
    congr 1
    split
    · rfl
    · rw [gdbl_zero _ _ (Nat.two_pow_pos _)]
end
/-- Two linear maps that agree at each power of two below 2^n agree below 2^n. -/
theorem linear_ext (f g : Nat → Nat) : ∀ n, (∀ a b, a < 2 ^ n → b < 2 ^ n → f (a ^^^ b) = f a ^^^ f b) → (∀ a b, a < 2 ^ n → b < 2 ^ n → g (a ^^^ b) = g a ^^^ g b) → (∀ i, i < n → f (2 ^ i) = g (2 ^ i)) → ∀ a, a < 2 ^ n → f a = g a := by
  intro n
  induction n with
  | zero =>
    intro hf hg _ a ha
    have : a = 0 := by omega
    subst this
    have h1 := hf 0 0 (by omega) (by omega)
    have h2 := hg 0 0 (by omega) (by omega)
    simp at h1 h2
    rw [h1, h2]
  | succ n ih =>
    intro hf hg hi a ha
    have hp : 2 ^ (n + 1) = 2 * 2 ^ n := by rw [Nat.pow_succ]; omega
    have hpp : 0 < 2 ^ n := Nat.two_pow_pos n
    have low := ih (fun a b ha hb => hf a b (by omega) (by omega)) (fun a b ha hb => hg a b (by omega) (by omega)) (fun i h => hi i (by omega))
    by_cases h : a < 2 ^ n
    · exact low a h
    · have e : a = 2 ^ n ^^^ (a - 2 ^ n) := by
        have := xor_top n a 0 (by omega) (by omega) (by omega)
        rw [Nat.add_zero, Nat.xor_zero] at this
        rw [← this, Nat.xor_comm a, ← Nat.xor_assoc, Nat.xor_self, Nat.zero_xor]
      rw [e, hf _ _ (by omega) (by omega), hg _ _ (by omega) (by omega), hi n (by omega), low _ (by omega)]
/-- What commutes at the powers of two commutes. -/
theorem gm_comm (w low : Nat) (hl : low < 2 ^ (w + 1)) (n : Nat) (hb : ∀ i, i < w + 1 → ∀ j, j < w + 1 → gmulL (2 ^ (w + 1)) low n (2 ^ i) (2 ^ j) 0 = gmulL (2 ^ (w + 1)) low n (2 ^ j) (2 ^ i) 0) :
    ∀ a b, a < 2 ^ (w + 1) → b < 2 ^ (w + 1) → gmulL (2 ^ (w + 1)) low n a b 0 = gmulL (2 ^ (w + 1)) low n b a 0 := by
  intro a b ha hbb
  refine linear_ext (fun a => gmulL (2 ^ (w + 1)) low n a b 0) (fun a => gmulL (2 ^ (w + 1)) low n b a 0) (w + 1) (fun x y hx hy => gm_xor_left w low hl n x y b hx hy) (fun x y _ _ => gm_xor_right w low n b x y) (fun i hi => ?_) a ha
  refine linear_ext (fun b => gmulL (2 ^ (w + 1)) low n (2 ^ i) b 0) (fun b => gmulL (2 ^ (w + 1)) low n b (2 ^ i) 0) (w + 1) (fun x y _ _ => gm_xor_right w low n (2 ^ i) x y) (fun x y hx hy => gm_xor_left w low hl n x y (2 ^ i) hx hy) (fun j hj => hb i hi j hj) b hbb
/-- Associativity, out of commutativity: induction on the rounds of the outer product. -/
theorem gm_assoc (w low : Nat) (hl : low < 2 ^ (w + 1)) (n : Nat) (hc : ∀ a b, a < 2 ^ (w + 1) → b < 2 ^ (w + 1) → gmulL (2 ^ (w + 1)) low n a b 0 = gmulL (2 ^ (w + 1)) low n b a 0) :
    ∀ m a b c, a < 2 ^ (w + 1) → b < 2 ^ (w + 1) → gmulL (2 ^ (w + 1)) low m (gmulL (2 ^ (w + 1)) low n a b 0) c 0 = gmulL (2 ^ (w + 1)) low n a (gmulL (2 ^ (w + 1)) low m b c 0) 0 := by
  intro m
  induction m with
  | zero =>
    intro a b c ha hb
    rw [show gmulL (2 ^ (w + 1)) low 0 (gmulL (2 ^ (w + 1)) low n a b 0) c 0 = 0 from rfl, show gmulL (2 ^ (w + 1)) low 0 b c 0 = 0 from rfl, gmulL_zero]
  | succ m ih =>
    intro a b c ha hb
    have hg := gdbl_lt (w + 1) low b hb hl
    have h1 : gdbl (2 ^ (w + 1)) low (gmulL (2 ^ (w + 1)) low n a b 0) = gmulL (2 ^ (w + 1)) low n a (gdbl (2 ^ (w + 1)) low b) 0 := by
      rw [hc a b ha hb, ← gm_dbl_left w low hl n b a hb, hc _ _ hg ha]
    rw [gmulL_succ, gmulL_succ, h1, ih _ _ _ ha hg, gm_xor_right]
    congr 1
    split
    · rfl
    · rw [gmulL_zero]

theorem mul8_comm (a b : Nat) (ha : a < 256) (hb : b < 256) : mul8 a b = mul8 b a :=
  gm_comm 7 29 (by decide) 8 (by decide +kernel) a b ha hb
theorem mul8_assoc (a b c : Nat) (ha : a < 256) (hb : b < 256) : mul8 (mul8 a b) c = mul8 a (mul8 b c) :=
  gm_assoc 7 29 (by decide) 8 (gm_comm 7 29 (by decide) 8 (by decide +kernel)) 8 a b c ha hb
theorem mul8_xor (a b c : Nat) : mul8 a (b ^^^ c) = mul8 a b ^^^ mul8 a c := gm_xor_right 7 29 8 a b c
theorem mul8_xor_left (a b c : Nat) (ha : a < 256) (hb : b < 256) : mul8 (a ^^^ b) c = mul8 a c ^^^ mul8 b c := gm_xor_left 7 29 (by decide) 8 a b c ha hb
theorem mul8_one (a : Nat) (ha : a < 256) : mul8 a 1 = a := by
  have key : ∀ x : Fin 256, mul8 x.val 1 = x.val := by decide +kernel
  exact key ⟨a, ha⟩

/-! In the field of 256 what is not 0 has one inverse. -/
def inv8L : Nat → Nat → Nat → Nat
  | 0, _, out => out
  | n + 1, s, out => inv8L n (mul8 s s) (mul8 out s)
def inv8 (a : Nat) : Nat := inv8L 7 (mul8 a a) 1
theorem inv8L_lt : ∀ n s out, s < 256 → out < 256 → inv8L n s out < 256 := by
  intro n
  induction n with
  | zero => intro s out _ h; exact h
  | succ n ih => intro s out hs ho; exact ih _ _ (mul8_lt s s hs) (mul8_lt out s ho)
theorem inv8_lt (a : Nat) (h : a < 256) : inv8 a < 256 := inv8L_lt 7 _ _ (mul8_lt a a h) (by decide)
theorem mul8_zero (a : Nat) : mul8 a 0 = 0 := gmulL_zero _ _ _ _ _
theorem zero_mul8 (a : Nat) (h : a < 256) : mul8 0 a = 0 := by rw [mul8_comm 0 a (by decide) h, mul8_zero]
theorem one_mul8 (a : Nat) (h : a < 256) : mul8 1 a = a := by rw [mul8_comm 1 a (by decide) h, mul8_one a h]
theorem mul_inv8 (a : Nat) (h : a < 256) (h0 : a ≠ 0) : mul8 a (inv8 a) = 1 := by
  have key : ∀ x : Fin 256, x.val ≠ 0 → mul8 x.val (inv8 x.val) = 1 := by decide +kernel
  exact key ⟨a, h⟩ h0
theorem inv8_zero : inv8 0 = 0 := by decide +kernel
theorem inv8_one_only (a x : Nat) (h : a < 256) (hx : x < 256) (h1 : mul8 a x = 1) : x = inv8 a := by
  by_cases h0 : a = 0
  · subst h0; rw [zero_mul8 x hx] at h1; exact absurd h1 (by decide)
  · have e := mul_inv8 a h h0
    have hi := inv8_lt a h
    calc x = mul8 x 1 := (mul8_one x hx).symm
      _ = mul8 x (mul8 a (inv8 a)) := by rw [e]
      _ = mul8 (mul8 x a) (inv8 a) := (mul8_assoc x a _ hx h).symm
      _ = mul8 (mul8 a x) (inv8 a) := by rw [mul8_comm x a hx h]
      _ = inv8 a := by rw [h1, one_mul8 _ hi]

theorem spec_in (a top : Int) : spec_l02In.f a top = some (decide (0 ≤ a ∧ a < top)) := by
  unfold spec_l02In.f
  by_cases h : a ≥ 0
  · rw [if_pos h]; simp [show 0 ≤ a from h]
  · rw [if_neg h]; simp [show ¬ 0 ≤ a from h]

theorem spec_times_l0 (w low poly : Nat) (hw : w ≤ 16) (hp : poly = 2 ^ w + low) (hl : low < 2 ^ w) : ∀ (n a b p : Nat), b < 2 ^ n → b < 65536 → a < 2 ^ w → p < 2 ^ w →
    Ev (fun k => spec_l02Times.l0 k (a : Int) (b : Int) (poly : Int) ((2 ^ w : Nat) : Int) (p : Int)) ((gmulL (2 ^ w) low n a b p : Nat) : Int) := by
  have h16 : 2 ^ w ≤ 65536 := Nat.pow_le_pow_right (n := 2) (by decide) hw
  intro n
  induction n with
  | zero =>
    intro a b p hb hb1 ha hpp
    have : b = 0 := by omega
    subst this
    refine Ev.step (fun k => by rw [spec_l02Times.l0, if_neg (by omega)]) (Ev.give ?_)
    rfl
  | succ n ih =>
    intro a b p hb hb1 ha hpp
    by_cases h0 : b = 0
    · subst h0
      rw [gmulL_zero]
      refine Ev.step (fun k => by rw [spec_l02Times.l0, if_neg (by omega)]) (Ev.give ?_)
      rfl
    · have hd : wrap64 (Int.tdiv (b : Int) 2) = ((b / 2 : Nat) : Int) := by
        rw [Int.tdiv_eq_ediv_of_nonneg (by omega), wrap64_id (by omega) (by omega)]; rfl
      have hm : Int.tmod (b : Int) 2 = ((b % 2 : Nat) : Int) := by rw [Int.tmod_eq_emod_of_nonneg (by omega)]; rfl
      have ha2 : wrap64 ((a : Int) * 2) = ((2 * a : Nat) : Int) := by rw [wrap64_id (by omega) (by omega)]; omega
      have hx : Go.bits .xor .i64 ((2 * a : Nat) : Int) (poly : Int) = (((2 * a) ^^^ poly : Nat) : Int) := bits_xor_i64 _ _ (by omega) (by omega)
      have hpx : Go.bits .xor .i64 (p : Int) (a : Int) = ((p ^^^ a : Nat) : Int) := bits_xor_i64 _ _ (by omega) (by omega)
      have hb2 : b / 2 < 2 ^ n := by rw [Nat.pow_succ] at hb; exact Nat.div_lt_of_lt_mul (by omega)
      have hxa : p ^^^ a < 2 ^ w := Nat.xor_lt_two_pow hpp ha
      have hg := gdbl_lt w low a ha hl
      rw [gmulL]
      by_cases hodd : b % 2 = 1
      · rw [if_pos hodd]
        by_cases ht : 2 ^ w ≤ 2 * a
        · have hga : (2 * a) ^^^ poly = gdbl (2 ^ w) low a := by unfold gdbl; rw [if_pos ht, hp, xor_top w _ _ ht (by omega) hl]
          refine Ev.step (fun k => by rw [spec_l02Times.l0, if_pos (by omega), hm, if_pos (by omega), hpx]) (Ev.step (fun k => by rw [spec_l02Times.j1, ha2, if_pos (by omega), hd, hx, hga]) ?_)
          exact ih _ _ _ hb2 (by omega) hg hxa
        · have hga : 2 * a = gdbl (2 ^ w) low a := by unfold gdbl; rw [if_neg ht]
          refine Ev.step (fun k => by rw [spec_l02Times.l0, if_pos (by omega), hm, if_pos (by omega), hpx]) (Ev.step (fun k => by rw [spec_l02Times.j1, ha2, if_neg (by omega), hd, hga]) ?_)
          exact ih _ _ _ hb2 (by omega) hg hxa
      · rw [if_neg hodd]
        by_cases ht : 2 ^ w ≤ 2 * a
        · have hga : (2 * a) ^^^ poly = gdbl (2 ^ w) low a := by unfold gdbl; rw [if_pos ht, hp, xor_top w _ _ ht (by omega) hl]
          refine Ev.step (fun k => by rw [spec_l02Times.l0, if_pos (by omega), hm, if_neg (by omega)]) (Ev.step (fun k => by rw [spec_l02Times.j1, ha2, if_pos (by omega), hd, hx, hga]) ?_)
          exact ih _ _ _ hb2 (by omega) hg hpp
        · have hga : 2 * a = gdbl (2 ^ w) low a := by unfold gdbl; rw [if_neg ht]
          refine Ev.step (fun k => by rw [spec_l02Times.l0, if_pos (by omega), hm, if_neg (by omega)]) (Ev.step (fun k => by rw [spec_l02Times.j1, ha2, if_neg (by omega), hd, hga]) ?_)
          exact ih _ _ _ hb2 (by omega) hg hpp

/-- What Mul8 answers. -/
def Mul8of (a b : Int) : Int := if (0 ≤ a ∧ a < 256) ∧ (0 ≤ b ∧ b < 256) then ((mul8 a.toNat b.toNat : Nat) : Int) else -1
theorem spec_mul8 (a b : Int) : Ev (fun k => spec_Mul8.f k a b) (Mul8of a b) := by
  unfold Mul8of
  by_cases ha : 0 ≤ a ∧ a < 256
  · by_cases hb : 0 ≤ b ∧ b < 256
    · rw [if_pos ⟨ha, hb⟩]
      refine Ev.congr (fun k => by rw [spec_Mul8.f, spec_in, Option.bind_some, if_pos (by simp [ha.1, ha.2]), spec_in, Option.bind_some, show (!decide (0 ≤ b ∧ b < 256)) = false by simp [hb.1, hb.2]]) (Ev.step (fun k => by rw [spec_Mul8.j0, if_neg (by decide)]) ?_)
      obtain ⟨m, rfl⟩ := Int.eq_ofNat_of_zero_le ha.1
      obtain ⟨n, rfl⟩ := Int.eq_ofNat_of_zero_le hb.1
      exact Ev.bind (spec_times_l0 8 29 285 (by decide) (by decide) (by decide) 8 m n 0 (by simp only [Nat.reducePow]; omega) (by omega) (by simp only [Nat.reducePow]; omega) (by decide)) (Ev.give rfl)
    · rw [if_neg (fun h => hb h.2)]
      refine Ev.congr (fun k => by rw [spec_Mul8.f, spec_in, Option.bind_some, if_pos (by simp [ha.1, ha.2]), spec_in, Option.bind_some, show (!decide (0 ≤ b ∧ b < 256)) = true by simp only [decide_eq_false hb, Bool.not_false]]) (Ev.step (fun k => by rw [spec_Mul8.j0, if_pos rfl]) (Ev.give rfl))
  · rw [if_neg (fun h => ha h.1)]
    refine Ev.congr (fun k => by rw [spec_Mul8.f, spec_in, Option.bind_some, if_neg (by simpa using fun h => by omega)]) (Ev.step (fun k => by rw [spec_Mul8.j0, if_pos rfl]) (Ev.give rfl))

theorem Mul8of_nat (a b : Nat) (ha : a < 256) (hb : b < 256) : Mul8of (a : Int) (b : Int) = ((mul8 a b : Nat) : Int) := by
  unfold Mul8of
  rw [if_pos ⟨⟨by omega, by omega⟩, by omega, by omega⟩]
  rfl

/-- What Inv8 answers. -/
def Inv8of (a : Int) : Int := if 0 ≤ a ∧ a < 256 then ((inv8 a.toNat : Nat) : Int) else -1

theorem spec_inv8_l0 (a : Nat) (ha : a < 256) : ∀ (d x : Nat), 256 - x = d → 1 ≤ x → x ≤ 256 → (∀ y, y < x → 1 ≤ y → mul8 a y ≠ 1) → Ev (fun k => spec_Inv8.l0 k (a : Int) (x : Int)) ((inv8 a : Nat) : Int) := by
  intro d
  induction d with
  | zero =>
    intro x hd h1 hx hno
    have h0 : a = 0 := by
      by_cases h0 : a = 0
      · exact h0
      · have hi := inv8_lt a ha
        have he := mul_inv8 a ha h0
        have hi0 : inv8 a ≠ 0 := fun h => by rw [h, mul8_zero] at he; exact absurd he (by decide)
        exact absurd he (hno (inv8 a) (by omega) (by omega))
    subst h0
    rw [inv8_zero]
    refine Ev.step (fun k => by rw [spec_Inv8.l0, if_neg (by omega)]) (Ev.give ?_)
    rfl
  | succ d ih =>
    intro x hd h1 hx hno
    have hm := spec_mul8 (a : Int) (x : Int)
    rw [Mul8of_nat a x ha (by omega)] at hm
    refine Ev.step (fun k => by rw [spec_Inv8.l0, if_pos (by omega)]) ?_
    refine Ev.bind hm ?_
    by_cases he : mul8 a x = 1
    · refine Ev.pos (by omega) (Ev.give ?_)
      rw [inv8_one_only a x ha (by omega) he]
    · refine Ev.neg (by omega) ?_
      have := ih (x + 1) (by omega) (by omega) (by omega) (fun y hy hy1 => by
        by_cases e : y = x
        · subst e; exact he
        · exact hno y (by omega) hy1)
      rw [wrap64_id (by omega) (by omega)]
      exact this
theorem spec_inv8 (a : Int) : Ev (fun k => spec_Inv8.f k a) (Inv8of a) := by
  unfold Inv8of
  by_cases ha : 0 ≤ a ∧ a < 256
  · rw [if_pos ha]
    refine Ev.congr (fun k => by rw [spec_Inv8.f, spec_in, Option.bind_some, if_pos (by simp [ha.1, ha.2])]) ?_
    obtain ⟨m, rfl⟩ := Int.eq_ofNat_of_zero_le ha.1
    exact spec_inv8_l0 m (by omega) 255 1 (by omega) (by omega) (by omega) (fun y hy hy1 => by omega)
  · rw [if_neg ha]
    refine Ev.congr (fun k => by rw [spec_Inv8.f, spec_in, Option.bind_some, if_neg (by simpa using fun h => by omega)]) (Ev.now _)

/-! Lists of numbers: copied, held against one another, counted. -/
theorem set_prefix_id {α : Type} (z : α) (l : List α) (i : Nat) (h : i < l.length) (x : α) (hx : l[i]? = some x) :
    (l.take i ++ List.replicate (l.length - i) z).set i x = l.take (i + 1) ++ List.replicate (l.length - (i + 1)) z := by
  have h1 : (l.take i).length = i := by simp; omega
  rw [List.set_append_right _ _ (by omega), h1, Nat.sub_self]
  have h2 : List.replicate (l.length - i) z = z :: List.replicate (l.length - (i + 1)) z := by
    rw [show l.length - i = (l.length - (i + 1)) + 1 by omega]; rfl
  rw [h2, List.set_cons_zero, List.take_add_one, hx]
  simp
theorem rd_at (l : List Int) (i : Nat) (h : i < l.length) : rd l (i : Int) = l[i] := by
  unfold rd; rw [Int.toNat_natCast, List.getD_eq_getElem?_getD, List.getElem?_eq_getElem h]; rfl

/-! Bytes as the program's numbers, and as texts. -/
def bI (o : List UInt8) : List Int := o.map fun c => (c.toNat : Int)
def mkB (o : List UInt8) : ByteArray := ⟨o.toArray⟩
theorem strOf_bI (o : List UInt8) : strOfNums (bI o) = mkB o := by
  unfold strOfNums bI mkB
  congr 1
  rw [List.map_map]
  congr 1
  conv => rhs; rw [← List.map_id o]
  apply List.map_congr_left
  intro c _
  simp
theorem bI_snoc (o : List UInt8) (c : UInt8) : bI o ++ [(c.toNat : Int)] = bI (o ++ [c]) := by simp [bI]
theorem bI_app (o p : List UInt8) : bI o ++ bI p = bI (o ++ p) := by simp [bI]
theorem bI_length (o : List UInt8) : (bI o).length = o.length := by simp [bI]
theorem mkB_list (o : List UInt8) : (mkB o).data.toList = o := rfl
theorem mkB_toList (o : List UInt8) : (mkB o).toList = o := by rw [ByteArray.toList_eq]; rfl
theorem mkB_size (o : List UInt8) : (mkB o).size = o.length := by show o.toArray.size = _; simp
theorem mkB_data (s : ByteArray) : mkB s.data.toList = s := by unfold mkB; simp
theorem data_len (s : ByteArray) : s.data.toList.length = s.size := by simp
/-- Two bytes on, where there are. -/
theorem bt_next (s : ByteArray) (i : Nat) (h : i < s.size) : ∃ c : UInt8, s.data.toList.drop i = c :: s.data.toList.drop (i + 1) ∧ bt s (i : Int) = (c.toNat : Int) := bt_drop s i h

theorem set_prefix {α β : Type} (f : α → β) (z : β) (l : List α) (i : Nat) (h : i < l.length) (x : α) (hx : l[i]? = some x) :
    ((l.take i).map f ++ List.replicate (l.length - i) z).set i (f x) = (l.take (i + 1)).map f ++ List.replicate (l.length - (i + 1)) z := by
  have h1 : ((l.take i).map f).length = i := by simp; omega
  rw [List.set_append_right _ _ (by omega), h1, Nat.sub_self]
  have h2 : List.replicate (l.length - i) z = z :: List.replicate (l.length - (i + 1)) z := by
    rw [show l.length - i = (l.length - (i + 1)) + 1 by omega]; rfl
  rw [h2, List.set_cons_zero, List.take_add_one, hx, List.map_append]
  simp

/-! A law's copies of a list of strings: sizes, copies, comparisons. -/
theorem rds_at (l : List ByteArray) (i : Nat) (h : i < l.length) : rdOf ByteArray.empty l (i : Int) = l[i] := by
  unfold rdOf; rw [Int.toNat_natCast, List.getD_eq_getElem?_getD, List.getElem?_eq_getElem h]; rfl
theorem eqStringS_l0 (l : List ByteArray) (hl : l.length ≤ 1048576) : ∀ (d i : Nat), l.length - i = d → i ≤ l.length → Ev (fun k => laws_eqStringS.l0 k l l (i : Int)) true := by
  intro d
  induction d with
  | zero =>
    intro i hd hi
    exact Ev.step (fun k => by rw [laws_eqStringS.l0, if_neg (by omega)]) (Ev.now _)
  | succ d ih =>
    intro i hd hi
    have hw : wrap64 ((i : Int) + 1) = ((i + 1 : Nat) : Int) := by rw [wrap64_id (by omega) (by omega)]; rfl
    refine Ev.step (fun k => by rw [laws_eqStringS.l0, if_pos (by omega), if_pos (by omega), if_pos (by omega), if_pos rfl, hw]) ?_
    exact ih (i + 1) (by omega) (by omega)
theorem eqStringS (l : List ByteArray) (hl : l.length ≤ 1048576) : Ev (fun k => laws_eqStringS.f k l l) true := by
  refine Ev.congr (fun k => by rw [laws_eqStringS.f, if_pos rfl]) ?_
  exact eqStringS_l0 l hl l.length 0 rfl (by omega)

/-! Texts that mark places: written over and read again. -/
theorem strOf1 (x : Int) : (strOfNums [x]).size = 1 := by rw [size_strOfNums]; rfl
theorem markText_l0 : ∀ (d n : Nat) (t : ByteArray), n < 10 ^ d → n < 9223372036854775808 → t.size + d ≤ 1000 → ∃ r, Ev (fun k => laws_markText.l0 k (n : Int) t) r := by
  intro d
  induction d with
  | zero =>
    intro n t hn _ ht
    have e : n = 0 := by omega
    subst e
    exact ⟨_, Ev.step (fun k => by rw [laws_markText.l0, if_neg (by omega), if_pos (by omega)]) (Ev.now _)⟩
  | succ d ih =>
    intro n t hn hb ht
    by_cases h0 : n = 0
    · subst h0
      exact ⟨_, Ev.step (fun k => by rw [laws_markText.l0, if_neg (by omega), if_pos (by omega)]) (Ev.now _)⟩
    · have e : Int.tdiv (n : Int) 10 = ((n / 10 : Nat) : Int) := rfl
      have h10 : n / 10 < 10 ^ d := by rw [Nat.pow_succ] at hn; exact Nat.div_lt_of_lt_mul (by omega)
      obtain ⟨r, hr⟩ := ih (n / 10) ((strOfNums [(wrap64 (48 + (Int.tmod (n : Int) 10))) % 256]) ++ t) h10 (by omega) (by rw [ByteArray.size_append, strOf1]; omega)
      refine ⟨r, Ev.step (fun k => by rw [laws_markText.l0, if_pos (by omega), Option.bind_some, if_pos (by rw [strOf1]; omega), e, wrap64_id (x := ((n / 10 : Nat) : Int)) (by omega) (by omega)]) hr⟩
theorem markText_some (n : Nat) (hn : n < 9223372036854775808) : ∃ r, Ev (fun k => laws_markText.f k (n : Int)) r := by
  by_cases h0 : n = 0
  · subst h0
    exact ⟨_, Ev.congr (fun k => by rw [laws_markText.f, if_pos (by omega)]) (Ev.now _)⟩
  · obtain ⟨r, hr⟩ := markText_l0 19 n ⟨#[]⟩ (by omega) hn (by decide)
    exact ⟨r, Ev.congr (fun k => by rw [laws_markText.f, if_neg (by omega)]) hr⟩
theorem markText_all : ∃ T : Nat → ByteArray, ∀ n : Nat, n < 9223372036854775808 → Ev (fun k => laws_markText.f k (n : Int)) (T n) := by
  refine ⟨fun n => if h : n < 9223372036854775808 then Classical.choose (markText_some n h) else ByteArray.empty, fun n hn => ?_⟩
  simp only [dif_pos hn]
  exact Classical.choose_spec (markText_some n hn)
def markT (T : Nat → ByteArray) (a n : Nat) : List ByteArray := (List.range n).map fun i => T (a + i)
theorem markT_length (T : Nat → ByteArray) (a n : Nat) : (markT T a n).length = n := by simp [markT]
theorem markT_succ (T : Nat → ByteArray) (a n : Nat) : markT T a (n + 1) = markT T a n ++ [T (a + n)] := by unfold markT; rw [List.range_succ, List.map_append]; rfl
theorem markT_rd (T : Nat → ByteArray) (a n i : Nat) (h : i < n) : rdOf ByteArray.empty (markT T a n) (i : Int) = T (a + i) := by
  rw [rds_at _ i (by rw [markT_length]; exact h)]
  simp [markT]
section
variable {T : Nat → ByteArray} (hT : ∀ n : Nat, n < 9223372036854775808 → Ev (fun k => laws_markText.f k (n : Int)) (T n))
include hT
theorem markStringS_l0 (l : List ByteArray) (hl : l.length ≤ 1048576) (a : Nat) (ha : a ≤ 1000000000) : ∀ (d i : Nat), l.length - i = d → i ≤ l.length →
    Ev (fun k => laws_markStringS.l0 k (markT T a i ++ l.drop i) ((a + i : Nat) : Int) (i : Int)) (((a + l.length : Nat) : Int), markT T a l.length) := by
  intro d
  induction d with
  | zero =>
    intro i hd hi
    have e : i = l.length := by omega
    subst e
    refine Ev.step (fun k => by rw [laws_markStringS.l0, if_neg (by rw [List.length_append, markT_length, List.length_drop]; omega)]) (Ev.give ?_)
    rw [List.drop_length, List.append_nil]
  | succ d ih =>
    intro i hd hi
    have hlt : i < l.length := by omega
    have hs : (markT T a i ++ l.drop i).set i (T (a + i)) = markT T a (i + 1) ++ l.drop (i + 1) := by
      rw [List.set_append_right _ _ (by rw [markT_length]; exact Nat.le_refl i), markT_length, Nat.sub_self, List.drop_eq_getElem_cons hlt, List.set_cons_zero, markT_succ, List.append_assoc]
      rfl
    refine Ev.step (fun k => by rw [laws_markStringS.l0, if_pos (by rw [List.length_append, markT_length, List.length_drop]; omega)]) ?_
    refine Ev.bind (hT (a + i) (by omega)) (Ev.pos (by omega) ?_)
    rw [Int.toNat_natCast, hs, wrap64_id (x := ((a + i : Nat) : Int) + 1) (by omega) (by omega), wrap64_id (x := (i : Int) + 1) (by omega) (by omega)]
    exact ih (i + 1) (by omega) (by omega)
theorem markStringS (l : List ByteArray) (hl : l.length ≤ 1048576) (a : Nat) (ha : a ≤ 1000000000) : Ev (fun k => laws_markStringS.f k l (a : Int)) (((a + l.length : Nat) : Int), markT T a l.length) := by
  have := markStringS_l0 hT l hl a ha l.length 0 (by omega) (by omega)
  exact Ev.congr (fun k => by rw [laws_markStringS.f]; rfl) this
theorem heldStringS_l0 (n : Nat) (hn : n ≤ 1048576) (a : Nat) (ha : a ≤ 1000000000) : ∀ (d i : Nat), n - i = d → i ≤ n →
    Ev (fun k => laws_heldStringS.l0 k (markT T a n) ((a + i : Nat) : Int) (i : Int)) ((a + n : Nat) : Int) := by
  intro d
  induction d with
  | zero =>
    intro i hd hi
    have e : i = n := by omega
    subst e
    exact Ev.step (fun k => by rw [laws_heldStringS.l0, if_neg (by rw [markT_length]; omega)]) (Ev.now _)
  | succ d ih =>
    intro i hd hi
    refine Ev.step (fun k => by rw [laws_heldStringS.l0, if_pos (by rw [markT_length]; omega), if_pos (by omega), markT_rd T a n i (by omega)]) ?_
    refine Ev.bind (hT (a + i) (by omega)) (Ev.pos rfl ?_)
    rw [wrap64_id (x := ((a + i : Nat) : Int) + 1) (by omega) (by omega), wrap64_id (x := (i : Int) + 1) (by omega) (by omega)]
    exact ih (i + 1) (by omega) (by omega)
theorem heldStringS (n : Nat) (hn : n ≤ 1048576) (a : Nat) (ha : a ≤ 1000000000) : Ev (fun k => laws_heldStringS.f k (markT T a n) (a : Int)) ((a + n : Nat) : Int) := by
  have := heldStringS_l0 hT n hn a ha n 0 (by omega) (by omega)
  exact Ev.congr (fun k => by rw [laws_heldStringS.f]; rfl) this
end

/-- What CodeFault answers. -/
def codeFaultOf (K M G : Int) : Int := if 1 ≤ K ∧ K ≤ 32 ∧ 0 ≤ M ∧ M ≤ 16 ∧ 0 ≤ G ∧ G ≤ K ∧ K + M + G ≤ 64 then 0 else 1
theorem spec_codeFault (a b c : Int) : Ev (fun k => spec_CodeFault.f k a b c) (codeFaultOf a b c) := by
  refine Ev.congr (fun k => by rw [spec_CodeFault.f]) ?_
  unfold codeFaultOf
  have bad : Ev (fun k => spec_CodeFault.j0 k true) 1 := Ev.step (fun k => by rw [spec_CodeFault.j0, if_pos rfl]) (Ev.now _)
  by_cases h1 : a < 1
  · rw [if_neg (by omega)]; exact Ev.pos h1 bad
  · refine Ev.neg h1 ?_
    by_cases h2 : a > 32
    · rw [if_neg (by omega)]; exact Ev.pos h2 bad
    · refine Ev.neg h2 ?_
      by_cases h3 : b < 0
      · rw [if_neg (by omega)]; exact Ev.pos h3 bad
      · refine Ev.neg h3 ?_
        by_cases h4 : b > 16
        · rw [if_neg (by omega)]; exact Ev.pos h4 bad
        · refine Ev.neg h4 ?_
          by_cases h5 : c < 0
          · rw [if_neg (by omega)]; exact Ev.pos h5 bad
          · refine Ev.neg h5 ?_
            by_cases h6 : c > a
            · rw [if_neg (by omega)]; exact Ev.pos h6 bad
            · refine Ev.neg h6 ?_
              have hw : wrap64 (wrap64 (a + b) + c) = a + b + c := by rw [wrap64_id (x := a + b) (by omega) (by omega), wrap64_id (x := a + b + c) (by omega) (by omega)]
              rw [hw]
              by_cases h7 : a + b + c > 64
              · rw [if_neg (by omega), show decide (a + b + c > 64) = true from decide_eq_true h7]; exact bad
              · rw [if_pos (by omega), show decide (a + b + c > 64) = false from decide_eq_false h7]
                exact Ev.step (fun k => by rw [spec_CodeFault.j0, if_neg (by decide)]) (Ev.now _)
theorem impl_codeFault (a b c : Int) : Ev (fun k => impl_CodeFault.f k a b c) (codeFaultOf a b c) := by
  refine Ev.congr (fun k => by rw [impl_CodeFault.f]) ?_
  unfold codeFaultOf
  have bad : Ev (fun k => impl_CodeFault.j0 k true) 1 := Ev.step (fun k => by rw [impl_CodeFault.j0, if_pos rfl]) (Ev.now _)
  by_cases h1 : a < 1
  · rw [if_neg (by omega)]; exact Ev.pos h1 bad
  · refine Ev.neg h1 ?_
    by_cases h2 : a > 32
    · rw [if_neg (by omega)]; exact Ev.pos h2 bad
    · refine Ev.neg h2 ?_
      by_cases h3 : b < 0
      · rw [if_neg (by omega)]; exact Ev.pos h3 bad
      · refine Ev.neg h3 ?_
        by_cases h4 : b > 16
        · rw [if_neg (by omega)]; exact Ev.pos h4 bad
        · refine Ev.neg h4 ?_
          by_cases h5 : c < 0
          · rw [if_neg (by omega)]; exact Ev.pos h5 bad
          · refine Ev.neg h5 ?_
            by_cases h6 : c > a
            · rw [if_neg (by omega)]; exact Ev.pos h6 bad
            · refine Ev.neg h6 ?_
              have hw : wrap64 (wrap64 (a + b) + c) = a + b + c := by rw [wrap64_id (x := a + b) (by omega) (by omega), wrap64_id (x := a + b + c) (by omega) (by omega)]
              rw [hw]
              by_cases h7 : a + b + c > 64
              · rw [if_neg (by omega), show decide (a + b + c > 64) = true from decide_eq_true h7]; exact bad
              · rw [if_pos (by omega), show decide (a + b + c > 64) = false from decide_eq_false h7]
                exact Ev.step (fun k => by rw [impl_CodeFault.j0, if_neg (by decide)]) (Ev.now _)
theorem codeFault_zero {a b c : Int} (h : codeFaultOf a b c = 0) : 1 ≤ a ∧ a ≤ 32 ∧ 0 ≤ b ∧ b ≤ 16 ∧ 0 ≤ c ∧ c ≤ a ∧ a + b + c ≤ 64 := by
  unfold codeFaultOf at h
  by_cases hc : 1 ≤ a ∧ a ≤ 32 ∧ 0 ≤ b ∧ b ≤ 16 ∧ 0 ≤ c ∧ c ≤ a ∧ a + b + c ≤ 64
  · exact hc
  · rw [if_neg hc] at h; exact absurd h (by decide)

/-- What StripeCount answers. -/
def stripeOf (K M G unit size : Int) : Int :=
  if codeFaultOf K M G = 0 ∧ 1 ≤ unit ∧ unit ≤ 4096 ∧ 0 ≤ size ∧ size ≤ 100000 then
    (if (size + K * unit - 1) / (K * unit) > 200 then -1 else (size + K * unit - 1) / (K * unit)) else -1
theorem mul_bounds {K unit : Int} (h1 : 1 ≤ K) (h2 : K ≤ 32) (h3 : 1 ≤ unit) (h4 : unit ≤ 4096) : 1 ≤ K * unit ∧ K * unit ≤ 131072 := by
  have e1 : K * unit ≤ 32 * unit := Int.mul_le_mul_of_nonneg_right h2 (by omega)
  have e2 : 1 * unit ≤ K * unit := Int.mul_le_mul_of_nonneg_right h1 (by omega)
  omega
theorem stripe_last {K unit size : Int} (h1 : 1 ≤ K) (h2 : K ≤ 32) (h3 : 1 ≤ unit) (h4 : unit ≤ 4096) (h5 : 0 ≤ size) (h6 : size ≤ 100000) :
    wrap64 (Int.tdiv (wrap64 ((wrap64 (size + (wrap64 (K * unit)))) - 1)) (wrap64 (K * unit))) = (size + K * unit - 1) / (K * unit) := by
  obtain ⟨hb1, hb2⟩ := mul_bounds h1 h2 h3 h4
  rw [wrap64_id (x := K * unit) (by omega) (by omega), wrap64_id (x := size + K * unit) (by omega) (by omega), wrap64_id (x := size + K * unit - 1) (by omega) (by omega), Int.tdiv_eq_ediv_of_nonneg (by omega)]
  have hd : (size + K * unit - 1) / (K * unit) ≤ size + K * unit - 1 := Int.ediv_le_self _ (by omega)
  have hn : 0 ≤ (size + K * unit - 1) / (K * unit) := Int.ediv_nonneg (by omega) (by omega)
  exact wrap64_id (by omega) (by omega)
theorem spec_stripeCount (K M G unit size : Int) : Ev (fun k => spec_StripeCount.f k K M G unit size) (stripeOf K M G unit size) := by
  unfold stripeOf
  refine Ev.congr (fun k => by rw [spec_StripeCount.f]) (Ev.bind (spec_codeFault K M G) ?_)
  have bad : ∀ b : Bool, b = true → Ev (fun k => spec_StripeCount.j0 k unit size b K M G) (-1) := by
    rintro b rfl
    exact Ev.step (fun k => by rw [spec_StripeCount.j0, if_pos rfl]) (Ev.now _)
  by_cases h0 : codeFaultOf K M G = 0
  · refine Ev.pos h0 ?_
    obtain ⟨k1, k2, -, -, -, -, -⟩ := codeFault_zero h0
    by_cases h1 : unit < 1
    · rw [if_neg (by omega)]; exact Ev.pos h1 (bad _ rfl)
    · refine Ev.neg h1 ?_
      by_cases h2 : unit > 4096
      · rw [if_neg (by omega)]; exact Ev.pos h2 (bad _ rfl)
      · refine Ev.neg h2 ?_
        by_cases h3 : size < 0
        · rw [if_neg (by omega)]; exact Ev.pos h3 (bad _ rfl)
        · refine Ev.neg h3 ?_
          by_cases h4 : size > 100000
          · rw [if_neg (by omega)]; exact bad _ (by simpa using h4)
          · rw [if_pos ⟨h0, by omega, by omega, by omega, by omega⟩]
            have hl := stripe_last k1 k2 (by omega : 1 ≤ unit) (by omega) (by omega : 0 ≤ size) (by omega)
            have hb := mul_bounds k1 k2 (by omega : 1 ≤ unit) (by omega)
            have hw : wrap64 (K * unit) = K * unit := wrap64_id (by omega) (by omega)
            refine Ev.step (fun k => by rw [spec_StripeCount.j0, if_neg (by simpa using h4), hl, if_neg (by rw [hw]; omega)]) ?_
            by_cases h5 : (size + K * unit - 1) / (K * unit) > 200
            · rw [if_pos h5, if_pos h5]; exact Ev.now _
            · rw [if_neg h5, if_neg h5]; exact Ev.now _
  · rw [if_neg (fun h => h0 h.1)]
    exact Ev.neg h0 (bad _ rfl)
theorem impl_stripeCount (K M G unit size : Int) : Ev (fun k => impl_StripeCount.f k K M G unit size) (stripeOf K M G unit size) := by
  unfold stripeOf
  refine Ev.congr (fun k => by rw [impl_StripeCount.f]) (Ev.bind (impl_codeFault K M G) ?_)
  have bad : ∀ b : Bool, b = true → Ev (fun k => impl_StripeCount.j0 k unit size b K M G) (-1) := by
    rintro b rfl
    exact Ev.step (fun k => by rw [impl_StripeCount.j0, if_pos rfl]) (Ev.now _)
  by_cases h0 : codeFaultOf K M G = 0
  · refine Ev.pos h0 ?_
    obtain ⟨k1, k2, -, -, -, -, -⟩ := codeFault_zero h0
    by_cases h1 : unit < 1
    · rw [if_neg (by omega)]; exact Ev.pos h1 (bad _ rfl)
    · refine Ev.neg h1 ?_
      by_cases h2 : unit > 4096
      · rw [if_neg (by omega)]; exact Ev.pos h2 (bad _ rfl)
      · refine Ev.neg h2 ?_
        by_cases h3 : size < 0
        · rw [if_neg (by omega)]; exact Ev.pos h3 (bad _ rfl)
        · refine Ev.neg h3 ?_
          by_cases h4 : size > 100000
          · rw [if_neg (by omega)]; exact bad _ (by simpa using h4)
          · rw [if_pos ⟨h0, by omega, by omega, by omega, by omega⟩]
            have hl := stripe_last k1 k2 (by omega : 1 ≤ unit) (by omega) (by omega : 0 ≤ size) (by omega)
            have hb := mul_bounds k1 k2 (by omega : 1 ≤ unit) (by omega)
            have hw : wrap64 (K * unit) = K * unit := wrap64_id (by omega) (by omega)
            refine Ev.step (fun k => by rw [impl_StripeCount.j0, if_neg (by simpa using h4), hl, if_neg (by rw [hw]; omega)]) ?_
            by_cases h5 : (size + K * unit - 1) / (K * unit) > 200
            · rw [if_pos h5, if_pos h5]; exact Ev.now _
            · rw [if_neg h5, if_neg h5]; exact Ev.now _
  · rw [if_neg (fun h => h0 h.1)]
    exact Ev.neg h0 (bad _ rfl)

/-! The table's inverse is the field's. -/
theorem tabInv_field (a : Nat) (h : a < 256) : tabInv a = inv8 a := by
  have key : ∀ x : Fin 256, tabInv x.val = inv8 x.val := by decide +kernel
  exact key ⟨a, h⟩
theorem inv8_ev (m : Nat) (h : m < 256) : Ev (fun k => spec_Inv8.f k (m : Int)) ((inv8 m : Nat) : Int) := by
  have hinv := spec_inv8 (m : Int)
  unfold Inv8of at hinv
  rwa [if_pos ⟨by omega, by omega⟩, Int.toNat_natCast] at hinv
theorem xr_lt (i j : Nat) (hi : i < 64) (hj : j < 64) : xr i j < 64 := Nat.xor_lt_two_pow (n := 6) (by omega) (by omega)
theorem xr_bits (i j : Nat) (hi : i < 64) (hj : j < 64) : Go.bits .xor .i64 (i : Int) (j : Int) = ((xr i j : Nat) : Int) := bits_xor_i64 i j (by omega) (by omega)

/-- What CodeRow answers. -/
def codeRowOf (K M G i : Int) : List Int := if codeFaultOf K M G = 0 ∧ 0 ≤ i ∧ i < K + M + G then rowL K.toNat M.toNat G.toNat i.toNat else []
theorem codeRowOf_len (K M G i : Int) : (codeRowOf K M G i).length ≤ 32 := by
  unfold codeRowOf
  split
  · rename_i h
    have := codeFault_zero h.1
    rw [rowL_len]; omega
  · simp
def pre (L : List Int) (K j : Nat) : List Int := L.take j ++ List.replicate (K - j) 0
theorem pre_len (L : List Int) (K j : Nat) (hL : L.length = K) (hj : j ≤ K) : (pre L K j).length = K := by unfold pre; rw [List.length_append, List.length_take, List.length_replicate, hL]; omega
theorem pre_zero (L : List Int) (K : Nat) : pre L K 0 = List.replicate K 0 := by unfold pre; simp
theorem pre_full (L : List Int) (K : Nat) (hL : L.length = K) : pre L K K = L := by unfold pre; rw [Nat.sub_self, List.replicate_zero, List.append_nil, List.take_of_length_le (by omega)]
theorem pre_set (L : List Int) (K j : Nat) (hL : L.length = K) (hj : j < K) (x : Int) (hx : L[j]? = some x) : (pre L K j).set j x = pre L K (j + 1) := by
  have h := set_prefix_id (0 : Int) L j (by omega) x hx
  rw [hL] at h
  exact h
theorem pre_skip (L : List Int) (K j : Nat) (hL : L.length = K) (hj : j < K) (hx : L[j]? = some 0) : pre L K j = pre L K (j + 1) := by
  unfold pre
  rw [List.take_add_one, hx, show K - j = (K - (j + 1)) + 1 by omega, List.replicate_succ, List.append_assoc]
  rfl
section
variable (K M G i : Nat) (hK1 : 1 ≤ K) (hK : K ≤ 32) (hM : M ≤ 16) (hG : G ≤ 32)
include hK hM hG
theorem spec_row_l0 (h1 : ¬ i < K) (h2 : i < K + M) : ∀ (d j : Nat), K - j = d → j ≤ K → Ev (fun k => spec_CodeRow.l0 k (i : Int) (pre (rowL K M G i) K j) (j : Int) (K : Int) (M : Int) (G : Int)) (rowL K M G i) := by
  intro d
  induction d with
  | zero =>
    intro j hd hj
    have e : j = K := by omega
    subst e
    refine Ev.step (fun k => by rw [spec_CodeRow.l0, if_neg (by omega)]) (Ev.give ?_)
    exact pre_full _ _ (rowL_len _ _ _ _)
  | succ d ih =>
    intro j hd hj
    have hlt : j < K := by omega
    have hx : (rowL K M G i)[j]? = some ((inv8 (xr i j) : Nat) : Int) := by
      rw [rowL_get _ _ _ _ _ hlt]
      unfold rowC
      rw [if_neg h1, if_pos h2, tabInv_field _ (by have := xr_lt i j (by omega) (by omega); omega)]
    have hl := pre_len (rowL K M G i) K j (rowL_len _ _ _ _) hj
    refine Ev.step (fun k => by rw [spec_CodeRow.l0, if_pos (by omega), xr_bits i j (by omega) (by omega)]) ?_
    refine Ev.bind (inv8_ev _ (by have := xr_lt i j (by omega) (by omega); omega)) (Ev.pos (by omega) (Ev.pos (by omega) ?_))
    rw [Int.toNat_natCast, pre_set _ _ _ (rowL_len _ _ _ _) hlt _ hx, wrap64_id (x := (j : Int) + 1) (by omega) (by omega)]
    exact ih (j + 1) (by omega) (by omega)
theorem spec_row_l1 (h1 : ¬ i < K) (h2 : ¬ i < K + M) (h3 : i < K + M + G) : ∀ (d j : Nat), K - j = d → j ≤ K → Ev (fun k => spec_CodeRow.l1 k (i : Int) (pre (rowL K M G i) K j) (j : Int) (K : Int) (M : Int) (G : Int)) (rowL K M G i) := by
  intro d
  induction d with
  | zero =>
    intro j hd hj
    have e : j = K := by omega
    subst e
    refine Ev.step (fun k => by rw [spec_CodeRow.l1, if_neg (by omega)]) (Ev.give ?_)
    exact pre_full _ _ (rowL_len _ _ _ _)
  | succ d ih =>
    intro j hd hj
    have hlt : j < K := by omega
    have hx := rowL_get K M G i j hlt
    unfold rowC at hx
    rw [if_neg h1, if_neg h2] at hx
    have hl := pre_len (rowL K M G i) K j (rowL_len _ _ _ _) hj
    have hm : Int.tmod (j : Int) (G : Int) = ((j % G : Nat) : Int) := rfl
    have hw : wrap64 (wrap64 ((i : Int) - (K : Int)) - (M : Int)) = ((i - K - M : Nat) : Int) := by rw [wrap64_id (x := (i : Int) - (K : Int)) (by omega) (by omega), wrap64_id (by omega) (by omega)]; omega
    have h := ih (j + 1) (by omega) (by omega)
    refine Ev.step (fun k => by rw [spec_CodeRow.l1, if_pos (by omega), if_neg (by omega), hm, hw, wrap64_id (x := (j : Int) + 1) (by omega) (by omega)]) ?_
    by_cases e : j % G = i - K - M
    · rw [if_pos e] at hx
      refine Ev.pos (by omega) (Ev.pos (by omega) (Ev.pos (by omega) ?_))
      rw [Int.toNat_natCast, pre_set _ _ _ (rowL_len _ _ _ _) hlt _ hx]
      exact h
    · rw [if_neg e] at hx
      refine Ev.neg (by omega) ?_
      rw [pre_skip _ _ _ (rowL_len _ _ _ _) hlt hx]
      exact h
include hK1 in
theorem spec_row_j0 (h : i < K + M + G) : Ev (fun k => spec_CodeRow.j0 k (i : Int) false (K : Int) (M : Int) (G : Int)) (rowL K M G i) := by
  refine Ev.step (fun k => by rw [spec_CodeRow.j0, if_neg (by decide), if_pos (by omega), if_pos (by omega), Option.bind_some, Int.toNat_natCast, List.length_replicate]) ?_
  by_cases h1 : i < K
  · refine Ev.pos (by omega) (Ev.pos (by omega) (Ev.pos (by omega) (Ev.give ?_)))
    rw [Int.toNat_natCast]
    exact row_one K M G i h1
  · refine Ev.neg (by omega) ?_
    rw [wrap64_id (x := (K : Int) + (M : Int)) (by omega) (by omega), ← pre_zero (rowL K M G i) K]
    by_cases h2 : i < K + M
    · exact Ev.pos (by omega) (spec_row_l0 K M G i hK hM hG h1 h2 K 0 (by omega) (by omega))
    · exact Ev.neg (by omega) (spec_row_l1 K M G i hK hM hG h1 h2 h K 0 (by omega) (by omega))
end
theorem spec_codeRow (K M G i : Int) : Ev (fun k => spec_CodeRow.f k K M G i) (codeRowOf K M G i) := by
  refine Ev.congr (fun k => by rw [spec_CodeRow.f]) (Ev.bind (spec_codeFault K M G) ?_)
  unfold codeRowOf
  have none_ : Ev (fun k => spec_CodeRow.j0 k i true K M G) [] := Ev.step (fun k => by rw [spec_CodeRow.j0, if_pos rfl]) (Ev.now _)
  by_cases h0 : codeFaultOf K M G = 0
  · obtain ⟨b1, b2, b3, b4, b5, b6, b7⟩ := codeFault_zero h0
    refine Ev.pos h0 ?_
    by_cases h1 : i < 0
    · rw [if_neg (fun h => by omega)]
      exact Ev.pos h1 none_
    · refine Ev.neg h1 ?_
      rw [wrap64_id (x := K + M) (by omega) (by omega), wrap64_id (x := K + M + G) (by omega) (by omega)]
      by_cases h2 : i < K + M + G
      · rw [if_pos ⟨h0, by omega, h2⟩, show decide (i ≥ K + M + G) = false from decide_eq_false (by omega)]
        obtain ⟨K, rfl⟩ := Int.eq_ofNat_of_zero_le (show 0 ≤ K by omega)
        obtain ⟨M, rfl⟩ := Int.eq_ofNat_of_zero_le b3
        obtain ⟨G, rfl⟩ := Int.eq_ofNat_of_zero_le b5
        obtain ⟨i, rfl⟩ := Int.eq_ofNat_of_zero_le (show 0 ≤ i by omega)
        exact spec_row_j0 K M G i (by omega) (by omega) (by omega) (by omega) (by omega)
      · rw [if_neg (fun h => h2 h.2.2), show decide (i ≥ K + M + G) = true from decide_eq_true (by omega)]
        exact none_
  · rw [if_neg (fun h => h0 h.1)]
    exact Ev.neg h0 none_
theorem rowC_range (K M G i j : Nat) (hi : i < 64) (hj : j < 32) : 0 ≤ rowC K M G i j ∧ rowC K M G i j < 256 := by
  unfold rowC
  split
  · split <;> omega
  · split
    · rw [tabInv_field _ (by have := xr_lt i j hi (by omega); omega)]
      have := inv8_lt (xr i j) (by have := xr_lt i j hi (by omega); omega)
      omega
    · split <;> omega
theorem plant_of {K M G : Int} (h0 : codeFaultOf K M G = 0) : impl_newPlant.f K M G = some (plantNo K M G) ∧ pK (plantNo K M G) = K.toNat ∧ pM (plantNo K M G) = M.toNat ∧ pG (plantNo K M G) = G.toNat := by
  obtain ⟨b1, b2, b3, b4, b5, b6, b7⟩ := codeFault_zero h0
  refine ⟨?_, ?_⟩
  · unfold impl_newPlant.f
    rw [if_pos ⟨b1, b2, b3, b4, b5, by omega⟩]
  · obtain ⟨K, rfl⟩ := Int.eq_ofNat_of_zero_le (show 0 ≤ K by omega)
    obtain ⟨M, rfl⟩ := Int.eq_ofNat_of_zero_le b3
    obtain ⟨G, rfl⟩ := Int.eq_ofNat_of_zero_le b5
    exact plantNo_of K M G (by omega) (by omega) (by omega)
theorem plant_row {K M G i : Int} (h0 : codeFaultOf K M G = 0) (hi0 : 0 ≤ i) (hi : i < K + M + G) : impl_plant_row.f (plantNo K M G) i = some (rowL K.toNat M.toNat G.toNat i.toNat) := by
  obtain ⟨_, e1, e2, e3⟩ := plant_of h0
  obtain ⟨b1, b2, b3, b4, b5, b6, b7⟩ := codeFault_zero h0
  unfold impl_plant_row.f
  rw [e1, e2, e3, if_pos ⟨hi0, by omega⟩]

/-! The table's product is the field's. -/
def p2 : Nat → Nat
  | 0 => 1
  | n + 1 => mul8 (p2 n) 2
theorem p2_lt : ∀ n, p2 n < 256
  | 0 => by decide
  | n + 1 => mul8_lt _ _ (p2_lt n)
theorem p2_add (m : Nat) : ∀ n, mul8 (p2 m) (p2 n) = p2 (m + n)
  | 0 => mul8_one _ (p2_lt m)
  | n + 1 => by
    show mul8 (p2 m) (mul8 (p2 n) 2) = mul8 (p2 (m + n)) 2
    rw [← mul8_assoc _ _ _ (p2_lt m) (p2_lt n), p2_add m n]
theorem p2_ex : ∀ j, j < 255 → p2 j = ex j
  | 0, _ => by decide +kernel
  | j + 1, h => by
    show mul8 (p2 j) 2 = ex (j + 1)
    rw [p2_ex j (by omega)]
    have key : ∀ x : Fin 254, mul8 (ex x.val) 2 = ex (x.val + 1) := by decide +kernel
    exact key ⟨j, by omega⟩
theorem p2_255 : p2 255 = 1 := by
  show mul8 (p2 254) 2 = 1
  rw [p2_ex 254 (by omega)]
  decide +kernel
theorem lg_ex : ∀ a : Fin 256, lg a.val < 255 ∧ (a.val ≠ 0 → ex (lg a.val) = a.val) := by decide +kernel
theorem tabMul_field (a b : Nat) (ha : a < 256) (hb : b < 256) : tabMul a b = mul8 a b := by
  unfold tabMul
  by_cases h0 : a = 0
  · rw [if_pos h0, h0, zero_mul8 b hb]
  · rw [if_neg h0]
    by_cases h1 : b = 0
    · rw [if_pos h1, h1, mul8_zero]
    · rw [if_neg h1]
      obtain ⟨l0, e0⟩ := lg_ex ⟨a, ha⟩
      obtain ⟨l1, e1⟩ := lg_ex ⟨b, hb⟩
      simp only at l0 l1 e0 e1
      have f0 := e0 h0
      have f1 := e1 h1
      rw [← p2_ex _ l0] at f0
      rw [← p2_ex _ l1] at f1
      have e : mul8 a b = p2 (lg a + lg b) := by rw [← p2_add, f0, f1]
      rw [e]
      unfold tE
      by_cases h : lg a + lg b < 255
      · rw [if_pos h, p2_ex _ h]
      · rw [if_neg h, if_pos ⟨by omega, by omega⟩, ← p2_ex _ (by omega : lg a + lg b - 255 < 255)]
        have h2 : lg a + lg b = 255 + (lg a + lg b - 255) := by omega
        conv => rhs; rw [h2, ← p2_add, p2_255]
        rw [one_mul8 _ (p2_lt _)]

/-! The reference's mixture is the program's. -/
theorem mixF_eq (n : Nat) (l1 : List Int) (l2 : List ByteArray) (m : Nat) : mixL n l1 l2 m = mixM n l1 l2 m 0 := mixF_in n l1 l2 m
theorem bt_bd (s : ByteArray) (i : Int) : 0 ≤ bt s i ∧ bt s i < 256 := by
  unfold bt
  split
  · have := (s[i.toNat]).toNat_lt; omega
  · omega
theorem tabMul_lt (a b : Nat) (ha : a < 256) (hb : b < 256) : tabMul a b < 256 := by rw [tabMul_field a b ha hb]; exact mul8_lt _ _ ha
section
variable (n : Nat) (l1 : List Int) (l2 : List ByteArray) (hn : n ≤ 1000000) (h12 : l1.length ≤ l2.length) (hl2 : l2.length ≤ 1000000) (hb1 : ∀ x ∈ l1, 0 ≤ x ∧ x < 256) (hs : ∀ s ∈ l2, s.size = n)
include hn h12 hl2 hb1 hs
theorem mixV_bd (i : Nat) : ∀ m, m ≤ l1.length → mixV l1 l2 i m < 256
  | 0, _ => by unfold mixV; omega
  | m + 1, h => by
    unfold mixV
    have h1 := hb1 (l1[m]'(by omega)) (List.getElem_mem (by omega))
    have h2 := bt_bd (rdOf ByteArray.empty l2 (m : Int)) (i : Int)
    rw [rd_at l1 m (by omega)]
    exact Nat.xor_lt_two_pow (n := 8) (mixV_bd i m (by omega)) (tabMul_lt _ _ (by omega) (by omega))
theorem spec_mix_l1 (m : Nat) (hm : m < l1.length) (r : ByteArray) (hnx : Ev (fun k => spec_l04Mix.l0 k l1 l2 (n : Int) (mixL n l1 l2 (m + 1)) ((m + 1 : Nat) : Int)) r) : ∀ (d i : Nat), n - i = d → i ≤ n →
    Ev (fun k => spec_l04Mix.l1 k l1 l2 (n : Int) (mixM n l1 l2 m i) (m : Int) (i : Int)) r := by
  intro d
  induction d with
  | zero =>
    intro i hd hi
    have e : i = n := by omega
    subst e
    refine Ev.step (fun k => by rw [spec_l04Mix.l1, if_neg (by omega), wrap64_id (x := (m : Int) + 1) (by omega) (by omega), mixF_out]) ?_
    exact hnx
  | succ d ih =>
    intro i hd hi
    have hlt : i < n := by omega
    have hsz : (rdOf ByteArray.empty l2 (m : Int)).size = n := by rw [rds_at l2 m (by omega)]; exact hs _ (List.getElem_mem _)
    have hx := hb1 (l1[m]'hm) (List.getElem_mem hm)
    have hbt := bt_bd (rdOf ByteArray.empty l2 (m : Int)) (i : Int)
    have hv := mixV_bd n l1 l2 hn h12 hl2 hb1 hs i m (by omega)
    have hmul := spec_mul8 l1[m] (bt (rdOf ByteArray.empty l2 (m : Int)) (i : Int))
    obtain ⟨x, hxe⟩ := Int.eq_ofNat_of_zero_le hx.1
    obtain ⟨y, hye⟩ := Int.eq_ofNat_of_zero_le hbt.1
    have hset := mixF_set n l1 l2 m i hlt
    have hstep : mixV l1 l2 i (m + 1) = mixV l1 l2 i m ^^^ mul8 x y := by
      show mixV l1 l2 i m ^^^ tabMul (rd l1 (m : Int)).toNat (bt (rdOf ByteArray.empty l2 (m : Int)) (i : Int)).toNat = _
      rw [rd_at l1 m hm, hxe, hye, Int.toNat_natCast, Int.toNat_natCast, tabMul_field x y (by omega) (by omega)]
    have hml : mul8 x y < 256 := mul8_lt _ _ (by omega)
    rw [hxe, hye, Mul8of_nat x y (by omega) (by omega)] at hmul
    refine Ev.step (fun k => by rw [spec_l04Mix.l1, if_pos (by omega), if_pos (by omega), if_pos (by rw [mixF_lenM]; omega), if_pos (by omega), if_pos (by omega), if_pos (by omega), if_pos (by rw [hsz]; omega), rd_at l1 m hm, hxe, hye, wrap64_id (x := (y : Int)) (by omega) (by omega)]) ?_
    refine Ev.bind hmul ?_
    have hrd : rd (mixM n l1 l2 m i) (i : Int) = ((mixV l1 l2 i m : Nat) : Int) := mixF_rd n l1 l2 m i hlt
    rw [hrd, show ((mul8 x y : Nat) : Int) % 256 = ((mul8 x y : Nat) : Int) by omega, bits_xor_u8 _ _ hv hml, ← hstep, Int.toNat_natCast, hset, wrap64_id (x := (i : Int) + 1) (by omega) (by omega)]
    exact ih (i + 1) (by omega) (by omega)
theorem spec_mix_l0 : ∀ (d m : Nat), l1.length - m = d → m ≤ l1.length → Ev (fun k => spec_l04Mix.l0 k l1 l2 (n : Int) (mixL n l1 l2 m) (m : Int)) (mixF n l1 l2) := by
  intro d
  induction d with
  | zero =>
    intro m hd hm
    have e : m = l1.length := by omega
    subst e
    refine Ev.step (fun k => by rw [spec_l04Mix.l0, if_neg (by omega)]) (Ev.give ?_)
    rfl
  | succ d ih =>
    intro m hd hm
    have hlt : m < l1.length := by omega
    have h := ih (m + 1) (by omega) (by omega)
    refine Ev.step (fun k => by rw [spec_l04Mix.l0, if_pos (by omega), if_pos (by omega), wrap64_id (x := (m : Int) + 1) (by omega) (by omega)]) ?_
    by_cases h0 : rd l1 (m : Int) = 0
    · refine Ev.pos h0 ?_
      rw [mixF_zero n l1 l2 m h0]
      exact h
    · refine Ev.neg h0 ?_
      rw [mixF_in]
      exact spec_mix_l1 n l1 l2 hn h12 hl2 hb1 hs m hlt _ h n 0 (by omega) (by omega)
theorem spec_mix : Ev (fun k => spec_l04Mix.f k l1 l2 (n : Int)) (mixF n l1 l2) := by
  refine Ev.congr (fun k => by rw [spec_l04Mix.f, if_pos (by omega), if_pos (by omega), Int.toNat_natCast, mixF_start n l1 l2]) ?_
  exact spec_mix_l0 n l1 l2 hn h12 hl2 hb1 hs l1.length 0 (by omega) (by omega)
end
/-- A row with a one alone. -/
theorem mixV_one (l1 : List Int) (l2 : List ByteArray) (i t : Nat) (h1 : ∀ j, j < l1.length → rd l1 (j : Int) = if j = i then 1 else 0) : ∀ m, m ≤ l1.length → mixV l1 l2 t m = if i < m then (bt (rdOf ByteArray.empty l2 (i : Int)) (t : Int)).toNat else 0
  | 0, _ => by unfold mixV; rw [if_neg (by omega)]
  | m + 1, h => by
    unfold mixV
    rw [mixV_one l1 l2 i t h1 m (by omega), h1 m (by omega)]
    have hb := bt_bd (rdOf ByteArray.empty l2 (m : Int)) (t : Int)
    by_cases e : m = i
    · subst e
      rw [if_pos rfl, if_neg (by omega), if_pos (by omega), Nat.zero_xor, show (1 : Int).toNat = 1 from rfl, tabMul_field _ _ (by omega) (by omega), one_mul8 _ (by omega)]
    · rw [if_neg e, show tabMul (0 : Int).toNat (bt (rdOf ByteArray.empty l2 (m : Int)) (t : Int)).toNat = 0 from rfl, Nat.xor_zero]
      by_cases e2 : i < m
      · rw [if_pos e2, if_pos (by omega)]
      · rw [if_neg e2, if_neg (by omega)]
theorem strOf_bytes (s : ByteArray) (l : List Int) (hl : l.length = s.size) (h : ∀ t, t < s.size → l[t]? = some (bt s (t : Int))) : strOfNums l = s := by
  have e : l = bI s.data.toList := by
    apply List.ext_getElem?
    intro t
    unfold bI
    rw [List.getElem?_map]
    by_cases ht : t < s.size
    · obtain ⟨c, hc, hb⟩ := bt_get s t ht
      rw [h t ht, hc, hb]; rfl
    · rw [List.getElem?_eq_none (by omega), List.getElem?_eq_none (by simpa using ht)]; rfl
  rw [e, strOf_bI, mkB_data]
theorem mixF_unit (n : Nat) (l1 : List Int) (l2 : List ByteArray) (i : Nat) (hi : i < l1.length) (h1 : ∀ j, j < l1.length → rd l1 (j : Int) = if j = i then 1 else 0) (hs : (rdOf ByteArray.empty l2 (i : Int)).size = n) : mixF n l1 l2 = rdOf ByteArray.empty l2 (i : Int) := by
  unfold mixF
  refine strOf_bytes _ _ (by rw [mixF_len, hs]) (fun t ht => ?_)
  unfold mixL
  rw [List.getElem?_map, List.getElem?_range (by omega)]
  have hb := bt_bd (rdOf ByteArray.empty l2 (i : Int)) (t : Int)
  show some ((mixV l1 l2 t l1.length : Nat) : Int) = _
  rw [mixV_one l1 l2 i t h1 _ (Nat.le_refl _), if_pos hi]
  congr 1
  omega

/-! Shards of a code. -/
def szP (n : Nat) (s : ByteArray) : Bool := decide (1 ≤ s.size ∧ s.size ≤ 4096 ∧ s.size = n)
def oneOk (l : List ByteArray) : Bool := l.all (szP (rdOf ByteArray.empty l 0).size)
def shardsOf (K M G : Int) (l : List ByteArray) : List ByteArray := (List.range (K.toNat + M.toNat + G.toNat)).map fun i => mixF (rdOf ByteArray.empty l 0).size (rowL K.toNat M.toNat G.toNat i) l
def encOf (K M G : Int) (l : List ByteArray) : Int × List ByteArray := if codeFaultOf K M G = 0 ∧ (l.length : Int) = K then (if oneOk l = true then (0, shardsOf K M G l) else (2, [])) else (1, [])
theorem encOf_len (K M G : Int) (l : List ByteArray) : (encOf K M G l).2.length ≤ 64 := by
  unfold encOf
  split
  · rename_i h
    have := codeFault_zero h.1
    split
    · show (shardsOf K M G l).length ≤ 64
      unfold shardsOf
      rw [List.length_map, List.length_range]
      omega
    · simp
  · simp
theorem oneOk_all {l : List ByteArray} (h : oneOk l = true) : ∀ s ∈ l, s.size = (rdOf ByteArray.empty l 0).size ∧ 1 ≤ s.size ∧ s.size ≤ 4096 := by
  unfold oneOk at h
  rw [List.all_eq_true] at h
  intro s hs
  have := h s hs
  simp only [szP, decide_eq_true_eq] at this
  exact ⟨this.2.2, this.1, this.2.1⟩
theorem all_drop (p : ByteArray → Bool) (l : List ByteArray) (i : Nat) (h : i < l.length) : (l.drop i).all p = (p l[i] && (l.drop (i + 1)).all p) := by
  rw [List.drop_eq_getElem_cons h, List.all_cons]
theorem spec_len_l0 (l : List ByteArray) (hl : l.length ≤ 1048576) : ∀ (d i : Nat), l.length - i = d → 1 ≤ i → i ≤ l.length →
    Ev (fun k => spec_l04Len.l0 k l (List.replicate l.length true) ((rdOf ByteArray.empty l 0).size : Int) (i : Int)) (if (l.drop i).all (szP (rdOf ByteArray.empty l 0).size) = true then ((rdOf ByteArray.empty l 0).size : Int) else -1) := by
  intro d
  induction d with
  | zero =>
    intro i hd h1 hi
    refine Ev.step (fun k => by rw [spec_l04Len.l0, if_neg (by omega)]) (Ev.give ?_)
    rw [List.drop_eq_nil_of_le (by omega)]; rfl
  | succ d ih =>
    intro i hd h1 hi
    have hlt : i < l.length := by omega
    have hfl : rdOf false (List.replicate l.length true) (i : Int) = true := by
      unfold rdOf; rw [Int.toNat_natCast, List.getD_eq_getElem?_getD, List.getElem?_replicate, if_pos hlt]; rfl
    refine Ev.step (fun k => by rw [spec_l04Len.l0, if_pos (by omega), if_pos (by omega), if_pos (by rw [List.length_replicate]; omega), if_pos hfl, if_pos (by omega), rds_at l i hlt]) ?_
    rw [all_drop _ l i hlt]
    have e : szP (rdOf ByteArray.empty l 0).size l[i] = decide (1 ≤ l[i].size ∧ l[i].size ≤ 4096 ∧ l[i].size = (rdOf ByteArray.empty l 0).size) := rfl
    by_cases h3 : (l[i].size : Int) = ((rdOf ByteArray.empty l 0).size : Int)
    · refine Ev.pos h3 ?_
      by_cases h4 : (l[i].size : Int) < 1
      · refine Ev.pos h4 (Ev.step (fun k => by rw [spec_l04Len.j1, if_pos rfl]) (Ev.give ?_))
        rw [e, decide_eq_false (by omega)]; rfl
      · refine Ev.neg h4 ?_
        by_cases h5 : (l[i].size : Int) > 4096
        · rw [decide_eq_true h5]
          refine Ev.step (fun k => by rw [spec_l04Len.j1, if_pos rfl]) (Ev.give ?_)
          rw [e, decide_eq_false (by omega)]; rfl
        · rw [decide_eq_false h5]
          refine Ev.step (fun k => by rw [spec_l04Len.j1, if_neg (by decide), if_pos (by omega), if_pos (by omega), rds_at l i hlt, wrap64_id (x := (i : Int) + 1) (by omega) (by omega)]) ?_
          rw [e, decide_eq_true (by omega), Bool.true_and, h3]
          exact ih (i + 1) (by omega) (by omega) (by omega)
    · refine Ev.neg h3 (Ev.step (fun k => by rw [spec_l04Len.j1, if_pos rfl]) (Ev.give ?_))
      rw [e, decide_eq_false (by omega)]; rfl
theorem spec_len (l : List ByteArray) (hl : l.length ≤ 1048576) (h0 : 0 < l.length) : Ev (fun k => spec_l04Len.f k l (List.replicate l.length true)) (if oneOk l = true then ((rdOf ByteArray.empty l 0).size : Int) else -1) := by
  refine Ev.congr (fun k => by rw [spec_l04Len.f]) ?_
  have hfl : rdOf false (List.replicate l.length true) 0 = true := by
    unfold rdOf; rw [show (0 : Int).toNat = 0 from rfl, List.getD_eq_getElem?_getD, List.getElem?_replicate, if_pos h0]; rfl
  have h := spec_len_l0 l hl (l.length - 1) 1 rfl (by omega) (by omega)
  refine Ev.step (fun k => by rw [spec_l04Len.l0, if_pos (by omega), if_pos (by omega), if_pos (by rw [List.length_replicate]; omega), if_pos hfl, if_neg (by omega)]) ?_
  have e0 : oneOk l = (szP (rdOf ByteArray.empty l 0).size (rdOf ByteArray.empty l 0) && (l.drop 1).all (szP (rdOf ByteArray.empty l 0).size)) := by
    have := all_drop (szP (rdOf ByteArray.empty l 0).size) l 0 h0
    rw [List.drop_zero] at this
    rw [show rdOf ByteArray.empty l 0 = l[0] from rds_at l 0 h0] at this ⊢
    unfold oneOk
    rw [show rdOf ByteArray.empty l 0 = l[0] from rds_at l 0 h0]
    exact this
  rw [e0]
  have hj : ∀ k, spec_l04Len.j1 (k + 1) l (List.replicate l.length true) 0 false = spec_l04Len.l0 k l (List.replicate l.length true) ((rdOf ByteArray.empty l 0).size : Int) (wrap64 (0 + 1)) := fun k => by
    rw [spec_l04Len.j1, if_neg (by decide), if_pos (by omega), if_pos (by omega)]
  generalize rdOf ByteArray.empty l 0 = s at h hj ⊢
  have e : szP s.size s = decide (1 ≤ s.size ∧ s.size ≤ 4096 ∧ s.size = s.size) := rfl
  by_cases h4 : (s.size : Int) < 1
  · refine Ev.pos h4 (Ev.step (fun k => by rw [spec_l04Len.j1, if_pos rfl]) (Ev.give ?_))
    rw [e, decide_eq_false (by omega)]; rfl
  · refine Ev.neg h4 ?_
    by_cases h5 : (s.size : Int) > 4096
    · rw [decide_eq_true h5]
      refine Ev.step (fun k => by rw [spec_l04Len.j1, if_pos rfl]) (Ev.give ?_)
      rw [e, decide_eq_false (by omega)]; rfl
    · rw [decide_eq_false h5]
      refine Ev.step hj ?_
      rw [e, decide_eq_true (by omega), Bool.true_and, show wrap64 (0 + 1) = ((1 : Nat) : Int) from by rw [wrap64_id (by omega) (by omega)]; rfl]
      exact h
section
variable {K M G : Int} {l : List ByteArray} (h0 : codeFaultOf K M G = 0) (hK : (l.length : Int) = K) (hok : oneOk l = true)
include h0 hK hok
theorem enc_facts : (rdOf ByteArray.empty l 0).size ≤ 4096 ∧ 1 ≤ (rdOf ByteArray.empty l 0).size ∧ 1 ≤ l.length ∧ l.length ≤ 32 ∧ l.length = K.toNat := by
  obtain ⟨b1, b2, b3, b4, b5, b6, b7⟩ := codeFault_zero h0
  have hl : 0 < l.length := by omega
  have := oneOk_all hok _ (List.getElem_mem hl)
  rw [show rdOf ByteArray.empty l 0 = l[0] from rds_at l 0 hl]
  omega
theorem enc_row (i : Nat) (hi : (i : Int) < K + M + G) : (rowL K.toNat M.toNat G.toNat i).length = l.length ∧ ∀ x ∈ rowL K.toNat M.toNat G.toNat i, 0 ≤ x ∧ x < 256 := by
  obtain ⟨b1, b2, b3, b4, b5, b6, b7⟩ := codeFault_zero h0
  refine ⟨by rw [rowL_len]; omega, fun x hx => ?_⟩
  obtain ⟨j, hj, rfl⟩ := List.mem_map.1 (show x ∈ (List.range K.toNat).map (rowC K.toNat M.toNat G.toNat i) from hx)
  exact rowC_range _ _ _ _ _ (by omega) (by have := List.mem_range.1 hj; omega)
theorem spec_all_l0 : ∀ (d i : Nat), (K.toNat + M.toNat + G.toNat) - i = d → i ≤ K.toNat + M.toNat + G.toNat →
    Ev (fun k => spec_l04All.l0 k l ((rdOf ByteArray.empty l 0).size : Int) ((shardsOf K M G l).take i) (i : Int) K M G) (shardsOf K M G l) := by
  obtain ⟨b1, b2, b3, b4, b5, b6, b7⟩ := codeFault_zero h0
  obtain ⟨f1, f2, f3, f4, f5⟩ := enc_facts h0 hK hok
  have hlen : (shardsOf K M G l).length = K.toNat + M.toNat + G.toNat := by unfold shardsOf; simp
  have hsz : Ev (fun k => spec_CodeSize.f k K M G) (K + M + G) := by
    refine Ev.congr (fun k => by rw [spec_CodeSize.f]) (Ev.bind (spec_codeFault K M G) (Ev.pos h0 (Ev.give ?_)))
    rw [wrap64_id (x := K + M) (by omega) (by omega), wrap64_id (x := K + M + G) (by omega) (by omega)]
  intro d
  induction d with
  | zero =>
    intro i hd hi
    refine Ev.step (fun k => by rw [spec_l04All.l0]) ?_
    refine Ev.bind hsz ?_
    refine Ev.neg (show ¬ (i : Int) < K + M + G by omega) (Ev.give ?_)
    exact List.take_of_length_le (by omega)
  | succ d ih =>
    intro i hd hi
    have hr := spec_codeRow K M G (i : Int)
    unfold codeRowOf at hr
    rw [if_pos ⟨h0, by omega, by omega⟩, Int.toNat_natCast] at hr
    obtain ⟨r1, r2⟩ := enc_row h0 hK hok i (by omega)
    have hm := spec_mix (rdOf ByteArray.empty l 0).size (rowL K.toNat M.toNat G.toNat i) l (by omega) (by omega) (by omega) r2 (fun s hs => (oneOk_all hok s hs).1)
    refine Ev.step (fun k => by rw [spec_l04All.l0]) ?_
    refine Ev.bind hsz ?_
    refine Ev.pos (show (i : Int) < K + M + G by omega) ?_
    refine Ev.bind hr ?_
    refine Ev.bind hm ?_
    refine Ev.pos (by rw [List.length_take]; omega) ?_
    rw [wrap64_id (x := (i : Int) + 1) (by omega) (by omega)]
    have h := ih (i + 1) (by omega) (by omega)
    rw [List.take_add_one, show (shardsOf K M G l)[i]? = some (mixF (rdOf ByteArray.empty l 0).size (rowL K.toNat M.toNat G.toNat i) l) by unfold shardsOf; rw [List.getElem?_map, List.getElem?_range (by omega)]; rfl] at h
    exact h
theorem impl_enc_l0 : ∀ (d i : Nat), (K.toNat + M.toNat + G.toNat) - i = d → i ≤ K.toNat + M.toNat + G.toNat →
    Ev (fun k => impl_plant_encode.l0 k (plantNo K M G) l ((shardsOf K M G l).take i) ((K.toNat + M.toNat + G.toNat : Nat) : Int) (i : Int)) (shardsOf K M G l) := by
  obtain ⟨b1, b2, b3, b4, b5, b6, b7⟩ := codeFault_zero h0
  obtain ⟨f1, f2, f3, f4, f5⟩ := enc_facts h0 hK hok
  have hlen : (shardsOf K M G l).length = K.toNat + M.toNat + G.toNat := by unfold shardsOf; simp
  intro d
  induction d with
  | zero =>
    intro i hd hi
    refine Ev.step (fun k => by rw [impl_plant_encode.l0, if_neg (by omega)]) (Ev.give ?_)
    exact List.take_of_length_le (by omega)
  | succ d ih =>
    intro i hd hi
    obtain ⟨r1, r2⟩ := enc_row h0 hK hok i (by omega)
    have h := ih (i + 1) (by omega) (by omega)
    rw [List.take_add_one, show (shardsOf K M G l)[i]? = some (mixF (rdOf ByteArray.empty l 0).size (rowL K.toNat M.toNat G.toNat i) l) by unfold shardsOf; rw [List.getElem?_map, List.getElem?_range (by omega)]; rfl] at h
    refine Ev.step (fun k => by rw [impl_plant_encode.l0, if_pos (by omega), wrap64_id (x := (i : Int) + 1) (by omega) (by omega)]) ?_
    by_cases hi2 : i < l.length
    · refine Ev.pos (by omega) (Ev.pos (by omega) (Ev.pos (by rw [List.length_take]; omega) ?_))
      rw [mixF_unit _ (rowL K.toNat M.toNat G.toNat i) l i (by omega) (fun j hj => by
        have g := rowL_get K.toNat M.toNat G.toNat i j (by omega)
        unfold rd
        rw [Int.toNat_natCast, List.getD_eq_getElem?_getD, g]
        show rowC _ _ _ i j = _
        unfold rowC
        rw [if_pos (by omega)]) (by rw [rds_at l i hi2]; exact (oneOk_all hok _ (List.getElem_mem hi2)).1)] at h
      exact h
    · refine Ev.neg (by omega) ?_
      have hrow := plant_row (i := (i : Int)) h0 (by omega) (by omega)
      rw [Int.toNat_natCast] at hrow
      refine Ev.bindS hrow (Ev.bindS (a := mixF (rdOf ByteArray.empty l 0).size (rowL K.toNat M.toNat G.toNat i) l) ?_ (Ev.pos (by rw [List.length_take]; omega) h))
      unfold impl_plant_mix.f
      rw [if_pos]
      unfold mixOk
      simp only [Bool.and_eq_true, decide_eq_true_eq, List.all_eq_true]
      exact ⟨⟨⟨by omega, by omega, by omega, by omega, by omega⟩, r2⟩, fun s hs => (oneOk_all hok s hs).1⟩
theorem impl_enc : Ev (fun k => impl_plant_encode.f k (plantNo K M G) l) (shardsOf K M G l) := by
  obtain ⟨_, e1, e2, e3⟩ := plant_of h0
  refine Ev.congr (fun k => by rw [impl_plant_encode.f]) ?_
  refine Ev.bindS (a := ((K.toNat + M.toNat + G.toNat : Nat) : Int)) (by unfold impl_plant_size.f; rw [e1, e2, e3]) ?_
  exact impl_enc_l0 h0 hK hok _ 0 rfl (by omega)
end
def flagsT (n i : Nat) : List Bool := List.replicate i true ++ List.replicate (n - i) false
theorem flagsT_set (n i : Nat) (h : i < n) : (flagsT n i).set i true = flagsT n (i + 1) := by
  unfold flagsT
  rw [List.set_append_right _ _ (by simp), List.length_replicate, Nat.sub_self, show n - i = (n - (i + 1)) + 1 by omega, List.replicate_succ, List.set_cons_zero, List.replicate_succ', List.append_assoc]
  rfl
theorem spec_enc_l0 (K M G : Int) (l : List ByteArray) (r : Int × List ByteArray) (hl : l.length ≤ 1048576)
    (hr : Ev (fun k => ((spec_l04Len.f k l (List.replicate l.length true)).bind fun t161 => (if t161 < 0 then (some (2, ([] : List ByteArray))) else ((spec_l04All.f k K M G l t161).bind fun t162 => (some (0, t162)))))) r) : ∀ (d i : Nat), l.length - i = d → i ≤ l.length →
    Ev (fun k => spec_EncodeShards.l0 k l (flagsT l.length i) (i : Int) K M G) r := by
  intro d
  induction d with
  | zero =>
    intro i hd hi
    have e : i = l.length := by omega
    have hf : (flagsT l.length i).length = l.length := by unfold flagsT; simp; omega
    refine Ev.step (fun k => by rw [spec_EncodeShards.l0, if_neg (by omega)]) ?_
    rw [show flagsT l.length i = List.replicate l.length true by unfold flagsT; rw [e]; simp]
    exact hr
  | succ d ih =>
    intro i hd hi
    have hf : (flagsT l.length i).length = l.length := by unfold flagsT; simp; omega
    refine Ev.step (fun k => by rw [spec_EncodeShards.l0, if_pos (by omega), if_pos (by omega), Int.toNat_natCast, flagsT_set _ _ (by omega), wrap64_id (x := (i : Int) + 1) (by omega) (by omega)]) ?_
    exact ih (i + 1) (by omega) (by omega)
theorem spec_encode (K M G : Int) (l : List ByteArray) (hl : l.length ≤ 1048576) : Ev (fun k => spec_EncodeShards.f k K M G l) (encOf K M G l) := by
  refine Ev.congr (fun k => by rw [spec_EncodeShards.f]) (Ev.bind (spec_codeFault K M G) ?_)
  unfold encOf
  have none_ : Ev (fun k => spec_EncodeShards.j0 k l true K M G) (1, []) := Ev.step (fun k => by rw [spec_EncodeShards.j0, if_pos rfl]) (Ev.now _)
  by_cases h0 : codeFaultOf K M G = 0
  · refine Ev.pos h0 ?_
    by_cases hK : (l.length : Int) = K
    · obtain ⟨b1, b2, b3, b4, b5, b6, b7⟩ := codeFault_zero h0
      rw [if_pos ⟨h0, hK⟩, show ((l.length : Int) != K) = false from bne_eq_false_iff_eq.mpr hK]
      refine Ev.step (fun k => by rw [spec_EncodeShards.j0, if_neg (by decide), if_pos (by omega), if_pos (by omega), Int.toNat_natCast]) ?_
      have hst := spec_enc_l0 K M G l (if oneOk l = true then (0, shardsOf K M G l) else (2, [])) hl ?_ l.length 0 (by omega) (by omega)
      · have e : flagsT l.length 0 = List.replicate l.length false := by unfold flagsT; simp
        rw [e] at hst
        exact hst
      · refine Ev.bind (spec_len l hl (by omega)) ?_
        by_cases hok : oneOk l = true
        · rw [if_pos hok, if_pos hok]
          refine Ev.neg (by omega) (Ev.bind (Ev.congr (fun k => by rw [spec_l04All.f]) ?_) (Ev.now _))
          exact spec_all_l0 h0 hK hok _ 0 rfl (by omega)
        · rw [if_neg hok, if_neg hok]
          exact Ev.pos (by omega) (Ev.now _)
    · rw [if_neg (fun h => hK h.2), show ((l.length : Int) != K) = true from bne_iff_ne.mpr hK]
      exact none_
  · rw [if_neg (fun h => h0 h.1)]
    exact Ev.neg h0 none_

/-! What SplitObject makes. -/
theorem rdOf_get (l : List ByteArray) (i : Nat) (h : i < l.length) : rdOf ByteArray.empty l (i : Int) = l[i] := rds_at l i h
theorem daOf_at (d : ByteArray) (o K u i : Nat) (h : i < K) : (daOf d o K u)[i]? = some (strOfNums (daBytes d (o + i * u) u)) := by
  unfold daOf
  rw [List.getElem?_map, List.getElem?_range h]
  rfl
theorem daOf_size (d : ByteArray) (o K u : Nat) : ∀ s ∈ daOf d o K u, s.size = u := by
  intro s hs
  obtain ⟨i, _, rfl⟩ := List.mem_map.1 (show s ∈ (List.range K).map (fun i => strOfNums (daBytes d (o + i * u) u)) from hs)
  rw [size_strOfNums]
  simp [daBytes]
theorem daOf_ok (d : ByteArray) (o K u : Nat) (hK : 1 ≤ K) (hu1 : 1 ≤ u) (hu : u ≤ 4096) : oneOk (daOf d o K u) = true := by
  have hl : (daOf d o K u).length = K := by simp [daOf]
  have h0 : rdOf ByteArray.empty (daOf d o K u) 0 = (daOf d o K u)[0]'(by omega) := rdOf_get _ 0 (by omega)
  have hs := daOf_size d o K u
  unfold oneOk
  rw [List.all_eq_true]
  intro s hm
  unfold szP
  rw [h0, hs _ (List.getElem_mem _), hs s hm]
  simp
  omega
theorem shards_data {K M G : Int} {l : List ByteArray} (h0 : codeFaultOf K M G = 0) (hK : (l.length : Int) = K) (hok : oneOk l = true) (i : Nat) (hi : i < l.length) :
    (shardsOf K M G l).length = K.toNat + M.toNat + G.toNat ∧ rdOf ByteArray.empty (shardsOf K M G l) (i : Int) = rdOf ByteArray.empty l (i : Int) := by
  have hlen : (shardsOf K M G l).length = K.toNat + M.toNat + G.toNat := by simp [shardsOf]
  refine ⟨hlen, ?_⟩
  have hi2 : i < (shardsOf K M G l).length := by omega
  rw [rdOf_get _ i hi2]
  have hq : (shardsOf K M G l)[i]? = some (mixF (rdOf ByteArray.empty l 0).size (rowL K.toNat M.toNat G.toNat i) l) := by
    unfold shardsOf
    rw [List.getElem?_map, List.getElem?_range (by omega)]
    rfl
  have hg : (shardsOf K M G l)[i] = mixF (rdOf ByteArray.empty l 0).size (rowL K.toNat M.toNat G.toNat i) l := by
    have h := List.getElem?_eq_getElem hi2
    rw [hq] at h
    exact (Option.some.inj h).symm
  rw [hg]
  refine mixF_unit _ _ _ i (by rw [rowL_len]; omega) (fun j hj => ?_) ?_
  · rw [rowL_len] at hj
    unfold rd
    rw [Int.toNat_natCast, List.getD_eq_getElem?_getD, rowL_get _ _ _ _ _ hj]
    unfold rowC
    rw [if_pos (by omega)]
    rfl
  · rw [rdOf_get l i hi]
    exact (oneOk_all hok _ (List.getElem_mem hi)).1
def stripesOf (K M G u : Int) (d : ByteArray) (n : Nat) : List S86 := (List.range n).map fun t => ⟨shardsOf K M G (daOf d (t * K.toNat * u.toNat) K.toNat u.toNat)⟩
theorem stripesOf_succ (K M G u : Int) (d : ByteArray) (n : Nat) : stripesOf K M G u d (n + 1) = stripesOf K M G u d n ++ [⟨shardsOf K M G (daOf d (n * K.toNat * u.toNat) K.toNat u.toNat)⟩] := by
  unfold stripesOf
  rw [List.range_succ, List.map_append]
  rfl
theorem split_l0 (K M G u : Int) (d : ByteArray) (n : Nat) (h0 : codeFaultOf K M G = 0) (hu1 : 1 ≤ u) (hu : u ≤ 4096) (hd : d.size ≤ 100000) (hn : n ≤ 200) (hfit : ∀ i, i < n → i * K.toNat * u.toNat ≤ d.size) : ∀ (m i : Nat), n - i = m → i ≤ n →
    Ev (fun k => impl_SplitObject.l0 k d (plantNo K M G) (n : Int) (i : Int) K M G u (d.size : Int) 0 (stripesOf K M G u d i)) (0, stripesOf K M G u d n) := by
  obtain ⟨b1, b2, -, -, -, -, -⟩ := codeFault_zero h0
  have k1 : 1 ≤ K.toNat := by omega
  have k2 : ((K.toNat : Nat) : Int) = K := by omega
  have u1 : 1 ≤ u.toNat := by omega
  have u2 : u.toNat ≤ 4096 := by omega
  have d1 : d.size ≤ 9223372036854775807 := Nat.le_trans hd (by decide)
  intro m
  induction m with
  | zero =>
    intro i hd_ hi
    have e : i = n := by clear hfit; omega
    subst e
    exact Ev.step (fun k => by rw [impl_SplitObject.l0, if_neg (Int.lt_irrefl _)]) (Ev.now _)
  | succ m ih =>
    intro i hd_ hi
    have hin : i < n := by clear hfit; omega
    have hin1 : n - (i + 1) = m := by clear hfit; omega
    have i1 : i < 1000 := Nat.lt_of_lt_of_le hin (Nat.le_trans hn (by decide))
    have hw : wrap64 ((i : Int) + 1) = ((i + 1 : Nat) : Int) := by clear hfit; rw [wrap64_id (by omega) (by omega)]; rfl
    have q1 : (i : Int) < (n : Int) := Int.ofNat_lt.2 hin
    have hda : impl_cut_dataAt.f K M G u (d.size : Int) (i : Int) d = some (daOf d (i * K.toNat * u.toNat) K.toNat u.toNat) := by
      unfold impl_cut_dataAt.f
      rw [if_pos ⟨⟨b1, b2⟩, ⟨hu1, hu⟩, Int.natCast_nonneg i, d1, by rw [Int.toNat_natCast]; exact hfit i hin⟩, Int.toNat_natCast]
    have hl : ((daOf d (i * K.toNat * u.toNat) K.toNat u.toNat).length : Int) = K := by rw [show (daOf d (i * K.toNat * u.toNat) K.toNat u.toNat).length = K.toNat by simp [daOf]]; exact k2
    have henc := impl_enc h0 hl (daOf_ok d (i * K.toNat * u.toNat) K.toNat u.toNat k1 u1 u2)
    have hsl : (stripesOf K M G u d i).length < 5864062014805 := by
      rw [show (stripesOf K M G u d i).length = i by simp [stripesOf]]
      exact Nat.lt_trans i1 (by decide)
    refine Ev.step (fun k => by rw [impl_SplitObject.l0, if_pos q1, hda, Option.bind_some, hw]) (Ev.bind henc (Ev.pos hsl ?_))
    rw [← stripesOf_succ]
    exact ih (i + 1) hin1 hin
theorem split_fit (p q n size m : Nat) (hm : p * q = m) (hm1 : 1 ≤ m) (he : (n : Int) = ((size : Int) + (m : Int) - 1) / (m : Int)) (i : Nat) (hi : i < n) : i * p * q ≤ size := by
  rw [Nat.mul_assoc, hm]
  have h1 : (m : Int) * (n : Int) ≤ (size : Int) + (m : Int) - 1 := by
    rw [he]
    exact Int.mul_ediv_self_le (by omega)
  have h2 : (i + 1) * m ≤ n * m := Nat.mul_le_mul_right _ hi
  rw [Nat.succ_mul] at h2
  have h3 : (m : Int) * (n : Int) = ((n * m : Nat) : Int) := by rw [← Int.natCast_mul, Nat.mul_comm]
  rw [h3] at h1
  generalize n * m = x at h1 h2
  generalize i * m = y at h2 ⊢
  omega
theorem stripe_facts {K M G u : Int} {size : Nat} (h : ¬ stripeOf K M G u (size : Int) < 0) : codeFaultOf K M G = 0 ∧ 1 ≤ u ∧ u ≤ 4096 ∧ size ≤ 100000 ∧ ∃ n : Nat, stripeOf K M G u (size : Int) = (n : Int) ∧ n ≤ 200 ∧ ((n : Nat) : Int) = ((size : Int) + K * u - 1) / (K * u) := by
  unfold stripeOf at h ⊢
  by_cases h1 : codeFaultOf K M G = 0 ∧ 1 ≤ u ∧ u ≤ 4096 ∧ 0 ≤ (size : Int) ∧ (size : Int) ≤ 100000
  · rw [if_pos h1] at h ⊢
    by_cases h2 : ((size : Int) + K * u - 1) / (K * u) > 200
    · rw [if_pos h2] at h
      exact absurd (by decide : (-1 : Int) < 0) h
    · rw [if_neg h2] at h ⊢
      generalize hx : ((size : Int) + K * u - 1) / (K * u) = x at h h2 ⊢
      obtain ⟨n, rfl⟩ := Int.eq_ofNat_of_zero_le (Int.not_lt.1 h)
      refine ⟨h1.1, h1.2.1, h1.2.2.1, ?_, n, rfl, ?_, rfl⟩
      · have := h1.2.2.2.2
        omega
      · omega
  · rw [if_neg h1] at h
    exact absurd (by decide : (-1 : Int) < 0) h
theorem impl_split (K M G u : Int) (d : ByteArray) : Ev (fun k => impl_SplitObject.f k K M G u d) (if stripeOf K M G u (d.size : Int) < 0 then (1, []) else (0, stripesOf K M G u d (stripeOf K M G u (d.size : Int)).toNat)) := by
  refine Ev.congr (fun k => by rw [impl_SplitObject.f]) (Ev.bind (impl_stripeCount K M G u (d.size : Int)) ?_)
  by_cases h : stripeOf K M G u (d.size : Int) < 0
  · rw [if_pos h]; exact Ev.pos h (Ev.now _)
  · rw [if_neg h]
    refine Ev.neg h ?_
    obtain ⟨h0, hu1, hu, hd, n, hn_, hn, he⟩ := stripe_facts h
    obtain ⟨b1, b2, -, -, -, -, -⟩ := codeFault_zero h0
    obtain ⟨hb1, -⟩ := mul_bounds b1 b2 hu1 hu
    refine Ev.bindS (plant_of h0).1 ?_
    rw [hn_, Int.toNat_natCast]
    have hfit : ∀ i, i < n → i * K.toNat * u.toNat ≤ d.size := by
      obtain ⟨p, rfl⟩ := Int.eq_ofNat_of_zero_le (Int.le_trans (by decide) b1)
      obtain ⟨q, rfl⟩ := Int.eq_ofNat_of_zero_le (Int.le_trans (by decide) hu1)
      rw [← Int.natCast_mul] at he hb1
      exact fun i hi => split_fit p q n d.size (p * q) rfl (by exact_mod_cast hb1) he i hi
    exact split_l0 K M G u d n h0 hu1 hu hd hn hfit n 0 rfl (Nat.zero_le _)

/-! The reference's stripes. -/
theorem da_zero (d : ByteArray) (o u j : Nat) (hj : j ≤ u) (h : j = u ∨ d.size ≤ o + j) : (daBytes d o u).take j ++ List.replicate (u - j) 0 = daBytes d o u := by
  have hl := daBytes_len d o u
  apply List.ext_getElem?
  intro t
  by_cases h1 : t < j
  · rw [List.getElem?_append_left (by rw [List.length_take]; omega), List.getElem?_take, if_pos h1]
  · rw [List.getElem?_append_right (by rw [List.length_take]; omega), List.length_take, hl, Nat.min_eq_left hj, List.getElem?_replicate]
    by_cases h2 : t < u
    · rw [if_pos (by omega)]
      unfold daBytes
      rw [List.getElem?_map, List.getElem?_range h2]
      show _ = some (if o + t < d.size then _ else _)
      rw [if_neg (by omega)]
    · rw [if_neg (by omega), List.getElem?_eq_none (by omega)]
theorem da_set (d : ByteArray) (o u j : Nat) (hj : j < u) (h : o + j < d.size) : ((daBytes d o u).take j ++ List.replicate (u - j) 0).set j (bt d ((o + j : Nat) : Int)) = (daBytes d o u).take (j + 1) ++ List.replicate (u - (j + 1)) 0 := by
  have hl := daBytes_len d o u
  have hx : (daBytes d o u)[j]? = some (bt d ((o + j : Nat) : Int)) := by
    unfold daBytes
    rw [List.getElem?_map, List.getElem?_range hj]
    show some (if o + j < d.size then _ else _) = _
    rw [if_pos h]
  have := set_prefix id (0 : Int) (daBytes d o u) j (by omega) _ hx
  rw [List.map_id, hl, List.map_id] at this
  exact this
section
variable (K M G : Int) (u : Nat) (d : ByteArray) (hu : u ≤ 4096) (hd : d.size ≤ 100000)
include hu hd
theorem ss_l2 (n i kk o : Nat) (st : List S86) (parts : List ByteArray) (r : Int × List S86) (hk : kk < 1000000) (ho : o ≤ 1000000000) (hp : parts.length < 1000000)
    (hn : Ev (fun k => spec_SplitObject.l1 k (u : Int) d (n : Int) st (i : Int) (parts ++ [strOfNums (daBytes d o u)]) ((kk + 1 : Nat) : Int) K M G) r) : ∀ (m j : Nat), u - j = m → j ≤ u →
    Ev (fun k => spec_SplitObject.l2 k (u : Int) d (n : Int) st (i : Int) parts (kk : Int) ((daBytes d o u).take j ++ List.replicate (u - j) 0) (o : Int) (j : Int) K M G) r := by
  have last : ∀ j, j ≤ u → (j = u ∨ d.size ≤ o + j) → Ev (fun k => spec_SplitObject.j3 k (u : Int) d (n : Int) st (i : Int) parts (kk : Int) ((daBytes d o u).take j ++ List.replicate (u - j) 0) (o : Int) (j : Int) false K M G) r := by
    intro j hj h
    rw [da_zero d o u j hj h]
    have c1 : parts.length < 8796093022208 := Nat.lt_trans hp (by decide)
    have w : wrap64 ((kk : Int) + 1) = ((kk + 1 : Nat) : Int) := by rw [wrap64_id (by omega) (by omega)]; rfl
    exact Ev.step (fun k => by rw [spec_SplitObject.j3, if_neg (by decide), if_pos c1, w]) hn
  intro m
  induction m with
  | zero =>
    intro j hm hj
    exact Ev.step (fun k => by rw [spec_SplitObject.l2, if_neg (by omega)]) (last j hj (.inl (by omega)))
  | succ m ih =>
    intro j hm hj
    have c1 : (j : Int) < (u : Int) := by omega
    have c2 : (0 : Int) ≤ ((o + j : Nat) : Int) := by omega
    have c3 : (0 : Int) ≤ (j : Int) := by omega
    have c4 : (j : Int) < ((((daBytes d o u).take j ++ List.replicate (u - j) 0).length : Nat) : Int) := by simp [daBytes_len]; omega
    by_cases h : o + j < d.size
    · have c5 : ((o + j : Nat) : Int) < (d.size : Int) := by omega
      have hn2 := ih (j + 1) (by omega) (by omega)
      have w1 : wrap64 ((o : Int) + (j : Int)) = ((o + j : Nat) : Int) := by rw [wrap64_id (by omega) (by omega)]; rfl
      have w2 : wrap64 ((j : Int) + 1) = ((j + 1 : Nat) : Int) := by clear w1; rw [wrap64_id (by omega) (by omega)]; rfl
      rw [← da_set d o u j (by clear w1 w2; omega) h] at hn2
      refine Ev.step (fun k => by rw [spec_SplitObject.l2, if_pos c1, w1, decide_eq_true c5]) ?_
      refine Ev.step (fun k => by rw [spec_SplitObject.j3, if_pos rfl, w1, if_pos c2, if_pos c5, if_pos c3, if_pos c4, Int.toNat_natCast, w2]) ?_
      exact hn2
    · have c5 : ¬ ((o + j : Nat) : Int) < (d.size : Int) := by omega
      have hl := last j hj (.inr (by omega))
      have w1 : wrap64 ((o : Int) + (j : Int)) = ((o + j : Nat) : Int) := by rw [wrap64_id (by omega) (by omega)]; rfl
      exact Ev.step (fun k => by rw [spec_SplitObject.l2, if_pos c1, w1, decide_eq_false c5]) hl
end
theorem ss_l1 (K M G : Int) (u : Nat) (d : ByteArray) (n i : Nat) (st : List S86) (h0 : codeFaultOf K M G = 0) (hu1 : 1 ≤ u) (hu : u ≤ 4096) (hd : d.size ≤ 100000) (hi : i < 1000) (hst : st.length < 1000000) (r : Int × List S86)
    (hn : Ev (fun k => spec_SplitObject.l0 k (u : Int) d (n : Int) (st ++ [⟨shardsOf K M G (daOf d (i * K.toNat * u) K.toNat u)⟩]) ((i + 1 : Nat) : Int) K M G) r) : ∀ (m kk : Nat), K.toNat - kk = m → kk ≤ K.toNat →
    Ev (fun k => spec_SplitObject.l1 k (u : Int) d (n : Int) st (i : Int) ((daOf d (i * K.toNat * u) K.toNat u).take kk) (kk : Int) K M G) r := by
  obtain ⟨b1, b2, -, -, -, -, -⟩ := codeFault_zero h0
  obtain ⟨q, rfl⟩ := Int.eq_ofNat_of_zero_le (show 0 ≤ K by omega)
  rw [Int.toNat_natCast] at hn ⊢
  have hq : q ≤ 32 := by omega
  have hq1 : 1 ≤ q := by omega
  have hw : wrap64 ((i : Int) + 1) = ((i + 1 : Nat) : Int) := by rw [wrap64_id (by omega) (by omega)]; rfl
  have hiq : i * q ≤ 1000 * 32 := Nat.mul_le_mul (by clear hw; omega) hq
  have hwq : wrap64 ((i : Int) * (q : Int)) = ((i * q : Nat) : Int) := by
    rw [← Int.natCast_mul]
    clear hw
    generalize i * q = z at hiq ⊢
    rw [wrap64_id (by omega) (by omega)]
  intro m
  induction m with
  | zero =>
    intro kk hm hkk
    have e : kk = q := by clear hw hwq hiq; omega
    subst e
    have hl : ((daOf d (i * kk * u) kk u).length : Int) = (kk : Int) := by rw [daOf_len]
    rw [List.take_of_length_le (by rw [daOf_len]; exact Nat.le_refl _)]
    have henc := spec_encode (kk : Int) M G (daOf d (i * kk * u) kk u) (by rw [daOf_len]; exact Nat.le_trans hq (by decide))
    unfold encOf at henc
    rw [if_pos ⟨h0, hl⟩, if_pos (daOf_ok d (i * kk * u) kk u hq1 hu1 hu)] at henc
    have c1 : st.length < 5864062014805 := Nat.lt_trans hst (by decide)
    refine Ev.step (fun k => by rw [spec_SplitObject.l1, if_neg (Int.lt_irrefl _)]) (Ev.bind henc (Ev.pos c1 ?_))
    rw [hw]
    exact hn
  | succ m ih =>
    intro kk hm hkk
    have hlt : kk < q := by clear hw hwq hiq; omega
    have c1 : (kk : Int) < (q : Int) := Int.ofNat_lt.2 hlt
    have c2 : (0 : Int) ≤ (u : Int) := Int.natCast_nonneg u
    have c3 : u ≤ 281474976710656 := Nat.le_trans hu (by decide)
    have hz : (i * q + kk) * u ≤ 40000 * 4096 := Nat.mul_le_mul (by clear hw hwq; omega) hu
    have hwz : wrap64 (((i * q + kk : Nat) : Int) * (u : Int)) = (((i * q + kk) * u : Nat) : Int) := by
      rw [← Int.natCast_mul]
      clear hw hwq
      generalize (i * q + kk) * u = z at hz ⊢
      rw [wrap64_id (by omega) (by omega)]
    have hwy : wrap64 (((i * q : Nat) : Int) + (kk : Int)) = ((i * q + kk : Nat) : Int) := by
      rw [← Int.natCast_add]
      clear hw hwq hwz hz
      generalize i * q = z at hiq ⊢
      rw [wrap64_id (by omega) (by omega)]
    have e1 : (i * q + kk) * u = i * q * u + kk * u := Nat.add_mul _ _ _
    have hn2 := ih (kk + 1) (by clear hw hwq hwz hwy hz hiq e1; omega) hlt
    rw [← daOf_step _ _ _ _ _ hlt, ← e1] at hn2
    refine Ev.step (fun k => by rw [spec_SplitObject.l1, if_pos c1, if_pos c2, Int.toNat_natCast, if_pos c3, hwq, hwy, hwz]) ?_
    have h2 := ss_l2 (q : Int) M G u d hu hd n i kk ((i * q + kk) * u) st ((daOf d (i * q * u) q u).take kk) r (Nat.lt_trans hlt (Nat.lt_of_le_of_lt hq (by decide))) (Nat.le_trans hz (by decide)) (by rw [List.length_take, daOf_len]; exact Nat.lt_of_le_of_lt (Nat.min_le_right _ _) (Nat.lt_of_le_of_lt hq (by decide))) hn2 u 0 rfl (Nat.zero_le _)
    rw [List.take_zero, List.nil_append, Nat.sub_zero] at h2
    exact h2
theorem ss_l0 (K M G : Int) (u : Nat) (d : ByteArray) (n : Nat) (h0 : codeFaultOf K M G = 0) (hu1 : 1 ≤ u) (hu : u ≤ 4096) (hd : d.size ≤ 100000) (hn : n ≤ 200) : ∀ (m i : Nat), n - i = m → i ≤ n →
    Ev (fun k => spec_SplitObject.l0 k (u : Int) d (n : Int) (stripesOf K M G (u : Int) d i) (i : Int) K M G) (0, stripesOf K M G (u : Int) d n) := by
  intro m
  induction m with
  | zero =>
    intro i hm hi
    have e : i = n := by omega
    subst e
    exact Ev.step (fun k => by rw [spec_SplitObject.l0, if_neg (Int.lt_irrefl _)]) (Ev.now _)
  | succ m ih =>
    intro i hm hi
    have h := ih (i + 1) (by omega) (by omega)
    rw [stripesOf_succ, Int.toNat_natCast] at h
    refine Ev.step (fun k => by rw [spec_SplitObject.l0, if_pos (by omega)]) ?_
    have h2 := ss_l1 K M G u d n i (stripesOf K M G (u : Int) d i) h0 hu1 hu hd (by omega) (by simp [stripesOf]; omega) _ h K.toNat 0 rfl (Nat.zero_le _)
    rw [List.take_zero] at h2
    exact h2
theorem spec_split (K M G u : Int) (d : ByteArray) : Ev (fun k => spec_SplitObject.f k K M G u d) (if stripeOf K M G u (d.size : Int) < 0 then (1, []) else (0, stripesOf K M G u d (stripeOf K M G u (d.size : Int)).toNat)) := by
  refine Ev.congr (fun k => by rw [spec_SplitObject.f]) (Ev.bind (spec_stripeCount K M G u (d.size : Int)) ?_)
  by_cases h : stripeOf K M G u (d.size : Int) < 0
  · rw [if_pos h]; exact Ev.pos h (Ev.now _)
  · rw [if_neg h]
    refine Ev.neg h ?_
    obtain ⟨h0, hu1, hu, hd, n, hn_, hn, -⟩ := stripe_facts h
    rw [hn_, Int.toNat_natCast]
    obtain ⟨v, rfl⟩ := Int.eq_ofNat_of_zero_le (show 0 ≤ u by omega)
    exact ss_l0 K M G v d n h0 (by omega) (by omega) hd hn n 0 rfl (Nat.zero_le _)
/-! Stripes held against one another, written over, read again. -/
theorem eqStripeS_l0 (l : List S86) (hl : l.length ≤ 1048576) (hs : ∀ x ∈ l, x.f0.length ≤ 1048576) : ∀ (d i : Nat), l.length - i = d → i ≤ l.length → Ev (fun k => laws_eqStripeS.l0 k l l (i : Int)) true := by
  intro d
  induction d with
  | zero =>
    intro i hd hi
    exact Ev.step (fun k => by rw [laws_eqStripeS.l0, if_neg (by omega)]) (Ev.now _)
  | succ d ih =>
    intro i hd hi
    have hlt : i < l.length := by omega
    have hr : rd_T86 l (i : Int) = l[i] := by
      unfold rd_T86
      rw [Int.toNat_natCast, List.getD_eq_getElem?_getD, List.getElem?_eq_getElem hlt]
      rfl
    have he := eqStringS l[i].f0 (hs _ (List.getElem_mem hlt))
    have he2 : Ev (fun k => laws_eqStripe.f k l[i].f0 l[i].f0) true := Ev.congr (fun k => by rw [laws_eqStripe.f]) (Ev.bind he (Ev.pos rfl (Ev.now _)))
    have hw : wrap64 ((i : Int) + 1) = ((i + 1 : Nat) : Int) := by rw [wrap64_id (by omega) (by omega)]; rfl
    refine Ev.step (fun k => by rw [laws_eqStripeS.l0, if_pos (by omega), if_pos (by omega), if_pos (by omega), hr, hw]) (Ev.bind he2 (Ev.pos rfl ?_))
    exact ih (i + 1) (by clear hw; omega) (by clear hw; omega)
def stTot : List S86 → Nat
  | [] => 0
  | x :: xs => x.f0.length + stTot xs
def markSt (T : Nat → ByteArray) : Nat → List S86 → List S86
  | _, [] => []
  | a, x :: xs => ⟨markT T a x.f0.length⟩ :: markSt T (a + x.f0.length) xs
theorem markSt_len (T : Nat → ByteArray) : ∀ (l : List S86) (a : Nat), (markSt T a l).length = l.length
  | [], _ => rfl
  | x :: xs, a => by rw [markSt, List.length_cons, List.length_cons, markSt_len T xs]
theorem rdSt (pre : List S86) (x : S86) (rest : List S86) : rd_T86 (pre ++ x :: rest) (pre.length : Int) = x := by
  unfold rd_T86
  rw [Int.toNat_natCast, List.getD_eq_getElem?_getD, List.getElem?_append_right (Nat.le_refl _)]
  simp
section
variable {T : Nat → ByteArray} (hT : ∀ n : Nat, n < 9223372036854775808 → Ev (fun k => laws_markText.f k (n : Int)) (T n))
include hT
theorem markStripeS_l0 : ∀ (rest pre : List S86) (a : Nat), a + stTot rest ≤ 1000000 → pre.length + rest.length ≤ 1000000 →
    Ev (fun k => laws_markStripeS.l0 k (pre ++ rest) (a : Int) (pre.length : Int)) (((a + stTot rest : Nat) : Int), pre ++ markSt T a rest)
  | [], pre, a, _, _ => Ev.step (fun k => by rw [laws_markStripeS.l0, if_neg (by simp)]) (Ev.give (by rw [stTot, markSt, Nat.add_zero]))
  | x :: xs, pre, a, ha, hl => by
    rw [stTot] at ha
    rw [List.length_cons] at hl
    have hm := markStringS hT x.f0 (by omega) a (by omega)
    have h := markStripeS_l0 xs (pre ++ [⟨markT T a x.f0.length⟩]) (a + x.f0.length) (by omega) (by simp; omega)
    rw [List.append_assoc, List.append_assoc] at h
    have hp : (pre ++ [(⟨markT T a x.f0.length⟩ : S86)]).length = pre.length + 1 := by simp
    rw [hp] at h
    have c1 : (pre.length : Int) < ((pre ++ x :: xs).length : Int) := by rw [List.length_append, List.length_cons]; omega
    have c2 : (0 : Int) ≤ (pre.length : Int) := by omega
    have w : wrap64 ((pre.length : Int) + 1) = ((pre.length + 1 : Nat) : Int) := by rw [wrap64_id (by omega) (by omega)]; rfl
    refine Ev.step (fun k => by rw [laws_markStripeS.l0, if_pos c1, if_pos c2, rdSt, w]) (Ev.bind hm ?_)
    rw [Int.toNat_natCast, List.set_append_right _ _ (Nat.le_refl _), Nat.sub_self, List.set_cons_zero, stTot, markSt, ← Nat.add_assoc]
    exact h
theorem heldStripeS_l0 : ∀ (rest pre : List S86) (a : Nat), a + stTot rest ≤ 1000000 → pre.length + rest.length ≤ 1000000 →
    Ev (fun k => laws_heldStripeS.l0 k (pre ++ markSt T a rest) (a : Int) (pre.length : Int)) ((a + stTot rest : Nat) : Int)
  | [], pre, a, _, _ => Ev.step (fun k => by rw [laws_heldStripeS.l0, markSt, if_neg (by simp)]) (Ev.give (by rw [stTot, Nat.add_zero]))
  | x :: xs, pre, a, ha, hl => by
    rw [stTot] at ha
    rw [List.length_cons] at hl
    have hm := heldStringS hT x.f0.length (by omega) a (by omega)
    have h := heldStripeS_l0 xs (pre ++ [⟨markT T a x.f0.length⟩]) (a + x.f0.length) (by omega) (by simp; omega)
    rw [List.append_assoc] at h
    have hp : (pre ++ [(⟨markT T a x.f0.length⟩ : S86)]).length = pre.length + 1 := by simp
    rw [hp] at h
    have c1 : (pre.length : Int) < ((pre ++ markSt T a (x :: xs)).length : Int) := by rw [List.length_append, markSt, List.length_cons]; omega
    have c2 : (0 : Int) ≤ (pre.length : Int) := by omega
    have c3 : ¬ ((a + x.f0.length : Nat) : Int) < 0 := by omega
    have w : wrap64 ((pre.length : Int) + 1) = ((pre.length + 1 : Nat) : Int) := by rw [wrap64_id (by omega) (by omega)]; rfl
    refine Ev.step (fun k => by rw [laws_heldStripeS.l0, if_pos c1, if_pos c2, w]) ?_
    rw [markSt, rdSt]
    refine Ev.bind hm (Ev.neg c3 ?_)
    rw [stTot, ← Nat.add_assoc]
    exact h
end
theorem stripes_tot (K M G u : Int) (d : ByteArray) (hc : K.toNat + M.toNat + G.toNat ≤ 64) : ∀ n, stTot (stripesOf K M G u d n) ≤ n * 64 ∧ ∀ x ∈ stripesOf K M G u d n, x.f0.length ≤ 64 := by
  have app : ∀ (l : List S86) (x : S86), stTot (l ++ [x]) = stTot l + x.f0.length := by
    intro l x
    induction l with
    | nil => simp [stTot]
    | cons y l ih => rw [List.cons_append, stTot, stTot, ih, Nat.add_assoc]
  intro n
  induction n with
  | zero => exact ⟨Nat.le_refl _, fun x hx => by simp [stripesOf] at hx⟩
  | succ n ih =>
    rw [stripesOf_succ, app]
    have hs : ∀ l : List ByteArray, (shardsOf K M G l).length ≤ 64 := fun l => by unfold shardsOf; simp; exact hc
    refine ⟨by have := hs (daOf d (n * K.toNat * u.toNat) K.toNat u.toNat); have := ih.1; show _ + (shardsOf K M G _).length ≤ _; omega, fun x hx => ?_⟩
    rcases List.mem_append.1 hx with hx | hx
    · exact ih.2 x hx
    · rw [List.mem_singleton] at hx
      subst hx
      exact hs _

theorem FnExactSplitObject : laws_FnExactSplitObject.Wants := by
  intro K M G u d _ _ _ _ gd
  refine Ev.rounds (Ev.congr (fun k => by rw [laws_FnExactSplitObject.f]) ?_)
  by_cases hbig : (d.size : Int) > 1048576
  · exact Ev.pos hbig (Ev.now _)
  refine Ev.neg hbig ?_
  have hto : laws_toCode.f K M G = some (K, M, G) := rfl
  have hs := spec_split K M G u d
  have hi := impl_split K M G u d
  obtain ⟨q, hq⟩ : ∃ q, (if stripeOf K M G u (d.size : Int) < 0 then ((1, []) : Int × List S86) else (0, stripesOf K M G u d (stripeOf K M G u (d.size : Int)).toNat)) = q := ⟨_, rfl⟩
  have hb : q.2.length ≤ 1000 ∧ stTot q.2 ≤ 20000 ∧ ∀ x ∈ q.2, x.f0.length ≤ 64 := by
    rw [← hq]
    by_cases h : stripeOf K M G u (d.size : Int) < 0
    · rw [if_pos h]; exact ⟨by simp, by simp [stTot], fun x hx => by simp at hx⟩
    · rw [if_neg h]
      obtain ⟨h0, -, -, -, n, hn_, hn, -⟩ := stripe_facts h
      obtain ⟨b1, b2, b3, b4, b5, b6, b7⟩ := codeFault_zero h0
      rw [hn_, Int.toNat_natCast]
      obtain ⟨t1, t2⟩ := stripes_tot K M G u d (by omega) n
      exact ⟨by simp [stripesOf]; omega, by show stTot (stripesOf K M G u d n) ≤ _; omega, t2⟩
  rw [hq] at hs hi
  clear hq
  obtain ⟨c, x⟩ := q
  obtain ⟨hb1, hb2, hb3⟩ := hb
  simp only at hb1 hb2 hb3
  obtain ⟨T, hT⟩ := markText_all
  have heq : Ev (fun k => laws_eqStripeResult.f k c x c x) true := by
    refine Ev.congr (fun k => by rw [laws_eqStripeResult.f, if_pos rfl]) ?_
    have h : Ev (fun k => laws_eqStripeS.f k x x) true := Ev.congr (fun k => by rw [laws_eqStripeS.f, if_pos rfl]; rfl) (eqStripeS_l0 x (by omega) (fun y hy => by have := hb3 y hy; omega) x.length 0 rfl (Nat.zero_le _))
    exact Ev.bind h (Ev.pos rfl (Ev.now _))
  have hmark : Ev (fun k => laws_markStripeResult.f k c x 1) (((1 + stTot x : Nat) : Int), markSt T 1 x) := by
    have h := markStripeS_l0 hT x [] 1 (by omega) (by simp; omega)
    rw [List.nil_append, List.nil_append] at h
    exact h
  have hheld : Ev (fun k => laws_heldStripeResult.f k c (markSt T 1 x) 1) ((1 + stTot x : Nat) : Int) := by
    have h := heldStripeS_l0 hT x [] 1 (by omega) (by simp; omega)
    rw [List.nil_append] at h
    have h2 : Ev (fun k => laws_heldStripeS.f k (markSt T 1 x) 1) ((1 + stTot x : Nat) : Int) := Ev.congr (fun k => by rw [laws_heldStripeS.f]; rfl) h
    refine Ev.congr (fun k => by rw [laws_heldStripeResult.f]) ?_
    refine Ev.bind h2 ?_
    exact Ev.neg (show ¬ ((1 + stTot x : Nat) : Int) < 0 by omega) (Ev.now _)
  refine Ev.bindS hto (Ev.bind hs (Ev.bindS hto (Ev.bind hi (Ev.bind heq (Ev.pos rfl (Ev.bind hmark (Ev.bind hheld (Ev.neg (by omega) (Ev.pos rfl ?_)))))))))
  exact Ev.bindS hto (Ev.bind hi (Ev.bind heq (Ev.pos rfl (Ev.bind hheld (Ev.neg (by omega) (Ev.pos rfl (Ev.now true)))))))

end Go.Proofs.Ytcpmlelejlmpdaa.Pure
