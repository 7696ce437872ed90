/- The statement FnExactMatMul over numbers and lists alone: the program's MatMul and the reference's make the same matrix, the arguments unchanged, and what is made is of its own memory. No condition. -/
import Derived.Test.YtcpmlelejlmpdaaQFnExactMatMulx7
import Derived.Laws.BitsAllLaws
import Derived.Laws.Bits64
import Derived.Test.YtcpmlelejlmpdaaGoodFnExactMatMul
set_option linter.all false
namespace Go.Proofs.Ytcpmlelejlmpdaa.Pure
open Go.RowKit Go.Proofs.Ytcpmlelejlmpdaa.QFnExactMatMul Go.Proofs.YtcpmlelejlmpdaaW.PrintWords Go.Proofs.YtcpmlelejlmpdaaW.PrintLast Go.Proofs.YtcpmlelejlmpdaaW.PrintMore

/-! Small lemmas on wraps, rounds and lists. -/
theorem wrap64_id {x : Int} (h0 : -9223372036854775808 ≤ x) (h1 : x < 9223372036854775808) : wrap64 x = x := by unfold wrap64; omega
theorem u64_id {x : Int} (h0 : 0 ≤ x) (h1 : x < 18446744073709551616) : IntKind.u64.wrap x = x := by rw [IntKind.wrap_u64]; omega
theorem Ev.pos {α : Type} {c : Prop} [Decidable c] {f g : Nat → Option α} {r : α} (h : c) (e : Ev f r) : Ev (fun k => if c then f k else g k) r := by simpa [h] using e
theorem Ev.neg {α : Type} {c : Prop} [Decidable c] {f g : Nat → Option α} {r : α} (h : ¬ c) (e : Ev g r) : Ev (fun k => if c then f k else g k) r := by simpa [h] using e
theorem Ev.bindS {α β : Type} {g : Option α} {f : Nat → α → Option β} {a : α} {r : β} (h : g = some a) (e : Ev (fun k => f k a) r) : Ev (fun k => g.bind (f k)) r := by subst h; simpa using e
theorem Ev.give {α : Type} {r s : α} (h : s = r) : Ev (fun _ => some s) r := by subst h; exact Ev.now _
theorem bt_drop (s : ByteArray) (i : Nat) (h : i < s.size) : ∃ c : UInt8, s.data.toList.drop i = c :: s.data.toList.drop (i + 1) ∧ bt s (i : Int) = (c.toNat : Int) := by
  have hl : i < s.data.toList.length := by simpa using h
  refine ⟨s.data.toList[i], List.drop_eq_getElem_cons hl, ?_⟩
  unfold bt
  rw [dif_pos (by simpa using h)]
  simp [ByteArray.getElem_eq_getElem_data]
theorem drop_end (s : ByteArray) (i : Nat) (h : s.size ≤ i) : s.data.toList.drop i = [] := List.drop_eq_nil_of_le (by simpa using h)
theorem size_strOfNums (l : List Int) : (strOfNums l).size = l.length := by
  show (strOfNums l).data.size = l.length
  simp [strOfNums]
theorem i64_range {n : Int} (h : (Lit.int .i64 n).wf = true) : -9223372036854775808 ≤ n ∧ n < 9223372036854775808 := by
  simp only [Lit.wf, IntKind.min, IntKind.max, IntKind.signed, IntKind.bits, Bool.and_eq_true, decide_eq_true_eq, if_true] at h; omega
theorem byte_eq_int (c d : UInt8) : ((c.toNat : Int) = (d.toNat : Int)) ↔ c = d := by
  constructor
  · intro h; exact UInt8.toNat_inj.1 (by omega)
  · rintro rfl; rfl
theorem byte_eq_lit (c : UInt8) (n : Nat) (hn : n < 256) : ((c.toNat : Int) = (n : Int)) ↔ c = UInt8.ofNat n := by
  rw [← byte_eq_int]
  have : (UInt8.ofNat n).toNat = n := by simp [UInt8.toNat_ofNat']; omega
  rw [this]
theorem bt_get (s : ByteArray) (i : Nat) (h : i < s.size) : ∃ c : UInt8, s.data.toList[i]? = some c ∧ bt s (i : Int) = (c.toNat : Int) := by
  obtain ⟨c, e, hb⟩ := bt_drop s i h
  refine ⟨c, ?_, hb⟩
  have : (s.data.toList.drop i)[0]? = some c := by rw [e]; rfl
  simpa using this

/-! Go's bits at numbers from 0 on. -/
theorem bits_xor_i64 (a b : Nat) (ha : a < 9223372036854775808) (hb : b < 9223372036854775808) : Go.bits .xor .i64 (a : Int) (b : Int) = ((a ^^^ b : Nat) : Int) := by
  have hx : a ^^^ b < 2 ^ 63 := Nat.xor_lt_two_pow (by simpa using ha) (by simpa using hb)
  show IntKind.i64.wrap (((BitVec.ofInt 64 (a : Int)) ^^^ (BitVec.ofInt 64 (b : Int))).toNat : Int) = _
  rw [BitVec.toNat_xor, BitVec.ofInt_natCast, BitVec.ofInt_natCast, BitVec.toNat_ofNat, BitVec.toNat_ofNat, Nat.mod_eq_of_lt (by omega : a < 2 ^ 64), Nat.mod_eq_of_lt (by omega : b < 2 ^ 64), IntKind.wrap_i64]
  omega
theorem bits_and_i64 (a b : Nat) (ha : a < 9223372036854775808) (hb : b < 9223372036854775808) : Go.bits .and .i64 (a : Int) (b : Int) = ((a &&& b : Nat) : Int) := by
  have hx : a &&& b < 2 ^ 63 := Nat.and_lt_two_pow _ (by simpa using hb)
  show IntKind.i64.wrap (((BitVec.ofInt 64 (a : Int)) &&& (BitVec.ofInt 64 (b : Int))).toNat : Int) = _
  rw [BitVec.toNat_and, BitVec.ofInt_natCast, BitVec.ofInt_natCast, BitVec.toNat_ofNat, BitVec.toNat_ofNat, Nat.mod_eq_of_lt (by omega : a < 2 ^ 64), Nat.mod_eq_of_lt (by omega : b < 2 ^ 64), IntKind.wrap_i64]
  omega
theorem bits_xor_u8 (a b : Nat) (ha : a < 256) (hb : b < 256) : Go.bits .xor .u8 (a : Int) (b : Int) = ((a ^^^ b : Nat) : Int) := by
  have hx : a ^^^ b < 2 ^ 8 := Nat.xor_lt_two_pow (by simpa using ha) (by simpa using hb)
  show IntKind.u8.wrap (((BitVec.ofInt 8 (a : Int)) ^^^ (BitVec.ofInt 8 (b : Int))).toNat : Int) = _
  rw [BitVec.toNat_xor, BitVec.ofInt_natCast, BitVec.ofInt_natCast, BitVec.toNat_ofNat, BitVec.toNat_ofNat, Nat.mod_eq_of_lt (by omega : a < 2 ^ 8), Nat.mod_eq_of_lt (by omega : b < 2 ^ 8), IntKind.wrap_u8]
  omega
theorem bits_and_u8 (a b : Nat) (ha : a < 256) (hb : b < 256) : Go.bits .and .u8 (a : Int) (b : Int) = ((a &&& b : Nat) : Int) := by
  have hx : a &&& b < 2 ^ 8 := Nat.and_lt_two_pow _ (by simpa using hb)
  show IntKind.u8.wrap (((BitVec.ofInt 8 (a : Int)) &&& (BitVec.ofInt 8 (b : Int))).toNat : Int) = _
  rw [BitVec.toNat_and, BitVec.ofInt_natCast, BitVec.ofInt_natCast, BitVec.toNat_ofNat, BitVec.toNat_ofNat, Nat.mod_eq_of_lt (by omega : a < 2 ^ 8), Nat.mod_eq_of_lt (by omega : b < 2 ^ 8), IntKind.wrap_u8]
  omega
theorem bits_xor_u16 (a b : Nat) (ha : a < 65536) (hb : b < 65536) : Go.bits .xor .u16 (a : Int) (b : Int) = ((a ^^^ b : Nat) : Int) := by
  have hx : a ^^^ b < 2 ^ 16 := Nat.xor_lt_two_pow (by simpa using ha) (by simpa using hb)
  show IntKind.u16.wrap (((BitVec.ofInt 16 (a : Int)) ^^^ (BitVec.ofInt 16 (b : Int))).toNat : Int) = _
  rw [BitVec.toNat_xor, BitVec.ofInt_natCast, BitVec.ofInt_natCast, BitVec.toNat_ofNat, BitVec.toNat_ofNat, Nat.mod_eq_of_lt (by omega : a < 2 ^ 16), Nat.mod_eq_of_lt (by omega : b < 2 ^ 16), IntKind.wrap_u16]
  omega
theorem bits_and_u16 (a b : Nat) (ha : a < 65536) (hb : b < 65536) : Go.bits .and .u16 (a : Int) (b : Int) = ((a &&& b : Nat) : Int) := by
  have hx : a &&& b < 2 ^ 16 := Nat.and_lt_two_pow _ (by simpa using hb)
  show IntKind.u16.wrap (((BitVec.ofInt 16 (a : Int)) &&& (BitVec.ofInt 16 (b : Int))).toNat : Int) = _
  rw [BitVec.toNat_and, BitVec.ofInt_natCast, BitVec.ofInt_natCast, BitVec.toNat_ofNat, BitVec.toNat_ofNat, Nat.mod_eq_of_lt (by omega : a < 2 ^ 16), Nat.mod_eq_of_lt (by omega : b < 2 ^ 16), IntKind.wrap_u16]
  omega
theorem and_top (w a : Nat) (h : a < 2 ^ (w + 1)) : a &&& 2 ^ w = 0 ↔ a < 2 ^ w := by
  have hp : 0 < 2 ^ w := Nat.two_pow_pos w
  have ht : a.testBit w = decide (2 ^ w ≤ a) := by
    rw [Nat.testBit_eq_decide_div_mod_eq]
    have h2 : a / 2 ^ w < 2 := Nat.div_lt_of_lt_mul (by rw [Nat.pow_succ] at h; exact h)
    by_cases hc : 2 ^ w ≤ a
    · have : 1 ≤ a / 2 ^ w := (Nat.le_div_iff_mul_le hp).2 (by omega)
      have e : a / 2 ^ w = 1 := by omega
      simp [e, hc]
    · have e : a / 2 ^ w = 0 := Nat.div_eq_of_lt (by omega)
      simp [e, hc]
  constructor
  · intro h0
    have hb : (a &&& 2 ^ w).testBit w = false := by rw [h0]; simp
    rw [Nat.testBit_and, Nat.testBit_two_pow_self, Bool.and_true, ht] at hb
    simpa using hb
  · intro hl
    apply Nat.eq_of_testBit_eq
    intro i
    rw [Nat.testBit_and, Nat.zero_testBit, Nat.testBit_two_pow]
    by_cases hi : w = i
    · subst hi
      rw [ht]; simp; omega
    · simp [hi]

/-! Products of polynomials over two elements, modulo one of them. -/
def gdbl (top low a : Nat) : Nat := if top ≤ 2 * a then (2 * a - top) ^^^ low else 2 * a
def gmulL (top low : Nat) : Nat → Nat → Nat → Nat → Nat
  | 0, _, _, p => p
  | n + 1, a, b, p => gmulL top low n (gdbl top low a) (b / 2) (if b % 2 = 1 then p ^^^ a else p)
theorem xor_top (w x low : Nat) (h0 : 2 ^ w ≤ x) (h1 : x < 2 * 2 ^ w) (hl : low < 2 ^ w) : x ^^^ (2 ^ w + low) = (x - 2 ^ w) ^^^ low := by
  have hp : 0 < 2 ^ w := Nat.two_pow_pos w
  have hr : (x - 2 ^ w) ^^^ low < 2 ^ w := Nat.xor_lt_two_pow (by omega) hl
  have hd : (x ^^^ (2 ^ w + low)) / 2 ^ w = 0 := by
    rw [Nat.xor_div_two_pow]
    have e1 : x / 2 ^ w = 1 := by
      have := Nat.div_lt_of_lt_mul (m := x) (n := 2 ^ w) (k := 2) (by omega)
      have := (Nat.le_div_iff_mul_le (x := 1) (y := x) hp).2 (by omega)
      omega
    have e2 : (2 ^ w + low) / 2 ^ w = 1 := by rw [Nat.add_div_left _ hp, Nat.div_eq_of_lt hl]
    rw [e1, e2]; rfl
  have hm : (x ^^^ (2 ^ w + low)) % 2 ^ w = (x - 2 ^ w) ^^^ low := by
    rw [Nat.xor_mod_two_pow]
    have e1 : x % 2 ^ w = x - 2 ^ w := by rw [Nat.mod_eq_sub_mod h0, Nat.mod_eq_of_lt (by omega)]
    have e2 : (2 ^ w + low) % 2 ^ w = low := by rw [Nat.add_mod_left, Nat.mod_eq_of_lt hl]
    rw [e1, e2]
  have := Nat.div_add_mod (x ^^^ (2 ^ w + low)) (2 ^ w)
  rw [hd, hm, Nat.mul_zero, Nat.zero_add] at this
  exact this.symm
theorem gdbl_lt (w low a : Nat) (ha : a < 2 ^ w) (hl : low < 2 ^ w) : gdbl (2 ^ w) low a < 2 ^ w := by
  unfold gdbl
  split
  · exact Nat.xor_lt_two_pow (by omega) hl
  · omega
theorem gmulL_lt (w low : Nat) (hl : low < 2 ^ w) : ∀ n a b p, a < 2 ^ w → p < 2 ^ w → gmulL (2 ^ w) low n a b p < 2 ^ w := by
  intro n
  induction n with
  | zero => intro a b p _ hp; exact hp
  | succ n ih =>
    intro a b p ha hp
    rw [gmulL]
    refine ih _ _ _ (gdbl_lt w low a ha hl) ?_
    split
    · exact Nat.xor_lt_two_pow hp ha
    · exact hp
theorem gmulL_zero (top low : Nat) : ∀ n a p, gmulL top low n a 0 p = p := by
  intro n
  induction n with
  | zero => intro a p; rfl
  | succ n ih => intro a p; rw [gmulL]; simpa using ih _ _
def mul8 (a b : Nat) : Nat := gmulL 256 29 8 a b 0
def mul16 (a b : Nat) : Nat := gmulL 65536 4107 16 a b 0
theorem mul8_lt (a b : Nat) (ha : a < 256) : mul8 a b < 256 := gmulL_lt 8 29 (by decide) 8 a b 0 (by simpa using ha) (by decide)
theorem mul16_lt (a b : Nat) (ha : a < 65536) : mul16 a b < 65536 := gmulL_lt 16 4107 (by decide) 16 a b 0 (by simpa using ha) (by decide)

/-! The algebra of these products: linear in each factor, commutative, associative. -/
theorem xor_even (a b : Nat) : (a ^^^ b) / 2 = a / 2 ^^^ b / 2 := by
  have := Nat.xor_div_two_pow (a := a) (b := b) (n := 1)
  simpa using this
theorem xor_odd (a b : Nat) : (a ^^^ b) % 2 = (a % 2) ^^^ (b % 2) := by
  have := Nat.xor_mod_two_pow (a := a) (b := b) (n := 1)
  simpa using this
theorem xor_dbl (a b : Nat) : 2 * (a ^^^ b) = (2 * a) ^^^ (2 * b) := by
  have := Nat.shiftLeft_xor_distrib (a := a) (b := b) (i := 1)
  simp only [Nat.shiftLeft_eq, Nat.pow_one] at this
  rw [Nat.mul_comm 2 (a ^^^ b), this, Nat.mul_comm a 2, Nat.mul_comm b 2]
theorem xor4 (a b c d : Nat) : (a ^^^ b) ^^^ (c ^^^ d) = (a ^^^ c) ^^^ (b ^^^ d) := by
  rw [Nat.xor_assoc, Nat.xor_assoc]
  congr 1
  rw [← Nat.xor_assoc, Nat.xor_comm b c, Nat.xor_assoc]
theorem gdbl_bit (w low a : Nat) (hl : low < 2 ^ (w + 1)) (ha : a < 2 ^ (w + 1)) : gdbl (2 ^ (w + 1)) low a = (2 * a) ^^^ (if a.testBit w then 2 ^ (w + 1) + low else 0) := by
  have hp : 2 ^ (w + 1) = 2 * 2 ^ w := by rw [Nat.pow_succ]; omega
  have hpp : 0 < 2 ^ w := Nat.two_pow_pos w
  have ht : a.testBit w = decide (2 ^ w ≤ a) := by
    rw [Nat.testBit_eq_decide_div_mod_eq]
    have h2 : a / 2 ^ w < 2 := Nat.div_lt_of_lt_mul (by omega)
    by_cases hc : 2 ^ w ≤ a
    · have : 1 ≤ a / 2 ^ w := (Nat.le_div_iff_mul_le hpp).2 (by omega)
      have e : a / 2 ^ w = 1 := by omega
      simp [e, hc]
    · have e : a / 2 ^ w = 0 := Nat.div_eq_of_lt (by omega)
      simp [e, hc]
  unfold gdbl
  by_cases hc : 2 ^ w ≤ a
  · rw [if_pos (by omega), ht, if_pos (by simpa using hc), xor_top (w + 1) (2 * a) low (by omega) (by omega) hl]
  · rw [if_neg (by omega), ht, if_neg (by simpa using hc), Nat.xor_zero]
theorem gdbl_xor (w low a b : Nat) (hl : low < 2 ^ (w + 1)) (ha : a < 2 ^ (w + 1)) (hb : b < 2 ^ (w + 1)) : gdbl (2 ^ (w + 1)) low (a ^^^ b) = gdbl (2 ^ (w + 1)) low a ^^^ gdbl (2 ^ (w + 1)) low b := by
  rw [gdbl_bit w low a hl ha, gdbl_bit w low b hl hb, gdbl_bit w low _ hl (Nat.xor_lt_two_pow ha hb), xor_dbl, Nat.testBit_xor, xor4]
  congr 1
  cases a.testBit w <;> cases b.testBit w <;> simp
theorem gdbl_zero (top low : Nat) (h : 0 < top) : gdbl top low 0 = 0 := by unfold gdbl; rw [if_neg (by omega)]
theorem gmulL_acc (top low : Nat) : ∀ n a b p, gmulL top low n a b p = p ^^^ gmulL top low n a b 0 := by
  intro n
  induction n with
  | zero => intro a b p; simp [gmulL]
  | succ n ih =>
    intro a b p
    rw [gmulL, gmulL, ih _ _ (if b % 2 = 1 then p ^^^ a else p), ih _ _ (if b % 2 = 1 then 0 ^^^ a else 0), ← Nat.xor_assoc]
    congr 1
    split <;> simp
theorem gmulL_succ (top low n a b : Nat) : gmulL top low (n + 1) a b 0 = (if b % 2 = 1 then a else 0) ^^^ gmulL top low n (gdbl top low a) (b / 2) 0 := by
  rw [gmulL, gmulL_acc]
  congr 1
  split <;> simp
section
variable (w low : Nat) (hl : low < 2 ^ (w + 1))
include hl
theorem gm_lt (n a b : Nat) (ha : a < 2 ^ (w + 1)) : gmulL (2 ^ (w + 1)) low n a b 0 < 2 ^ (w + 1) := gmulL_lt (w + 1) low hl n a b 0 ha (Nat.two_pow_pos _)
theorem gm_xor_left : ∀ n a a' b, a < 2 ^ (w + 1) → a' < 2 ^ (w + 1) → gmulL (2 ^ (w + 1)) low n (a ^^^ a') b 0 = gmulL (2 ^ (w + 1)) low n a b 0 ^^^ gmulL (2 ^ (w + 1)) low n a' b 0 := by
  intro n
  induction n with
  | zero => intro a a' b _ _; simp [gmulL]
  | succ n ih =>
    intro a a' b ha ha'
    rw [gmulL_succ, gmulL_succ, gmulL_succ, gdbl_xor w low a a' hl ha ha', ih _ _ _ (gdbl_lt (w + 1) low a ha hl) (gdbl_lt (w + 1) low a' ha' hl), xor4]
    congr 1
    split <;> simp
omit hl in
theorem gm_xor_right : ∀ n a b b', gmulL (2 ^ (w + 1)) low n a (b ^^^ b') 0 = gmulL (2 ^ (w + 1)) low n a b 0 ^^^ gmulL (2 ^ (w + 1)) low n a b' 0 := by
  intro n
  induction n with
  | zero => intro a b b'; simp [gmulL]
  | succ n ih =>
    intro a b b'
    rw [gmulL_succ, gmulL_succ, gmulL_succ, xor_even, ih, xor_odd, xor4]
    congr 1
    rcases Nat.mod_two_eq_zero_or_one b with h | h <;> rcases Nat.mod_two_eq_zero_or_one b' with h' | h' <;> simp [h, h']
/-- A factor doubled doubles the product. -/
theorem gm_dbl_left : ∀ n a b, a < 2 ^ (w + 1) → gmulL (2 ^ (w + 1)) low n (gdbl (2 ^ (w + 1)) low a) b 0 = gdbl (2 ^ (w + 1)) low (gmulL (2 ^ (w + 1)) low n a b 0) := by
  intro n
  induction n with
  | zero =>
    intro a b _
    rw [show gmulL (2 ^ (w + 1)) low 0 a b 0 = 0 from rfl, gdbl_zero _ _ (Nat.two_pow_pos _)]; rfl
  | succ n ih =>
    intro a b ha
    have hg := gdbl_lt (w + 1) low a ha hl
    have hsel : (if b % 2 = 1 then a else 0) < 2 ^ (w + 1) := by
      split
      · exact ha
      · exact Nat.two_pow_pos _
    rw [gmulL_succ, gmulL_succ, ih _ _ hg, gdbl_xor w low _ _ hl hsel (gm_lt w low hl n _ _ hg)]
    congr 1
    split
    · rfl
    · rw [gdbl_zero _ _ (Nat.two_pow_pos _)]
end
/-- Two linear maps that agree at each power of two below 2^n agree below 2^n. -/
theorem linear_ext (f g : Nat → Nat) : ∀ n, (∀ a b, a < 2 ^ n → b < 2 ^ n → f (a ^^^ b) = f a ^^^ f b) → (∀ a b, a < 2 ^ n → b < 2 ^ n → g (a ^^^ b) = g a ^^^ g b) → (∀ i, i < n → f (2 ^ i) = g (2 ^ i)) → ∀ a, a < 2 ^ n → f a = g a := by
  intro n
  induction n with
  | zero =>
    intro hf hg _ a ha
    have : a = 0 := by omega
    subst this
    have h1 := hf 0 0 (by omega) (by omega)
    have h2 := hg 0 0 (by omega) (by omega)
    simp at h1 h2
    rw [h1, h2]
  | succ n ih =>
    intro hf hg hi a ha
    have hp : 2 ^ (n + 1) = 2 * 2 ^ n := by rw [Nat.pow_succ]; omega
    have hpp : 0 < 2 ^ n := Nat.two_pow_pos n
    have low := ih (fun a b ha hb => hf a b (by omega) (by omega)) (fun a b ha hb => hg a b (by omega) (by omega)) (fun i h => hi i (by omega))
    by_cases h : a < 2 ^ n
    · exact low a h
    · have e : a = 2 ^ n ^^^ (a - 2 ^ n) := by
        have := xor_top n a 0 (by omega) (by omega) (by omega)
        rw [Nat.add_zero, Nat.xor_zero] at this
        rw [← this, Nat.xor_comm a, ← Nat.xor_assoc, Nat.xor_self, Nat.zero_xor]
      rw [e, hf _ _ (by omega) (by omega), hg _ _ (by omega) (by omega), hi n (by omega), low _ (by omega)]
/-- What commutes at the powers of two commutes. -/
theorem gm_comm (w low : Nat) (hl : low < 2 ^ (w + 1)) (n : Nat) (hb : ∀ i, i < w + 1 → ∀ j, j < w + 1 → gmulL (2 ^ (w + 1)) low n (2 ^ i) (2 ^ j) 0 = gmulL (2 ^ (w + 1)) low n (2 ^ j) (2 ^ i) 0) :
    ∀ a b, a < 2 ^ (w + 1) → b < 2 ^ (w + 1) → gmulL (2 ^ (w + 1)) low n a b 0 = gmulL (2 ^ (w + 1)) low n b a 0 := by
  intro a b ha hbb
  refine linear_ext (fun a => gmulL (2 ^ (w + 1)) low n a b 0) (fun a => gmulL (2 ^ (w + 1)) low n b a 0) (w + 1) (fun x y hx hy => gm_xor_left w low hl n x y b hx hy) (fun x y _ _ => gm_xor_right w low n b x y) (fun i hi => ?_) a ha
  refine linear_ext (fun b => gmulL (2 ^ (w + 1)) low n (2 ^ i) b 0) (fun b => gmulL (2 ^ (w + 1)) low n b (2 ^ i) 0) (w + 1) (fun x y _ _ => gm_xor_right w low n (2 ^ i) x y) (fun x y hx hy => gm_xor_left w low hl n x y (2 ^ i) hx hy) (fun j hj => hb i hi j hj) b hbb
/-- Associativity, out of commutativity: induction on the rounds of the outer product. -/
theorem gm_assoc (w low : Nat) (hl : low < 2 ^ (w + 1)) (n : Nat) (hc : ∀ a b, a < 2 ^ (w + 1) → b < 2 ^ (w + 1) → gmulL (2 ^ (w + 1)) low n a b 0 = gmulL (2 ^ (w + 1)) low n b a 0) :
    ∀ m a b c, a < 2 ^ (w + 1) → b < 2 ^ (w + 1) → gmulL (2 ^ (w + 1)) low m (gmulL (2 ^ (w + 1)) low n a b 0) c 0 = gmulL (2 ^ (w + 1)) low n a (gmulL (2 ^ (w + 1)) low m b c 0) 0 := by
  intro m
  induction m with
  | zero =>
    intro a b c ha hb
    rw [show gmulL (2 ^ (w + 1)) low 0 (gmulL (2 ^ (w + 1)) low n a b 0) c 0 = 0 from rfl, show gmulL (2 ^ (w + 1)) low 0 b c 0 = 0 from rfl, gmulL_zero]
  | succ m ih =>
    intro a b c ha hb
    have hg := gdbl_lt (w + 1) low b hb hl
    have h1 : gdbl (2 ^ (w + 1)) low (gmulL (2 ^ (w + 1)) low n a b 0) = gmulL (2 ^ (w + 1)) low n a (gdbl (2 ^ (w + 1)) low b) 0 := by
      rw [hc a b ha hb, ← gm_dbl_left w low hl n b a hb, hc _ _ hg ha]
    rw [gmulL_succ, gmulL_succ, h1, ih _ _ _ ha hg, gm_xor_right]
    congr 1
    split
    · rfl
    · rw [gmulL_zero]

theorem mul8_comm (a b : Nat) (ha : a < 256) (hb : b < 256) : mul8 a b = mul8 b a :=
  gm_comm 7 29 (by decide) 8 (by decide +kernel) a b ha hb
theorem mul8_assoc (a b c : Nat) (ha : a < 256) (hb : b < 256) : mul8 (mul8 a b) c = mul8 a (mul8 b c) :=
  gm_assoc 7 29 (by decide) 8 (gm_comm 7 29 (by decide) 8 (by decide +kernel)) 8 a b c ha hb
theorem mul8_xor (a b c : Nat) : mul8 a (b ^^^ c) = mul8 a b ^^^ mul8 a c := gm_xor_right 7 29 8 a b c
theorem mul8_xor_left (a b c : Nat) (ha : a < 256) (hb : b < 256) : mul8 (a ^^^ b) c = mul8 a c ^^^ mul8 b c := gm_xor_left 7 29 (by decide) 8 a b c ha hb
theorem mul8_one (a : Nat) (ha : a < 256) : mul8 a 1 = a := by
  have key : ∀ x : Fin 256, mul8 x.val 1 = x.val := by decide +kernel
  exact key ⟨a, ha⟩

/-! In the field of 256 what is not 0 has one inverse. -/
def inv8L : Nat → Nat → Nat → Nat
  | 0, _, out => out
  | n + 1, s, out => inv8L n (mul8 s s) (mul8 out s)
def inv8 (a : Nat) : Nat := inv8L 7 (mul8 a a) 1
theorem inv8L_lt : ∀ n s out, s < 256 → out < 256 → inv8L n s out < 256 := by
  intro n
  induction n with
  | zero => intro s out _ h; exact h
  | succ n ih => intro s out hs ho; exact ih _ _ (mul8_lt s s hs) (mul8_lt out s ho)
theorem inv8_lt (a : Nat) (h : a < 256) : inv8 a < 256 := inv8L_lt 7 _ _ (mul8_lt a a h) (by decide)
theorem mul8_zero (a : Nat) : mul8 a 0 = 0 := gmulL_zero _ _ _ _ _
theorem zero_mul8 (a : Nat) (h : a < 256) : mul8 0 a = 0 := by rw [mul8_comm 0 a (by decide) h, mul8_zero]
theorem one_mul8 (a : Nat) (h : a < 256) : mul8 1 a = a := by rw [mul8_comm 1 a (by decide) h, mul8_one a h]
theorem mul_inv8 (a : Nat) (h : a < 256) (h0 : a ≠ 0) : mul8 a (inv8 a) = 1 := by
  have key : ∀ x : Fin 256, x.val ≠ 0 → mul8 x.val (inv8 x.val) = 1 := by decide +kernel
  exact key ⟨a, h⟩ h0
theorem inv8_zero : inv8 0 = 0 := by decide +kernel
theorem inv8_one_only (a x : Nat) (h : a < 256) (hx : x < 256) (h1 : mul8 a x = 1) : x = inv8 a := by
  by_cases h0 : a = 0
  · subst h0; rw [zero_mul8 x hx] at h1; exact absurd h1 (by decide)
  · have e := mul_inv8 a h h0
    have hi := inv8_lt a h
    calc x = mul8 x 1 := (mul8_one x hx).symm
      _ = mul8 x (mul8 a (inv8 a)) := by rw [e]
      _ = mul8 (mul8 x a) (inv8 a) := (mul8_assoc x a _ hx h).symm
      _ = mul8 (mul8 a x) (inv8 a) := by rw [mul8_comm x a hx h]
      _ = inv8 a := by rw [h1, one_mul8 _ hi]

theorem spec_in (a top : Int) : spec_l02In.f a top = some (decide (0 ≤ a ∧ a < top)) := by
  unfold spec_l02In.f
  by_cases h : a ≥ 0
  · rw [if_pos h]; simp [show 0 ≤ a from h]
  · rw [if_neg h]; simp [show ¬ 0 ≤ a from h]

theorem spec_times_l0 (w low poly : Nat) (hw : w ≤ 16) (hp : poly = 2 ^ w + low) (hl : low < 2 ^ w) : ∀ (n a b p : Nat), b < 2 ^ n → b < 65536 → a < 2 ^ w → p < 2 ^ w →
    Ev (fun k => spec_l02Times.l0 k (a : Int) (b : Int) (poly : Int) ((2 ^ w : Nat) : Int) (p : Int)) ((gmulL (2 ^ w) low n a b p : Nat) : Int) := by
  have h16 : 2 ^ w ≤ 65536 := Nat.pow_le_pow_right (n := 2) (by decide) hw
  intro n
  induction n with
  | zero =>
    intro a b p hb hb1 ha hpp
    have : b = 0 := by omega
    subst this
    refine Ev.step (fun k => by rw [spec_l02Times.l0, if_neg (by omega)]) (Ev.give ?_)
    rfl
  | succ n ih =>
    intro a b p hb hb1 ha hpp
    by_cases h0 : b = 0
    · subst h0
      rw [gmulL_zero]
      refine Ev.step (fun k => by rw [spec_l02Times.l0, if_neg (by omega)]) (Ev.give ?_)
      rfl
    · have hd : wrap64 (Int.tdiv (b : Int) 2) = ((b / 2 : Nat) : Int) := by
        rw [Int.tdiv_eq_ediv_of_nonneg (by omega), wrap64_id (by omega) (by omega)]; rfl
      have hm : Int.tmod (b : Int) 2 = ((b % 2 : Nat) : Int) := by rw [Int.tmod_eq_emod_of_nonneg (by omega)]; rfl
      have ha2 : wrap64 ((a : Int) * 2) = ((2 * a : Nat) : Int) := by rw [wrap64_id (by omega) (by omega)]; omega
      have hx : Go.bits .xor .i64 ((2 * a : Nat) : Int) (poly : Int) = (((2 * a) ^^^ poly : Nat) : Int) := bits_xor_i64 _ _ (by omega) (by omega)
      have hpx : Go.bits .xor .i64 (p : Int) (a : Int) = ((p ^^^ a : Nat) : Int) := bits_xor_i64 _ _ (by omega) (by omega)
      have hb2 : b / 2 < 2 ^ n := by rw [Nat.pow_succ] at hb; exact Nat.div_lt_of_lt_mul (by omega)
      have hxa : p ^^^ a < 2 ^ w := Nat.xor_lt_two_pow hpp ha
      have hg := gdbl_lt w low a ha hl
      rw [gmulL]
      by_cases hodd : b % 2 = 1
      · rw [if_pos hodd]
        by_cases ht : 2 ^ w ≤ 2 * a
        · have hga : (2 * a) ^^^ poly = gdbl (2 ^ w) low a := by unfold gdbl; rw [if_pos ht, hp, xor_top w _ _ ht (by omega) hl]
          refine Ev.step (fun k => by rw [spec_l02Times.l0, if_pos (by omega), hm, if_pos (by omega), ha2, if_pos (by omega), hd, hx, hpx, hga]) ?_
          exact ih _ _ _ hb2 (by omega) hg hxa
        · have hga : 2 * a = gdbl (2 ^ w) low a := by unfold gdbl; rw [if_neg ht]
          refine Ev.step (fun k => by rw [spec_l02Times.l0, if_pos (by omega), hm, if_pos (by omega), ha2, if_neg (by omega), hd, hpx, hga]) ?_
          exact ih _ _ _ hb2 (by omega) hg hxa
      · rw [if_neg hodd]
        by_cases ht : 2 ^ w ≤ 2 * a
        · have hga : (2 * a) ^^^ poly = gdbl (2 ^ w) low a := by unfold gdbl; rw [if_pos ht, hp, xor_top w _ _ ht (by omega) hl]
          refine Ev.step (fun k => by rw [spec_l02Times.l0, if_pos (by omega), hm, if_neg (by omega), ha2, if_pos (by omega), hd, hx, hga]) ?_
          exact ih _ _ _ hb2 (by omega) hg hpp
        · have hga : 2 * a = gdbl (2 ^ w) low a := by unfold gdbl; rw [if_neg ht]
          refine Ev.step (fun k => by rw [spec_l02Times.l0, if_pos (by omega), hm, if_neg (by omega), ha2, if_neg (by omega), hd, hga]) ?_
          exact ih _ _ _ hb2 (by omega) hg hpp

/-- What Mul8 answers. -/
def Mul8of (a b : Int) : Int := if (0 ≤ a ∧ a < 256) ∧ (0 ≤ b ∧ b < 256) then ((mul8 a.toNat b.toNat : Nat) : Int) else -1
theorem spec_mul8 (a b : Int) : Ev (fun k => spec_Mul8.f k a b) (Mul8of a b) := by
  unfold Mul8of
  by_cases ha : 0 ≤ a ∧ a < 256
  · by_cases hb : 0 ≤ b ∧ b < 256
    · rw [if_pos ⟨ha, hb⟩]
      refine Ev.congr (fun k => by rw [spec_Mul8.f, spec_in, Option.bind_some, if_pos (by simp [ha.1, ha.2]), spec_in, Option.bind_some, if_pos (by simp [hb.1, hb.2])]) ?_
      obtain ⟨m, rfl⟩ := Int.eq_ofNat_of_zero_le ha.1
      obtain ⟨n, rfl⟩ := Int.eq_ofNat_of_zero_le hb.1
      exact Ev.bind (spec_times_l0 8 29 285 (by decide) (by decide) (by decide) 8 m n 0 (by simp only [Nat.reducePow]; omega) (by omega) (by simp only [Nat.reducePow]; omega) (by decide)) (Ev.give rfl)
    · rw [if_neg (fun h => hb h.2)]
      refine Ev.congr (fun k => by rw [spec_Mul8.f, spec_in, Option.bind_some, if_pos (by simp [ha.1, ha.2]), spec_in, Option.bind_some, if_neg (by simpa using fun h => by omega)]) (Ev.give rfl)
  · rw [if_neg (fun h => ha h.1)]
    refine Ev.congr (fun k => by rw [spec_Mul8.f, spec_in, Option.bind_some, if_neg (by simpa using fun h => by omega)]) (Ev.give rfl)

theorem Mul8of_nat (a b : Nat) (ha : a < 256) (hb : b < 256) : Mul8of (a : Int) (b : Int) = ((mul8 a b : Nat) : Int) := by
  unfold Mul8of
  rw [if_pos ⟨⟨by omega, by omega⟩, by omega, by omega⟩]
  rfl

/-! The table's product is the field's. -/
def p2 : Nat → Nat
  | 0 => 1
  | n + 1 => mul8 (p2 n) 2
theorem p2_lt : ∀ n, p2 n < 256
  | 0 => by decide
  | n + 1 => mul8_lt _ _ (p2_lt n)
theorem p2_add (m : Nat) : ∀ n, mul8 (p2 m) (p2 n) = p2 (m + n)
  | 0 => mul8_one _ (p2_lt m)
  | n + 1 => by
    show mul8 (p2 m) (mul8 (p2 n) 2) = mul8 (p2 (m + n)) 2
    rw [← mul8_assoc _ _ _ (p2_lt m) (p2_lt n), p2_add m n]
theorem p2_ex : ∀ j, j < 255 → p2 j = ex j
  | 0, _ => by decide +kernel
  | j + 1, h => by
    show mul8 (p2 j) 2 = ex (j + 1)
    rw [p2_ex j (by omega)]
    have key : ∀ x : Fin 254, mul8 (ex x.val) 2 = ex (x.val + 1) := by decide +kernel
    exact key ⟨j, by omega⟩
theorem p2_255 : p2 255 = 1 := by
  show mul8 (p2 254) 2 = 1
  rw [p2_ex 254 (by omega)]
  decide +kernel
theorem lg_ex : ∀ a : Fin 256, lg a.val < 255 ∧ (a.val ≠ 0 → ex (lg a.val) = a.val) := by decide +kernel
theorem tabMul_field (a b : Nat) (ha : a < 256) (hb : b < 256) : tabMul a b = mul8 a b := by
  unfold tabMul
  by_cases h0 : a = 0
  · rw [if_pos h0, h0, zero_mul8 b hb]
  · rw [if_neg h0]
    by_cases h1 : b = 0
    · rw [if_pos h1, h1, mul8_zero]
    · rw [if_neg h1]
      obtain ⟨l0, e0⟩ := lg_ex ⟨a, ha⟩
      obtain ⟨l1, e1⟩ := lg_ex ⟨b, hb⟩
      simp only at l0 l1 e0 e1
      have f0 := e0 h0
      have f1 := e1 h1
      rw [← p2_ex _ l0] at f0
      rw [← p2_ex _ l1] at f1
      have e : mul8 a b = p2 (lg a + lg b) := by rw [← p2_add, f0, f1]
      rw [e]
      unfold tE
      by_cases h : lg a + lg b < 255
      · rw [if_pos h, p2_ex _ h]
      · rw [if_neg h, if_pos ⟨by omega, by omega⟩, ← p2_ex _ (by omega : lg a + lg b - 255 < 255)]
        have h2 : lg a + lg b = 255 + (lg a + lg b - 255) := by omega
        conv => rhs; rw [h2, ← p2_add, p2_255]
        rw [one_mul8 _ (p2_lt _)]

/-! Lists of numbers: copied, held against one another, counted. -/
theorem set_prefix_id {α : Type} (z : α) (l : List α) (i : Nat) (h : i < l.length) (x : α) (hx : l[i]? = some x) :
    (l.take i ++ List.replicate (l.length - i) z).set i x = l.take (i + 1) ++ List.replicate (l.length - (i + 1)) z := by
  have h1 : (l.take i).length = i := by simp; omega
  rw [List.set_append_right _ _ (by omega), h1, Nat.sub_self]
  have h2 : List.replicate (l.length - i) z = z :: List.replicate (l.length - (i + 1)) z := by
    rw [show l.length - i = (l.length - (i + 1)) + 1 by omega]; rfl
  rw [h2, List.set_cons_zero, List.take_add_one, hx]
  simp
theorem rd_at (l : List Int) (i : Nat) (h : i < l.length) : rd l (i : Int) = l[i] := by
  unfold rd; rw [Int.toNat_natCast, List.getD_eq_getElem?_getD, List.getElem?_eq_getElem h]; rfl
theorem toInt64S_l0 (l : List Int) (hl : l.length ≤ 1048576) : ∀ (d i : Nat), l.length - i = d → i ≤ l.length →
    Ev (fun k => laws_toInt64S.l0 k l (l.take i ++ List.replicate (l.length - i) 0) (i : Int)) l := by
  intro d
  induction d with
  | zero =>
    intro i hd hi
    have : i = l.length := by omega
    subst this
    refine Ev.step (fun k => by rw [laws_toInt64S.l0, if_neg (by omega)]) (Ev.give ?_)
    simp
  | succ d ih =>
    intro i hd hi
    have hlt : i < l.length := by omega
    have hw : wrap64 ((i : Int) + 1) = ((i + 1 : Nat) : Int) := by rw [wrap64_id (by omega) (by omega)]; rfl
    have hs := set_prefix_id (0 : Int) l i hlt l[i] (List.getElem?_eq_getElem hlt)
    refine Ev.step (fun k => by rw [laws_toInt64S.l0, if_pos (by omega), if_pos (by omega), if_pos (by simp; omega), rd_at l i hlt, Int.toNat_natCast, hw, hs]) ?_
    exact ih (i + 1) (by omega) (by omega)
theorem toInt64S (l : List Int) (hl : l.length ≤ 1048576) : Ev (fun k => laws_toInt64S.f k l) l := by
  refine Ev.congr (fun k => by rw [laws_toInt64S.f, if_pos (by omega), if_pos (by omega), Int.toNat_natCast]) ?_
  have := toInt64S_l0 l hl l.length 0 rfl (by omega)
  simpa using this
theorem eqInt64S_l0 (l : List Int) (hl : l.length ≤ 1048576) : ∀ (d i : Nat), l.length - i = d → i ≤ l.length → Ev (fun k => laws_eqInt64S.l0 k l l (i : Int)) true := by
  intro d
  induction d with
  | zero =>
    intro i hd hi
    exact Ev.step (fun k => by rw [laws_eqInt64S.l0, if_neg (by omega)]) (Ev.now _)
  | succ d ih =>
    intro i hd hi
    have hw : wrap64 ((i : Int) + 1) = ((i + 1 : Nat) : Int) := by rw [wrap64_id (by omega) (by omega)]; rfl
    refine Ev.step (fun k => by rw [laws_eqInt64S.l0, if_pos (by omega), if_pos (by omega), if_pos (by omega), if_pos rfl, hw]) ?_
    exact ih (i + 1) (by omega) (by omega)
theorem eqInt64S (l : List Int) (hl : l.length ≤ 1048576) : Ev (fun k => laws_eqInt64S.f k l l) true := by
  refine Ev.congr (fun k => by rw [laws_eqInt64S.f, if_pos rfl]) ?_
  exact eqInt64S_l0 l hl l.length 0 rfl (by omega)

theorem szInt64S (l : List Int) (left : Int) (hl : l.length ≤ 9223372036854775807) (h0 : 0 ≤ left) (h1 : left ≤ 1048576) :
    (laws_szInt64S.f l left = some (-1) ∧ left < l.length) ∨ (laws_szInt64S.f l left = some (left - l.length) ∧ (l.length : Int) ≤ left) := by
  unfold laws_szInt64S.f
  rw [wrap64_id (by omega) (by omega)]
  by_cases h : left - (l.length : Int) < 0
  · rw [if_pos h]; exact .inl ⟨rfl, by omega⟩
  · rw [if_neg h]; exact .inr ⟨rfl, by omega⟩

theorem szMatrix (r c : Int) (l : List Int) (left : Int) (hl : l.length ≤ 9223372036854775807) (h0 : 0 ≤ left) (h1 : left ≤ 1048576) :
    (laws_szMatrix.f r c l left = some (-1)) ∨ (laws_szMatrix.f r c l left = some (left - l.length) ∧ (l.length : Int) ≤ left) := by
  unfold laws_szMatrix.f
  rcases szInt64S l left hl h0 h1 with ⟨h, _⟩ | ⟨h, hle⟩
  · rw [h, Option.bind_some, if_pos (by decide)]; exact .inl rfl
  · rw [h, Option.bind_some, if_neg (by omega)]; exact .inr ⟨rfl, hle⟩
theorem toMatrix (r c : Int) (l : List Int) (hl : l.length ≤ 1048576) : Ev (fun k => laws_toMatrix.f k r c l) (r, c, l) :=
  Ev.congr (fun k => by rw [laws_toMatrix.f]) (Ev.bind (toInt64S l hl) (Ev.now _))
theorem eqMatrix (r c : Int) (l : List Int) (hl : l.length ≤ 1048576) : Ev (fun k => laws_eqMatrix.f k r c l r c l) true :=
  Ev.congr (fun k => by rw [laws_eqMatrix.f, if_pos rfl, if_pos rfl]) (Ev.bind (eqInt64S l hl) (Ev.pos rfl (Ev.now _)))

theorem impl_isByte (a : Int) : impl_isByte.f a = some (decide (0 ≤ a ∧ a < 256)) := by
  unfold impl_isByte.f
  by_cases h : a ≥ 0
  · rw [if_pos h]; congr 1; rw [decide_eq_decide]; omega
  · rw [if_neg h]; congr 1; rw [eq_comm, decide_eq_false_iff_not]; omega

def cellBad (x : Int) : Bool := !decide (0 ≤ x ∧ x < 256)
/-- What MatrixFault answers. -/
def matFaultOf (r c : Int) (l : List Int) : Int := if r < 1 then 1 else if r > 64 then 1 else if c < 1 then 1 else if c > 64 then 1 else if ¬ (l.length : Int) = r * c then 1 else if l.any cellBad = true then 1 else 0
theorem any_dropI {α : Type} (p : α → Bool) (l : List α) (i : Nat) (h : i < l.length) : (l.drop i).any p = (p l[i] || (l.drop (i + 1)).any p) := by
  rw [List.drop_eq_getElem_cons h, List.any_cons]
theorem side_mul {r c : Int} (h1 : 1 ≤ r) (h2 : r ≤ 64) (h3 : 1 ≤ c) (h4 : c ≤ 64) : 1 ≤ r * c ∧ r * c ≤ 4096 := by
  have e1 : r * c ≤ 64 * c := Int.mul_le_mul_of_nonneg_right h2 (by omega)
  have e2 : 1 * c ≤ r * c := Int.mul_le_mul_of_nonneg_right h1 (by omega)
  omega

theorem spec_matFault_l0 (r c : Int) (l : List Int) (hl : l.length ≤ 1048576) : ∀ (d i : Nat), l.length - i = d → i ≤ l.length → Ev (fun k => spec_MatrixFault.l0 k (i : Int) r c l) (if (l.drop i).any cellBad = true then 1 else 0) := by
  intro d
  induction d with
  | zero =>
    intro i hd hi
    rw [List.drop_eq_nil_of_le (by omega)]
    refine Ev.step (fun k => by rw [spec_MatrixFault.l0, if_neg (by omega)]) (Ev.give ?_)
    rfl
  | succ d ih =>
    intro i hd hi
    have hlt : i < l.length := by omega
    have hr := rd_at l i hlt
    have hw : wrap64 ((i : Int) + 1) = ((i + 1 : Nat) : Int) := by rw [wrap64_id (by omega) (by omega)]; rfl
    have next := ih (i + 1) (by omega) (by omega)
    rw [any_dropI cellBad l i hlt]
    refine Ev.step (fun k => by rw [spec_MatrixFault.l0, if_pos (by omega), if_pos (by omega), hr, spec_in, Option.bind_some]) ?_
    by_cases hb : 0 ≤ l[i] ∧ l[i] < 256
    · rw [show cellBad l[i] = false by simp [cellBad, hb], Bool.false_or]
      refine Ev.pos (by simpa using hb) ?_
      rw [hw]
      exact next
    · rw [show cellBad l[i] = true by simp only [cellBad, hb, decide_false, Bool.not_false], Bool.true_or]
      exact Ev.neg (by simpa using hb) (Ev.now _)
theorem spec_matFault (r c : Int) (l : List Int) (hl : l.length ≤ 1048576) : Ev (fun k => spec_MatrixFault.f k r c l) (matFaultOf r c l) := by
  unfold matFaultOf
  have bad : ∀ b : Bool, b = true → Ev (fun k => spec_MatrixFault.j0 k b r c l) 1 := by
    rintro b rfl
    exact Ev.step (fun k => by rw [spec_MatrixFault.j0, if_pos rfl]) (Ev.now _)
  refine Ev.congr (fun k => by rw [spec_MatrixFault.f]) ?_
  by_cases h0 : r < 1
  · rw [if_pos h0]; exact Ev.pos h0 (bad _ rfl)
  · rw [if_neg h0]; refine Ev.neg h0 ?_
    by_cases h1 : r > 64
    · rw [if_pos h1]; exact Ev.pos h1 (bad _ rfl)
    · rw [if_neg h1]; refine Ev.neg h1 ?_
      by_cases h2 : c < 1
      · rw [if_pos h2]; exact Ev.pos h2 (bad _ rfl)
      · rw [if_neg h2]; refine Ev.neg h2 ?_
        by_cases h3 : c > 64
        · rw [if_pos h3]; exact Ev.pos h3 (bad _ rfl)
        · rw [if_neg h3]; refine Ev.neg h3 ?_
          have hm := side_mul (by omega : 1 ≤ r) (by omega) (by omega : 1 ≤ c) (by omega)
          rw [wrap64_id (by omega) (by omega)]
          by_cases h4 : (l.length : Int) = r * c
          · rw [if_neg (by simpa using h4)]
            refine Ev.step (fun k => by rw [spec_MatrixFault.j0, if_neg (by simpa using h4)]) ?_
            have := spec_matFault_l0 r c l hl l.length 0 rfl (by omega)
            simpa using this
          · rw [if_pos h4]
            exact bad _ (by simpa using h4)

theorem impl_matFault_l0 (r c : Int) (l : List Int) (hl : l.length ≤ 1048576) : ∀ (d i : Nat), l.length - i = d → i ≤ l.length → Ev (fun k => impl_MatrixFault.l0 k l (l.length : Int) (i : Int)) (if (l.drop i).any cellBad = true then 1 else 0) := by
  intro d
  induction d with
  | zero =>
    intro i hd hi
    rw [List.drop_eq_nil_of_le (by omega)]
    refine Ev.step (fun k => by rw [impl_MatrixFault.l0, if_neg (by omega)]) (Ev.give ?_)
    rfl
  | succ d ih =>
    intro i hd hi
    have hlt : i < l.length := by omega
    have hr := rd_at l i hlt
    have hw : wrap64 ((i : Int) + 1) = ((i + 1 : Nat) : Int) := by rw [wrap64_id (by omega) (by omega)]; rfl
    have next := ih (i + 1) (by omega) (by omega)
    rw [any_dropI cellBad l i hlt]
    refine Ev.step (fun k => by rw [impl_MatrixFault.l0, if_pos (by omega), if_pos (by omega), if_pos (by omega), hr, impl_isByte, Option.bind_some]) ?_
    by_cases hb : 0 ≤ l[i] ∧ l[i] < 256
    · rw [show cellBad l[i] = false by simp [cellBad, hb], Bool.false_or]
      refine Ev.pos (by simpa using hb) ?_
      rw [hw]
      exact next
    · rw [show cellBad l[i] = true by simp only [cellBad, hb, decide_false, Bool.not_false], Bool.true_or]
      exact Ev.neg (by simpa using hb) (Ev.now _)
theorem impl_matFault (r c : Int) (l : List Int) (hl : l.length ≤ 1048576) : Ev (fun k => impl_MatrixFault.f k r c l) (matFaultOf r c l) := by
  unfold matFaultOf
  have bad : ∀ b : Bool, b = true → Ev (fun k => impl_MatrixFault.j0 k b r c l) 1 := by
    rintro b rfl
    exact Ev.step (fun k => by rw [impl_MatrixFault.j0, if_pos rfl]) (Ev.now _)
  refine Ev.congr (fun k => by rw [impl_MatrixFault.f]) ?_
  by_cases h0 : r < 1
  · rw [if_pos h0]; exact Ev.pos h0 (bad _ rfl)
  · rw [if_neg h0]; refine Ev.neg h0 ?_
    by_cases h1 : r > 64
    · rw [if_pos h1]; exact Ev.pos h1 (bad _ rfl)
    · rw [if_neg h1]; refine Ev.neg h1 ?_
      by_cases h2 : c < 1
      · rw [if_pos h2]; exact Ev.pos h2 (bad _ rfl)
      · rw [if_neg h2]; refine Ev.neg h2 ?_
        by_cases h3 : c > 64
        · rw [if_pos h3]; exact Ev.pos h3 (bad _ rfl)
        · rw [if_neg h3]; refine Ev.neg h3 ?_
          have hm := side_mul (by omega : 1 ≤ r) (by omega) (by omega : 1 ≤ c) (by omega)
          rw [wrap64_id (by omega) (by omega)]
          by_cases h4 : (l.length : Int) = r * c
          · rw [if_neg (by simpa using h4)]
            refine Ev.step (fun k => by rw [impl_MatrixFault.j0, if_neg (by simpa using h4)]) ?_
            have := impl_matFault_l0 r c l hl l.length 0 rfl (by omega)
            simpa using this
          · rw [if_pos h4]
            exact bad _ (by simpa using h4)

/-! A list that is written over with rising numbers, and read again. -/
def markL (a : Int) (n : Nat) : List Int := (List.range n).map fun i : Nat => a + (i : Int)
theorem markL_length (a : Int) (n : Nat) : (markL a n).length = n := by simp [markL]
theorem markL_succ (a : Int) (n : Nat) : markL a (n + 1) = markL a n ++ [a + (n : Int)] := by unfold markL; rw [List.range_succ, List.map_append]; rfl
theorem markL_rd (a : Int) (n i : Nat) (h : i < n) : rd (markL a n) (i : Int) = a + (i : Int) := by
  rw [rd_at _ i (by rw [markL_length]; exact h)]
  simp [markL]
theorem markInt64S_l0 (l : List Int) (hl : l.length ≤ 1048576) (a : Int) (ha : 0 ≤ a ∧ a ≤ 1000000000) : ∀ (d i : Nat), l.length - i = d → i ≤ l.length →
    Ev (fun k => laws_markInt64S.l0 k (markL a i ++ l.drop i) (a + (i : Int)) (i : Int)) (a + (l.length : Int), markL a l.length) := by
  intro d
  induction d with
  | zero =>
    intro i hd hi
    have e : i = l.length := by omega
    subst e
    refine Ev.step (fun k => by rw [laws_markInt64S.l0, if_neg (by rw [List.length_append, markL_length, List.length_drop]; omega)]) (Ev.give ?_)
    rw [List.drop_length, List.append_nil]
  | succ d ih =>
    intro i hd hi
    have hlt : i < l.length := by omega
    have hs : (markL a i ++ l.drop i).set i (a + (i : Int)) = markL a (i + 1) ++ l.drop (i + 1) := by
      rw [List.set_append_right _ _ (by rw [markL_length]; exact Nat.le_refl i), markL_length, Nat.sub_self, List.drop_eq_getElem_cons hlt, List.set_cons_zero, markL_succ, List.append_assoc]
      rfl
    refine Ev.step (fun k => by rw [laws_markInt64S.l0, if_pos (by rw [List.length_append, markL_length, List.length_drop]; omega), if_pos (by omega), Int.toNat_natCast, hs, wrap64_id (x := a + (i : Int) + 1) (by omega) (by omega), wrap64_id (x := (i : Int) + 1) (by omega) (by omega), show a + (i : Int) + 1 = a + ((i + 1 : Nat) : Int) by omega]) ?_
    exact ih (i + 1) (by omega) (by omega)
theorem markInt64S (l : List Int) (hl : l.length ≤ 1048576) (a : Int) (ha : 0 ≤ a ∧ a ≤ 1000000000) : Ev (fun k => laws_markInt64S.f k l a) (a + (l.length : Int), markL a l.length) := by
  have := markInt64S_l0 l hl a ha l.length 0 (by omega) (by omega)
  rw [show a + ((0 : Nat) : Int) = a by omega] at this
  exact Ev.congr (fun k => by rw [laws_markInt64S.f]; rfl) this
theorem heldInt64S_l0 (n : Nat) (hn : n ≤ 1048576) (a : Int) (ha : 0 ≤ a ∧ a ≤ 1000000000) : ∀ (d i : Nat), n - i = d → i ≤ n →
    Ev (fun k => laws_heldInt64S.l0 k (markL a n) (a + (i : Int)) (i : Int)) (a + (n : Int)) := by
  intro d
  induction d with
  | zero =>
    intro i hd hi
    have e : i = n := by omega
    subst e
    exact Ev.step (fun k => by rw [laws_heldInt64S.l0, if_neg (by rw [markL_length]; omega)]) (Ev.now _)
  | succ d ih =>
    intro i hd hi
    refine Ev.step (fun k => by rw [laws_heldInt64S.l0, if_pos (by rw [markL_length]; omega), if_pos (by omega), markL_rd a n i (by omega), if_pos rfl, wrap64_id (x := a + (i : Int) + 1) (by omega) (by omega), wrap64_id (x := (i : Int) + 1) (by omega) (by omega), show a + (i : Int) + 1 = a + ((i + 1 : Nat) : Int) by omega]) ?_
    exact ih (i + 1) (by omega) (by omega)
theorem heldInt64S (n : Nat) (hn : n ≤ 1048576) (a : Int) (ha : 0 ≤ a ∧ a ≤ 1000000000) : Ev (fun k => laws_heldInt64S.f k (markL a n) a) (a + (n : Int)) := by
  have := heldInt64S_l0 n hn a ha n 0 (by omega) (by omega)
  rw [show a + ((0 : Nat) : Int) = a by omega] at this
  exact Ev.congr (fun k => by rw [laws_heldInt64S.f]; rfl) this

/-! Matrices held against one another; a matrix that is written over, and read again. -/
theorem eqMatrixResult_self (c r q : Int) (l : List Int) (hl : l.length ≤ 1048576) : Ev (fun k => laws_eqMatrixResult.f k c r q l c r q l) true := by
  refine Ev.congr (fun k => by rw [laws_eqMatrixResult.f, if_pos rfl]) ?_
  refine Ev.bind (a := true) ?_ (Ev.pos rfl (Ev.now _))
  refine Ev.congr (fun k => by rw [laws_eqMatrix.f, if_pos rfl, if_pos rfl]) ?_
  exact Ev.bind (eqInt64S l hl) (Ev.pos rfl (Ev.now _))
theorem markMatrixResult_ev (c r q : Int) (l : List Int) (hl : l.length ≤ 1048576) : Ev (fun k => laws_markMatrixResult.f k c r q l 1) (1 + (l.length : Int), markL 1 l.length) := by
  refine Ev.congr (fun k => by rw [laws_markMatrixResult.f]) ?_
  refine Ev.bind (a := (1 + (l.length : Int), markL 1 l.length)) ?_ (Ev.now _)
  refine Ev.congr (fun k => by rw [laws_markMatrix.f]) ?_
  exact Ev.bind (markInt64S l hl 1 (by omega)) (Ev.now _)
theorem heldMatrixResult_ev (c r q : Int) (n : Nat) (hn : n ≤ 1048576) : Ev (fun k => laws_heldMatrixResult.f k c r q (markL 1 n) 1) (1 + (n : Int)) := by
  refine Ev.congr (fun k => by rw [laws_heldMatrixResult.f]) ?_
  refine Ev.bind (a := 1 + (n : Int)) ?_ (Ev.neg (by omega) (Ev.now _))
  refine Ev.congr (fun k => by rw [laws_heldMatrix.f]) ?_
  exact Ev.bind (heldInt64S n hn 1 (by omega)) (Ev.neg (by omega) (Ev.now _))

/-- What MatMul answers. -/
def matMulOf (a0 a1 : Int) (l0 : List Int) (b0 b1 : Int) (l1 : List Int) : Int × Int × Int × List Int := if matFaultOf a0 a1 l0 = 0 ∧ matFaultOf b0 b1 l1 = 0 ∧ a1 = b0 then (0, a0, b1, mmL a0.toNat a1.toNat b1.toNat l0 l1 a0.toNat 0 0) else (1, 0, 0, [])
theorem matFault_ok {r c : Int} {l : List Int} (h : matFaultOf r c l = 0) : MatOk r c l := by
  unfold matFaultOf at h
  by_cases h0 : r < 1
  · rw [if_pos h0] at h; omega
  · rw [if_neg h0] at h
    by_cases h1 : r > 64
    · rw [if_pos h1] at h; omega
    · rw [if_neg h1] at h
      by_cases h2 : c < 1
      · rw [if_pos h2] at h; omega
      · rw [if_neg h2] at h
        by_cases h3 : c > 64
        · rw [if_pos h3] at h; omega
        · rw [if_neg h3] at h
          by_cases h4 : (l.length : Int) = r * c
          · rw [if_neg (not_not_intro h4)] at h
            by_cases h5 : l.any cellBad = true
            · rw [if_pos h5] at h; omega
            · refine ⟨by omega, by omega, by omega, by omega, h4, fun x hx => ?_⟩
              have h6 : cellBad x ≠ true := fun e => h5 (List.any_eq_true.2 ⟨x, hx, e⟩)
              unfold cellBad at h6
              have h7 : decide (0 ≤ x ∧ x < 256) = true := by
                cases hd : decide (0 ≤ x ∧ x < 256) with
                | true => rfl
                | false => rw [hd] at h6; exact absurd rfl h6
              exact of_decide_eq_true h7
          · rw [if_pos h4] at h; omega
theorem matMulOf_len (a0 a1 : Int) (l0 : List Int) (b0 b1 : Int) (l1 : List Int) : (matMulOf a0 a1 l0 b0 b1 l1).2.2.2.length ≤ 4096 := by
  unfold matMulOf
  by_cases h : matFaultOf a0 a1 l0 = 0 ∧ matFaultOf b0 b1 l1 = 0 ∧ a1 = b0
  · rw [if_pos h]
    obtain ⟨h1, h2, _⟩ := matFault_ok h.1
    obtain ⟨_, _, h3, h4, _⟩ := matFault_ok h.2.1
    show (mmL _ _ _ _ _ _ _ _).length ≤ 4096
    rw [mm_len]
    have : a0.toNat * b1.toNat ≤ 64 * 64 := Nat.mul_le_mul (by omega) (by omega)
    omega
  · rw [if_neg h]
    exact Nat.zero_le _
theorem impl_matMul (a0 a1 : Int) (l0 : List Int) (b0 b1 : Int) (l1 : List Int) (h0 : l0.length ≤ 1048576) (h1 : l1.length ≤ 1048576) : Ev (fun k => impl_MatMul.f k a0 a1 l0 b0 b1 l1) (matMulOf a0 a1 l0 b0 b1 l1) := by
  refine Ev.congr (fun k => by rw [impl_MatMul.f]) ?_
  have bad : ¬ (matFaultOf a0 a1 l0 = 0 ∧ matFaultOf b0 b1 l1 = 0 ∧ a1 = b0) → ∀ x : Bool, x = true → Ev (fun k => impl_MatMul.j0 k x a0 a1 l0 b0 b1 l1) (matMulOf a0 a1 l0 b0 b1 l1) := by
    rintro hn x rfl
    refine Ev.step (fun k => by rw [impl_MatMul.j0, if_pos rfl]) (Ev.give ?_)
    unfold matMulOf
    rw [if_neg hn]
  refine Ev.bind (impl_matFault a0 a1 l0 h0) ?_
  by_cases c0 : matFaultOf a0 a1 l0 = 0
  · refine Ev.pos c0 (Ev.bind (impl_matFault b0 b1 l1 h1) ?_)
    by_cases c1 : matFaultOf b0 b1 l1 = 0
    · refine Ev.pos c1 ?_
      by_cases c2 : a1 = b0
      · refine Ev.step (fun k => by rw [impl_MatMul.j0, if_neg (by simpa using c2), if_pos ⟨matFault_ok c0, matFault_ok c1, c2⟩]) (Ev.give ?_)
        unfold matMulOf
        rw [if_pos ⟨c0, c1, c2⟩]
      · exact bad (fun h => c2 h.2.2) _ (by simpa using c2)
    · exact Ev.neg c1 (bad (fun h => c1 h.2.1) _ rfl)
  · exact Ev.neg c0 (bad (fun h => c0 h.1) _ rfl)
/-! The specification's product. -/
def smL (r c d : Nat) (l0 l1 : List Int) (n : Nat) : List Int := (List.range (r * d)).map fun p => if p < n then ((mmV c d l0 l1 (p / d) (p % d) c : Nat) : Int) else 0
theorem smL_len (r c d : Nat) (l0 l1 : List Int) (n : Nat) : (smL r c d l0 l1 n).length = r * d := by simp [smL]
theorem smL_get (r c d : Nat) (l0 l1 : List Int) (n p : Nat) (h : p < r * d) : (smL r c d l0 l1 n)[p]? = some (if p < n then ((mmV c d l0 l1 (p / d) (p % d) c : Nat) : Int) else 0) := by
  unfold smL; rw [List.getElem?_map, List.getElem?_range h]; rfl
theorem smL_zero (r c d : Nat) (l0 l1 : List Int) : List.replicate (r * d) (0 : Int) = smL r c d l0 l1 0 := by
  refine mm_ext (K := r * d) (by simp) (smL_len _ _ _ _ _ _) (fun t ht => ?_)
  rw [smL_get _ _ _ _ _ _ _ ht, List.getElem?_replicate, if_pos ht, if_neg (Nat.not_lt_zero _)]
theorem smL_set (r c d : Nat) (l0 l1 : List Int) (i j : Nat) (hi : i < r) (hj : j < d) : (smL r c d l0 l1 (i * d + j)).set (i * d + j) ((mmV c d l0 l1 i j c : Nat) : Int) = smL r c d l0 l1 (i * d + (j + 1)) := by
  obtain ⟨h1, h2, _⟩ := mm_cell c d i j j hj
  have hp : i * d + j < r * d := by have := Nat.mul_le_mul_right d hi; rw [Nat.succ_mul] at this; omega
  refine mm_ext (K := r * d) (by rw [List.length_set, smL_len]) (smL_len _ _ _ _ _ _) (fun t ht => ?_)
  rw [smL_get _ _ _ _ _ _ _ ht, List.getElem?_set, smL_len, smL_get _ _ _ _ _ _ _ ht]
  by_cases e : i * d + j = t
  · subst e
    rw [if_pos rfl, if_pos hp, if_pos (by omega), h1, h2]
  · rw [if_neg e]
    by_cases h3 : t < i * d + j
    · rw [if_pos h3, if_pos (by omega)]
    · rw [if_neg h3, if_neg (by omega)]
theorem smL_full (r c d : Nat) (l0 l1 : List Int) (hd : 1 ≤ d) : smL r c d l0 l1 (r * d) = mmL r c d l0 l1 r 0 0 := by
  refine mm_ext (K := r * d) (smL_len _ _ _ _ _ _) (mm_len _ _ _ _ _ _ _ _) (fun t ht => ?_)
  rw [smL_get _ _ _ _ _ _ _ ht, if_pos ht, mm_get _ _ _ _ _ _ _ _ _ ht]
  have : t / d < r := Nat.div_lt_of_lt_mul (by rw [Nat.mul_comm]; exact ht)
  unfold mmN
  rw [if_pos this]
theorem sm_w {j : Nat} (h : j ≤ 64) : wrap64 ((j : Int) + 1) = ((j + 1 : Nat) : Int) := by rw [wrap64_id (by omega) (by omega)]; omega
theorem sm_ix {i d j n : Nat} (h : i * d + j < n) (hn : n ≤ 4096) : wrap64 (wrap64 ((i : Int) * (d : Int)) + (j : Int)) = ((i * d + j : Nat) : Int) := by
  rw [← Int.natCast_mul, wrap64_id (x := ((i * d : Nat) : Int)) (by omega) (by omega), wrap64_id (by omega) (by omega)]
  omega
theorem spec_at (a0 : Int) (a1 : Nat) (l : List Int) (i j : Nat) (h : i * a1 + j < l.length) (hl : l.length ≤ 4096) : spec_l03At.f a0 (a1 : Int) l (i : Int) (j : Int) = some (rd l ((i * a1 + j : Nat) : Int)) := by
  unfold spec_l03At.f
  have e1 : (i : Int) * (a1 : Int) = ((i * a1 : Nat) : Int) := by rw [Int.natCast_mul]
  have e2 : wrap64 (wrap64 ((i : Int) * (a1 : Int)) + (j : Int)) = ((i * a1 + j : Nat) : Int) := by
    rw [e1, wrap64_id (x := ((i * a1 : Nat) : Int)) (by omega) (by omega), wrap64_id (by omega) (by omega)]
    omega
  rw [e2, if_pos (by omega), if_pos (by omega)]
theorem spec_mm_l2 (r c d : Nat) (l0 l1 : List Int) (hl0 : l0.length = r * c) (hl1 : l1.length = c * d) (hr : r ≤ 64) (hc : c ≤ 64) (hd : d ≤ 64) (hv0 : ∀ x ∈ l0, 0 ≤ x ∧ x < 256) (hv1 : ∀ x ∈ l1, 0 ≤ x ∧ x < 256) (m0 : Int) (L : List Int) (hL : L.length = r * d) (i j : Nat) (hi : i < r) (hj : j < d) (R : Int × Int × Int × List Int)
    (next : Ev (fun k => spec_MatMul.l1 k (i : Int) ((j + 1 : Nat) : Int) (r : Int) (c : Int) l0 (c : Int) (d : Int) l1 m0 (d : Int) (L.set (i * d + j) ((mmV c d l0 l1 i j c : Nat) : Int))) R) :
    ∀ (n m : Nat), c - m = n → m ≤ c → Ev (fun k => spec_MatMul.l2 k (i : Int) (j : Int) ((mmV c d l0 l1 i j m : Nat) : Int) (m : Int) (r : Int) (c : Int) l0 (c : Int) (d : Int) l1 m0 (d : Int) L) R := by
  have b1 : r * c ≤ 64 * 64 := Nat.mul_le_mul hr hc
  have b2 : c * d ≤ 64 * 64 := Nat.mul_le_mul hc hd
  have b3 : r * d ≤ 64 * 64 := Nat.mul_le_mul hr hd
  intro n
  induction n with
  | zero =>
    intro m hn hm
    have e : m = c := by omega
    subst e
    have hp : i * d + j < r * d := by have := Nat.mul_le_mul_right d hi; rw [Nat.succ_mul] at this; omega
    have e2 := sm_ix hp b3
    have hlt : ((i * d + j : Nat) : Int) < (L.length : Int) := by rw [hL]; exact Int.ofNat_lt.2 hp
    have hj1 : wrap64 ((j : Int) + 1) = ((j + 1 : Nat) : Int) := sm_w (Nat.le_of_lt (Nat.lt_of_lt_of_le hj hd))
    refine Ev.step (fun k => by rw [spec_MatMul.l2, if_neg (Int.lt_irrefl _), e2, if_pos (Int.natCast_nonneg _), if_pos hlt, Int.toNat_natCast, hj1]) next
  | succ n ih =>
    intro m hn hm
    have hmc : m < c := by omega
    have p1 : i * c + m < l0.length := by have := Nat.mul_le_mul_right c hi; rw [Nat.succ_mul] at this; omega
    have p2 : m * d + j < l1.length := by have := Nat.mul_le_mul_right d hmc; rw [Nat.succ_mul] at this; omega
    obtain ⟨x, hx, ex_⟩ := mm_nat hv0 p1
    obtain ⟨y, hy, ey_⟩ := mm_nat hv1 p2
    have h1 := mm_lt c d l0 l1 i j m
    have h2 := mm_tab x y
    have h3 : Mul8of (x : Int) (y : Int) = ((tabMul x y : Nat) : Int) := by rw [Mul8of_nat x y hx hy, tabMul_field x y hx hy]
    have hs : Go.bits .xor .i64 ((mmV c d l0 l1 i j m : Nat) : Int) ((tabMul x y : Nat) : Int) = ((mmV c d l0 l1 i j (m + 1) : Nat) : Int) := by
      rw [bits_xor_i64 _ _ (by omega) (by omega)]
      show _ = ((mmV c d l0 l1 i j m ^^^ tabMul (rd l0 ((i * c + m : Nat) : Int)).toNat (rd l1 ((m * d + j : Nat) : Int)).toNat : Nat) : Int)
      rw [ex_, ey_, Int.toNat_natCast, Int.toNat_natCast]
    refine Ev.step (fun k => by rw [spec_MatMul.l2, if_pos (by omega), spec_at _ c l0 i m p1 (by omega), Option.bind_some, spec_at _ d l1 m j p2 (by omega), Option.bind_some, ex_, ey_, wrap64_id (x := (m : Int) + 1) (by omega) (by omega), show (m : Int) + 1 = ((m + 1 : Nat) : Int) by omega]) ?_
    refine Ev.bind (spec_mul8 (x : Int) (y : Int)) ?_
    rw [h3, hs]
    exact ih (m + 1) (by omega) (by omega)
theorem spec_mm_l1 (r c d : Nat) (l0 l1 : List Int) (hl0 : l0.length = r * c) (hl1 : l1.length = c * d) (hr : r ≤ 64) (hc : c ≤ 64) (hd : d ≤ 64) (hv0 : ∀ x ∈ l0, 0 ≤ x ∧ x < 256) (hv1 : ∀ x ∈ l1, 0 ≤ x ∧ x < 256) (m0 : Int) (i : Nat) (hi : i < r) (R : Int × Int × Int × List Int)
    (next : Ev (fun k => spec_MatMul.l0 k ((i + 1 : Nat) : Int) (r : Int) (c : Int) l0 (c : Int) (d : Int) l1 m0 (d : Int) (smL r c d l0 l1 ((i + 1) * d))) R) :
    ∀ (n j : Nat), d - j = n → j ≤ d → Ev (fun k => spec_MatMul.l1 k (i : Int) (j : Int) (r : Int) (c : Int) l0 (c : Int) (d : Int) l1 m0 (d : Int) (smL r c d l0 l1 (i * d + j))) R := by
  intro n
  induction n with
  | zero =>
    intro j hn hj
    have e : j = d := by omega
    subst e
    rw [← Nat.succ_mul]
    refine Ev.step (fun k => by rw [spec_MatMul.l1, if_neg (by omega), wrap64_id (x := (i : Int) + 1) (by omega) (by omega), show (i : Int) + 1 = ((i + 1 : Nat) : Int) by omega]) next
  | succ n ih =>
    intro j hn hj
    have hjd : j < d := by omega
    refine Ev.step (fun k => by rw [spec_MatMul.l1, if_pos (by omega)]) ?_
    have h := ih (j + 1) (by omega) (by omega)
    rw [← smL_set r c d l0 l1 i j hi hjd] at h
    exact spec_mm_l2 r c d l0 l1 hl0 hl1 hr hc hd hv0 hv1 m0 _ (smL_len _ _ _ _ _ _) i j hi hjd R h c 0 (by omega) (by omega)
theorem spec_mm_l0 (r c d : Nat) (l0 l1 : List Int) (hl0 : l0.length = r * c) (hl1 : l1.length = c * d) (hr : r ≤ 64) (hc : c ≤ 64) (hd : d ≤ 64) (hv0 : ∀ x ∈ l0, 0 ≤ x ∧ x < 256) (hv1 : ∀ x ∈ l1, 0 ≤ x ∧ x < 256) (m0 : Int) :
    ∀ (n i : Nat), r - i = n → i ≤ r → Ev (fun k => spec_MatMul.l0 k (i : Int) (r : Int) (c : Int) l0 (c : Int) (d : Int) l1 m0 (d : Int) (smL r c d l0 l1 (i * d))) (0, m0, (d : Int), smL r c d l0 l1 (r * d)) := by
  intro n
  induction n with
  | zero =>
    intro i hn hi
    have e : i = r := by omega
    subst e
    exact Ev.step (fun k => by rw [spec_MatMul.l0, if_neg (by omega)]) (Ev.now _)
  | succ n ih =>
    intro i hn hi
    have hir : i < r := by omega
    refine Ev.step (fun k => by rw [spec_MatMul.l0, if_pos (by omega)]) ?_
    exact spec_mm_l1 r c d l0 l1 hl0 hl1 hr hc hd hv0 hv1 m0 i hir _ (ih (i + 1) (by omega) (by omega)) d 0 (by omega) (by omega)
theorem spec_matMul (a0 a1 : Int) (l0 : List Int) (b0 b1 : Int) (l1 : List Int) (h0 : l0.length ≤ 1048576) (h1 : l1.length ≤ 1048576) : Ev (fun k => spec_MatMul.f k a0 a1 l0 b0 b1 l1) (matMulOf a0 a1 l0 b0 b1 l1) := by
  refine Ev.congr (fun k => by rw [spec_MatMul.f]) ?_
  have bad : ¬ (matFaultOf a0 a1 l0 = 0 ∧ matFaultOf b0 b1 l1 = 0 ∧ a1 = b0) → ∀ x : Bool, x = true → Ev (fun k => spec_MatMul.j0 k x a0 a1 l0 b0 b1 l1) (matMulOf a0 a1 l0 b0 b1 l1) := by
    rintro hn x rfl
    refine Ev.step (fun k => by rw [spec_MatMul.j0, if_pos rfl]) (Ev.give ?_)
    unfold matMulOf
    rw [if_neg hn]
  refine Ev.bind (spec_matFault a0 a1 l0 h0) ?_
  by_cases c0 : matFaultOf a0 a1 l0 = 0
  · refine Ev.pos c0 (Ev.bind (spec_matFault b0 b1 l1 h1) ?_)
    by_cases c1 : matFaultOf b0 b1 l1 = 0
    · refine Ev.pos c1 ?_
      by_cases c2 : a1 = b0
      · refine Ev.step (fun k => by rw [spec_MatMul.j0, if_neg (by simpa using c2)]) ?_
        obtain ⟨k1, k2, k3, k4, k5, hv0⟩ := matFault_ok c0
        obtain ⟨_, _, k9, k10, k11, hv1⟩ := matFault_ok c1
        unfold matMulOf
        rw [if_pos ⟨c0, c1, c2⟩]
        subst c2
        clear bad c0 c1
        obtain ⟨r, rfl⟩ := Int.eq_ofNat_of_zero_le (show 0 ≤ a0 by omega)
        obtain ⟨c, rfl⟩ := Int.eq_ofNat_of_zero_le (show 0 ≤ a1 by omega)
        obtain ⟨d, rfl⟩ := Int.eq_ofNat_of_zero_le (show 0 ≤ b1 by omega)
        have hl0 : l0.length = r * c := by rw [← Int.natCast_mul] at k5; exact Int.ofNat.inj k5
        have hl1 : l1.length = c * d := by rw [← Int.natCast_mul] at k11; exact Int.ofNat.inj k11
        have b3 : r * d ≤ 64 * 64 := Nat.mul_le_mul (by omega) (by omega)
        have hnew : spec_l03New.f (r : Int) (d : Int) = some ((r : Int), (d : Int), smL r c d l0 l1 0) := by
          unfold spec_l03New.f
          rw [← Int.natCast_mul, wrap64_id (x := ((r * d : Nat) : Int)) (by omega) (by omega), if_pos (by omega), if_pos (by omega), Int.toNat_natCast, smL_zero r c d l0 l1]
        refine Ev.bindS hnew ?_
        rw [Int.toNat_natCast, Int.toNat_natCast, Int.toNat_natCast, ← smL_full r c d l0 l1 (by omega)]
        have h := spec_mm_l0 r c d l0 l1 hl0 hl1 (by omega) (by omega) (by omega) hv0 hv1 (r : Int) r 0 (by omega) (by omega)
        rw [Nat.zero_mul] at h
        exact h
      · exact bad (fun h => c2 h.2.2) _ (by simpa using c2)
    · exact Ev.neg c1 (bad (fun h => c1 h.2.1) _ rfl)
  · exact Ev.neg c0 (bad (fun h => c0 h.1) _ rfl)

theorem markMatrix_ev (r c : Int) (l : List Int) (hl : l.length ≤ 1048576) (a : Int) (ha : 0 ≤ a ∧ a ≤ 1000000000) : Ev (fun k => laws_markMatrix.f k r c l a) (a + (l.length : Int), markL a l.length) :=
  Ev.congr (fun k => by rw [laws_markMatrix.f]) (Ev.bind (markInt64S l hl a ha) (Ev.now _))
theorem FnExactMatMul : laws_FnExactMatMul.Wants := by
  intro a0 a1 l0 b0 b1 l1 _ _ hg0 _ _ hg1
  refine Ev.rounds (Ev.congr (fun k => by rw [laws_FnExactMatMul.f]) ?_)
  rcases szMatrix a0 a1 l0 1048576 hg0.1 (by omega) (by omega) with h | ⟨h, hle⟩
  · exact Ev.bindS h (Ev.pos (by decide) (Ev.now _))
  · refine Ev.bindS h (Ev.neg (by omega) ?_)
    have hl0 : l0.length ≤ 1048576 := by omega
    rcases szMatrix b0 b1 l1 (1048576 - l0.length) hg1.1 (by omega) (by omega) with h | ⟨h, hle1⟩
    · exact Ev.bindS h (Ev.pos (by decide) (Ev.now _))
    · refine Ev.bindS h (Ev.neg (by omega) ?_)
      have hl1 : l1.length ≤ 1048576 := by omega
      have hl := matMulOf_len a0 a1 l0 b0 b1 l1
      have hs := spec_matMul a0 a1 l0 b0 b1 l1 hl0 hl1
      have hi := impl_matMul a0 a1 l0 b0 b1 l1 hl0 hl1
      generalize matMulOf a0 a1 l0 b0 b1 l1 = R at hl hs hi
      obtain ⟨c, x, y, l⟩ := R
      simp only at hl
      have ta := toMatrix a0 a1 l0 hl0
      have tb := toMatrix b0 b1 l1 hl1
      have he := eqMatrixResult_self c x y l (by omega)
      refine Ev.bind ta (Ev.bind tb (Ev.bind hs (Ev.bind ta (Ev.bind tb (Ev.bind hi (Ev.bind he (Ev.pos rfl ?_)))))))
      refine Ev.bind ta (Ev.bind (eqMatrix a0 a1 l0 hl0) (Ev.pos rfl (Ev.bind tb (Ev.bind (eqMatrix b0 b1 l1 hl1) (Ev.pos rfl ?_)))))
      refine Ev.bind (markMatrix_ev a0 a1 l0 hl0 1 (by omega)) (Ev.bind (markMatrix_ev b0 b1 l1 hl1 _ (by omega)) (Ev.neg (by simp only; omega) (Ev.bind he ?_)))
      refine Ev.step (fun k => by rw [laws_FnExactMatMul.j0, if_neg (by decide)]) ?_
      refine Ev.bind (markMatrixResult_ev c x y l (by omega)) (Ev.bind (heldMatrixResult_ev c x y l.length (by omega)) (Ev.neg (by omega) (Ev.pos rfl ?_)))
      refine Ev.bind ta (Ev.bind tb (Ev.bind hi (Ev.bind he (Ev.pos rfl ?_))))
      exact Ev.bind (heldMatrixResult_ev c x y l.length (by omega)) (Ev.neg (by omega) (Ev.pos rfl (Ev.now true)))

end Go.Proofs.Ytcpmlelejlmpdaa.Pure
