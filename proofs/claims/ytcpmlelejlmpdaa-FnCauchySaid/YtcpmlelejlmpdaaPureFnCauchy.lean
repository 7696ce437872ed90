/- The statement FnCauchy over numbers and lists alone: drawn rows and columns of a Cauchy matrix make a matrix of full rank that has an inverse. No condition. -/
import Derived.Test.YtcpmlelejlmpdaaQFnCauchyx8
import Derived.Laws.BitsAllLaws
import Derived.Laws.Bits64
set_option linter.all false
namespace Go.Proofs.Ytcpmlelejlmpdaa.Pure
open Go.RowKit Go.Proofs.Ytcpmlelejlmpdaa.QFnCauchy Go.Proofs.YtcpmlelejlmpdaaW.PrintWords Go.Proofs.YtcpmlelejlmpdaaW.PrintLast Go.Proofs.YtcpmlelejlmpdaaW.PrintMore

/-! Small lemmas on wraps, rounds and lists. -/
theorem wrap64_id {x : Int} (h0 : -9223372036854775808 ≤ x) (h1 : x < 9223372036854775808) : wrap64 x = x := by unfold wrap64; omega
theorem u64_id {x : Int} (h0 : 0 ≤ x) (h1 : x < 18446744073709551616) : IntKind.u64.wrap x = x := by rw [IntKind.wrap_u64]; omega
theorem Ev.pos {α : Type} {c : Prop} [Decidable c] {f g : Nat → Option α} {r : α} (h : c) (e : Ev f r) : Ev (fun k => if c then f k else g k) r := by simpa [h] using e
theorem Ev.neg {α : Type} {c : Prop} [Decidable c] {f g : Nat → Option α} {r : α} (h : ¬ c) (e : Ev g r) : Ev (fun k => if c then f k else g k) r := by simpa [h] using e
theorem Ev.bindS {α β : Type} {g : Option α} {f : Nat → α → Option β} {a : α} {r : β} (h : g = some a) (e : Ev (fun k => f k a) r) : Ev (fun k => g.bind (f k)) r := by subst h; simpa using e
theorem Ev.give {α : Type} {r s : α} (h : s = r) : Ev (fun _ => some s) r := by subst h; exact Ev.now _
theorem bt_drop (s : ByteArray) (i : Nat) (h : i < s.size) : ∃ c : UInt8, s.data.toList.drop i = c :: s.data.toList.drop (i + 1) ∧ bt s (i : Int) = (c.toNat : Int) := by
  have hl : i < s.data.toList.length := by simpa using h
  refine ⟨s.data.toList[i], List.drop_eq_getElem_cons hl, ?_⟩
  unfold bt
  rw [dif_pos (by simpa using h)]
  simp [ByteArray.getElem_eq_getElem_data]
theorem drop_end (s : ByteArray) (i : Nat) (h : s.size ≤ i) : s.data.toList.drop i = [] := List.drop_eq_nil_of_le (by simpa using h)
theorem size_strOfNums (l : List Int) : (strOfNums l).size = l.length := by
  show (strOfNums l).data.size = l.length
  simp [strOfNums]
theorem i64_range {n : Int} (h : (Lit.int .i64 n).wf = true) : -9223372036854775808 ≤ n ∧ n < 9223372036854775808 := by
  simp only [Lit.wf, IntKind.min, IntKind.max, IntKind.signed, IntKind.bits, Bool.and_eq_true, decide_eq_true_eq, if_true] at h; omega
theorem byte_eq_int (c d : UInt8) : ((c.toNat : Int) = (d.toNat : Int)) ↔ c = d := by
  constructor
  · intro h; exact UInt8.toNat_inj.1 (by omega)
  · rintro rfl; rfl
theorem byte_eq_lit (c : UInt8) (n : Nat) (hn : n < 256) : ((c.toNat : Int) = (n : Int)) ↔ c = UInt8.ofNat n := by
  rw [← byte_eq_int]
  have : (UInt8.ofNat n).toNat = n := by simp [UInt8.toNat_ofNat']; omega
  rw [this]
theorem bt_get (s : ByteArray) (i : Nat) (h : i < s.size) : ∃ c : UInt8, s.data.toList[i]? = some c ∧ bt s (i : Int) = (c.toNat : Int) := by
  obtain ⟨c, e, hb⟩ := bt_drop s i h
  refine ⟨c, ?_, hb⟩
  have : (s.data.toList.drop i)[0]? = some c := by rw [e]; rfl
  simpa using this

/-! Go's bits at numbers from 0 on. -/
theorem bits_xor_i64 (a b : Nat) (ha : a < 9223372036854775808) (hb : b < 9223372036854775808) : Go.bits .xor .i64 (a : Int) (b : Int) = ((a ^^^ b : Nat) : Int) := by
  have hx : a ^^^ b < 2 ^ 63 := Nat.xor_lt_two_pow (by simpa using ha) (by simpa using hb)
  show IntKind.i64.wrap (((BitVec.ofInt 64 (a : Int)) ^^^ (BitVec.ofInt 64 (b : Int))).toNat : Int) = _
  rw [BitVec.toNat_xor, BitVec.ofInt_natCast, BitVec.ofInt_natCast, BitVec.toNat_ofNat, BitVec.toNat_ofNat, Nat.mod_eq_of_lt (by omega : a < 2 ^ 64), Nat.mod_eq_of_lt (by omega : b < 2 ^ 64), IntKind.wrap_i64]
  omega
theorem bits_and_i64 (a b : Nat) (ha : a < 9223372036854775808) (hb : b < 9223372036854775808) : Go.bits .and .i64 (a : Int) (b : Int) = ((a &&& b : Nat) : Int) := by
  have hx : a &&& b < 2 ^ 63 := Nat.and_lt_two_pow _ (by simpa using hb)
  show IntKind.i64.wrap (((BitVec.ofInt 64 (a : Int)) &&& (BitVec.ofInt 64 (b : Int))).toNat : Int) = _
  rw [BitVec.toNat_and, BitVec.ofInt_natCast, BitVec.ofInt_natCast, BitVec.toNat_ofNat, BitVec.toNat_ofNat, Nat.mod_eq_of_lt (by omega : a < 2 ^ 64), Nat.mod_eq_of_lt (by omega : b < 2 ^ 64), IntKind.wrap_i64]
  omega
theorem bits_xor_u8 (a b : Nat) (ha : a < 256) (hb : b < 256) : Go.bits .xor .u8 (a : Int) (b : Int) = ((a ^^^ b : Nat) : Int) := by
  have hx : a ^^^ b < 2 ^ 8 := Nat.xor_lt_two_pow (by simpa using ha) (by simpa using hb)
  show IntKind.u8.wrap (((BitVec.ofInt 8 (a : Int)) ^^^ (BitVec.ofInt 8 (b : Int))).toNat : Int) = _
  rw [BitVec.toNat_xor, BitVec.ofInt_natCast, BitVec.ofInt_natCast, BitVec.toNat_ofNat, BitVec.toNat_ofNat, Nat.mod_eq_of_lt (by omega : a < 2 ^ 8), Nat.mod_eq_of_lt (by omega : b < 2 ^ 8), IntKind.wrap_u8]
  omega
theorem bits_and_u8 (a b : Nat) (ha : a < 256) (hb : b < 256) : Go.bits .and .u8 (a : Int) (b : Int) = ((a &&& b : Nat) : Int) := by
  have hx : a &&& b < 2 ^ 8 := Nat.and_lt_two_pow _ (by simpa using hb)
  show IntKind.u8.wrap (((BitVec.ofInt 8 (a : Int)) &&& (BitVec.ofInt 8 (b : Int))).toNat : Int) = _
  rw [BitVec.toNat_and, BitVec.ofInt_natCast, BitVec.ofInt_natCast, BitVec.toNat_ofNat, BitVec.toNat_ofNat, Nat.mod_eq_of_lt (by omega : a < 2 ^ 8), Nat.mod_eq_of_lt (by omega : b < 2 ^ 8), IntKind.wrap_u8]
  omega
theorem bits_xor_u16 (a b : Nat) (ha : a < 65536) (hb : b < 65536) : Go.bits .xor .u16 (a : Int) (b : Int) = ((a ^^^ b : Nat) : Int) := by
  have hx : a ^^^ b < 2 ^ 16 := Nat.xor_lt_two_pow (by simpa using ha) (by simpa using hb)
  show IntKind.u16.wrap (((BitVec.ofInt 16 (a : Int)) ^^^ (BitVec.ofInt 16 (b : Int))).toNat : Int) = _
  rw [BitVec.toNat_xor, BitVec.ofInt_natCast, BitVec.ofInt_natCast, BitVec.toNat_ofNat, BitVec.toNat_ofNat, Nat.mod_eq_of_lt (by omega : a < 2 ^ 16), Nat.mod_eq_of_lt (by omega : b < 2 ^ 16), IntKind.wrap_u16]
  omega
theorem bits_and_u16 (a b : Nat) (ha : a < 65536) (hb : b < 65536) : Go.bits .and .u16 (a : Int) (b : Int) = ((a &&& b : Nat) : Int) := by
  have hx : a &&& b < 2 ^ 16 := Nat.and_lt_two_pow _ (by simpa using hb)
  show IntKind.u16.wrap (((BitVec.ofInt 16 (a : Int)) &&& (BitVec.ofInt 16 (b : Int))).toNat : Int) = _
  rw [BitVec.toNat_and, BitVec.ofInt_natCast, BitVec.ofInt_natCast, BitVec.toNat_ofNat, BitVec.toNat_ofNat, Nat.mod_eq_of_lt (by omega : a < 2 ^ 16), Nat.mod_eq_of_lt (by omega : b < 2 ^ 16), IntKind.wrap_u16]
  omega
theorem and_top (w a : Nat) (h : a < 2 ^ (w + 1)) : a &&& 2 ^ w = 0 ↔ a < 2 ^ w := by
  have hp : 0 < 2 ^ w := Nat.two_pow_pos w
  have ht : a.testBit w = decide (2 ^ w ≤ a) := by
    rw [Nat.testBit_eq_decide_div_mod_eq]
    have h2 : a / 2 ^ w < 2 := Nat.div_lt_of_lt_mul (by rw [Nat.pow_succ] at h; exact h)
    by_cases hc : 2 ^ w ≤ a
    · have : 1 ≤ a / 2 ^ w := (Nat.le_div_iff_mul_le hp).2 (by omega)
      have e : a / 2 ^ w = 1 := by omega
      simp [e, hc]
    · have e : a / 2 ^ w = 0 := Nat.div_eq_of_lt (by omega)
      simp [e, hc]
  constructor
  · intro h0
    have hb : (a &&& 2 ^ w).testBit w = false := by rw [h0]; simp
    rw [Nat.testBit_and, Nat.testBit_two_pow_self, Bool.and_true, ht] at hb
    simpa using hb
  · intro hl
    apply Nat.eq_of_testBit_eq
    intro i
    rw [Nat.testBit_and, Nat.zero_testBit, Nat.testBit_two_pow]
    by_cases hi : w = i
    · subst hi
      rw [ht]; simp; omega
    · simp [hi]

/-! Products of polynomials over two elements, modulo one of them. -/
def gdbl (top low a : Nat) : Nat := if top ≤ 2 * a then (2 * a - top) ^^^ low else 2 * a
def gmulL (top low : Nat) : Nat → Nat → Nat → Nat → Nat
  | 0, _, _, p => p
  | n + 1, a, b, p => gmulL top low n (gdbl top low a) (b / 2) (if b % 2 = 1 then p ^^^ a else p)
theorem xor_top (w x low : Nat) (h0 : 2 ^ w ≤ x) (h1 : x < 2 * 2 ^ w) (hl : low < 2 ^ w) : x ^^^ (2 ^ w + low) = (x - 2 ^ w) ^^^ low := by
  have hp : 0 < 2 ^ w := Nat.two_pow_pos w
  have hr : (x - 2 ^ w) ^^^ low < 2 ^ w := Nat.xor_lt_two_pow (by omega) hl
  have hd : (x ^^^ (2 ^ w + low)) / 2 ^ w = 0 := by
    rw [Nat.xor_div_two_pow]
    have e1 : x / 2 ^ w = 1 := by
      have := Nat.div_lt_of_lt_mul (m := x) (n := 2 ^ w) (k := 2) (by omega)
      have := (Nat.le_div_iff_mul_le (x := 1) (y := x) hp).2 (by omega)
      omega
    have e2 : (2 ^ w + low) / 2 ^ w = 1 := by rw [Nat.add_div_left _ hp, Nat.div_eq_of_lt hl]
    rw [e1, e2]; rfl
  have hm : (x ^^^ (2 ^ w + low)) % 2 ^ w = (x - 2 ^ w) ^^^ low := by
    rw [Nat.xor_mod_two_pow]
    have e1 : x % 2 ^ w = x - 2 ^ w := by rw [Nat.mod_eq_sub_mod h0, Nat.mod_eq_of_lt (by omega)]
    have e2 : (2 ^ w + low) % 2 ^ w = low := by rw [Nat.add_mod_left, Nat.mod_eq_of_lt hl]
    rw [e1, e2]
  have := Nat.div_add_mod (x ^^^ (2 ^ w + low)) (2 ^ w)
  rw [hd, hm, Nat.mul_zero, Nat.zero_add] at this
  exact this.symm
theorem gdbl_lt (w low a : Nat) (ha : a < 2 ^ w) (hl : low < 2 ^ w) : gdbl (2 ^ w) low a < 2 ^ w := by
  unfold gdbl
  split
  · exact Nat.xor_lt_two_pow (by omega) hl
  · omega
theorem gmulL_lt (w low : Nat) (hl : low < 2 ^ w) : ∀ n a b p, a < 2 ^ w → p < 2 ^ w → gmulL (2 ^ w) low n a b p < 2 ^ w := by
  intro n
  induction n with
  | zero => intro a b p _ hp; exact hp
  | succ n ih =>
    intro a b p ha hp
    rw [gmulL]
    refine ih _ _ _ (gdbl_lt w low a ha hl) ?_
    split
    · exact Nat.xor_lt_two_pow hp ha
    · exact hp
theorem gmulL_zero (top low : Nat) : ∀ n a p, gmulL top low n a 0 p = p := by
  intro n
  induction n with
  | zero => intro a p; rfl
  | succ n ih => intro a p; rw [gmulL]; simpa using ih _ _
def mul8 (a b : Nat) : Nat := gmulL 256 29 8 a b 0
def mul16 (a b : Nat) : Nat := gmulL 65536 4107 16 a b 0
theorem mul8_lt (a b : Nat) (ha : a < 256) : mul8 a b < 256 := gmulL_lt 8 29 (by decide) 8 a b 0 (by simpa using ha) (by decide)
theorem mul16_lt (a b : Nat) (ha : a < 65536) : mul16 a b < 65536 := gmulL_lt 16 4107 (by decide) 16 a b 0 (by simpa using ha) (by decide)

/-! The algebra of these products: linear in each factor, commutative, associative. -/
theorem xor_even (a b : Nat) : (a ^^^ b) / 2 = a / 2 ^^^ b / 2 := by
  have := Nat.xor_div_two_pow (a := a) (b := b) (n := 1)
  simpa using this
theorem xor_odd (a b : Nat) : (a ^^^ b) % 2 = (a % 2) ^^^ (b % 2) := by
  have := Nat.xor_mod_two_pow (a := a) (b := b) (n := 1)
  simpa using this
theorem xor_dbl (a b : Nat) : 2 * (a ^^^ b) = (2 * a) ^^^ (2 * b) := by
  have := Nat.shiftLeft_xor_distrib (a := a) (b := b) (i := 1)
  simp only [Nat.shiftLeft_eq, Nat.pow_one] at this
  rw [Nat.mul_comm 2 (a ^^^ b), this, Nat.mul_comm a 2, Nat.mul_comm b 2]
theorem xor4 (a b c d : Nat) : (a ^^^ b) ^^^ (c ^^^ d) = (a ^^^ c) ^^^ (b ^^^ d) := by
  rw [Nat.xor_assoc, Nat.xor_assoc]
  congr 1
  rw [← Nat.xor_assoc, Nat.xor_comm b c, Nat.xor_assoc]
theorem gdbl_bit (w low a : Nat) (hl : low < 2 ^ (w + 1)) (ha : a < 2 ^ (w + 1)) : gdbl (2 ^ (w + 1)) low a = (2 * a) ^^^ (if a.testBit w then 2 ^ (w + 1) + low else 0) := by
  have hp : 2 ^ (w + 1) = 2 * 2 ^ w := by rw [Nat.pow_succ]; omega
  have hpp : 0 < 2 ^ w := Nat.two_pow_pos w
  have ht : a.testBit w = decide (2 ^ w ≤ a) := by
    rw [Nat.testBit_eq_decide_div_mod_eq]
    have h2 : a / 2 ^ w < 2 := Nat.div_lt_of_lt_mul (by omega)
    by_cases hc : 2 ^ w ≤ a
    · have : 1 ≤ a / 2 ^ w := (Nat.le_div_iff_mul_le hpp).2 (by omega)
      have e : a / 2 ^ w = 1 := by omega
      simp [e, hc]
    · have e : a / 2 ^ w = 0 := Nat.div_eq_of_lt (by omega)
      simp [e, hc]
  unfold gdbl
  by_cases hc : 2 ^ w ≤ a
  · rw [if_pos (by omega), ht, if_pos (by simpa using hc), xor_top (w + 1) (2 * a) low (by omega) (by omega) hl]
  · rw [if_neg (by omega), ht, if_neg (by simpa using hc), Nat.xor_zero]
theorem gdbl_xor (w low a b : Nat) (hl : low < 2 ^ (w + 1)) (ha : a < 2 ^ (w + 1)) (hb : b < 2 ^ (w + 1)) : gdbl (2 ^ (w + 1)) low (a ^^^ b) = gdbl (2 ^ (w + 1)) low a ^^^ gdbl (2 ^ (w + 1)) low b := by
  rw [gdbl_bit w low a hl ha, gdbl_bit w low b hl hb, gdbl_bit w low _ hl (Nat.xor_lt_two_pow ha hb), xor_dbl, Nat.testBit_xor, xor4]
  congr 1
  cases a.testBit w <;> cases b.testBit w <;> simp
theorem gdbl_zero (top low : Nat) (h : 0 < top) : gdbl top low 0 = 0 := by unfold gdbl; rw [if_neg (by omega)]
theorem gmulL_acc (top low : Nat) : ∀ n a b p, gmulL top low n a b p = p ^^^ gmulL top low n a b 0 := by
  intro n
  induction n with
  | zero => intro a b p; simp [gmulL]
  | succ n ih =>
    intro a b p
    rw [gmulL, gmulL, ih _ _ (if b % 2 = 1 then p ^^^ a else p), ih _ _ (if b % 2 = 1 then 0 ^^^ a else 0), ← Nat.xor_assoc]
    congr 1
    split <;> simp
theorem gmulL_succ (top low n a b : Nat) : gmulL top low (n + 1) a b 0 = (if b % 2 = 1 then a else 0) ^^^ gmulL top low n (gdbl top low a) (b / 2) 0 := by
  rw [gmulL, gmulL_acc]
  congr 1
  split <;> simp
section
variable (w low : Nat) (hl : low < 2 ^ (w + 1))
include hl
theorem gm_lt (n a b : Nat) (ha : a < 2 ^ (w + 1)) : gmulL (2 ^ (w + 1)) low n a b 0 < 2 ^ (w + 1) := gmulL_lt (w + 1) low hl n a b 0 ha (Nat.two_pow_pos _)
theorem gm_xor_left : ∀ n a a' b, a < 2 ^ (w + 1) → a' < 2 ^ (w + 1) → gmulL (2 ^ (w + 1)) low n (a ^^^ a') b 0 = gmulL (2 ^ (w + 1)) low n a b 0 ^^^ gmulL (2 ^ (w + 1)) low n a' b 0 := by
  intro n
  induction n with
  | zero => intro a a' b _ _; simp [gmulL]
  | succ n ih =>
    intro a a' b ha ha'
    rw [gmulL_succ, gmulL_succ, gmulL_succ, gdbl_xor w low a a' hl ha ha', ih _ _ _ (gdbl_lt (w + 1) low a ha hl) (gdbl_lt (w + 1) low a' ha' hl), xor4]
    congr 1
    split <;> simp
omit hl in
theorem gm_xor_right : ∀ n a b b', gmulL (2 ^ (w + 1)) low n a (b ^^^ b') 0 = gmulL (2 ^ (w + 1)) low n a b 0 ^^^ gmulL (2 ^ (w + 1)) low n a b' 0 := by
  intro n
  induction n with
  | zero => intro a b b'; simp [gmulL]
  | succ n ih =>
    intro a b b'
    rw [gmulL_succ, gmulL_succ, gmulL_succ, xor_even, ih, xor_odd, xor4]
    congr 1
    rcases Nat.mod_two_eq_zero_or_one b with h | h <;> rcases Nat.mod_two_eq_zero_or_one b' with h' | h' <;> simp [h, h']
/-- A factor doubled doubles the product. -/
theorem gm_dbl_left : ∀ n a b, a < 2 ^ (w + 1) → gmulL (2 ^ (w + 1)) low n (gdbl (2 ^ (w + 1)) low a) b 0 = gdbl (2 ^ (w + 1)) low (gmulL (2 ^ (w + 1)) low n a b 0) := by
  intro n
  induction n with
  | zero =>
    intro a b _
    rw [show gmulL (2 ^ (w + 1)) low 0 a b 0 = 0 from rfl, gdbl_zero _ _ (Nat.two_pow_pos _)]; rfl
  | succ n ih =>
    intro a b ha
    have hg := gdbl_lt (w + 1) low a ha hl
    have hsel : (if b % 2 = 1 then a else 0) < 2 ^ (w + 1) := by
      split
      · exact ha
      · exact Nat.two_pow_pos _
    rw [gmulL_succ, gmulL_succ, ih _ _ hg, gdbl_xor w low _ _ hl hsel (gm_lt w low hl n _ _ hg)]
    congr 1
    split
    · rfl
    · rw [gdbl_zero _ _ (Nat.two_pow_pos _)]
end
/-- Two linear maps that agree at each power of two below 2^n agree below 2^n. -/
theorem linear_ext (f g : Nat → Nat) : ∀ n, (∀ a b, a < 2 ^ n → b < 2 ^ n → f (a ^^^ b) = f a ^^^ f b) → (∀ a b, a < 2 ^ n → b < 2 ^ n → g (a ^^^ b) = g a ^^^ g b) → (∀ i, i < n → f (2 ^ i) = g (2 ^ i)) → ∀ a, a < 2 ^ n → f a = g a := by
  intro n
  induction n with
  | zero =>
    intro hf hg _ a ha
    have : a = 0 := by omega
    subst this
    have h1 := hf 0 0 (by omega) (by omega)
    have h2 := hg 0 0 (by omega) (by omega)
    simp at h1 h2
    rw [h1, h2]
  | succ n ih =>
    intro hf hg hi a ha
    have hp : 2 ^ (n + 1) = 2 * 2 ^ n := by rw [Nat.pow_succ]; omega
    have hpp : 0 < 2 ^ n := Nat.two_pow_pos n
    have low := ih (fun a b ha hb => hf a b (by omega) (by omega)) (fun a b ha hb => hg a b (by omega) (by omega)) (fun i h => hi i (by omega))
    by_cases h : a < 2 ^ n
    · exact low a h
    · have e : a = 2 ^ n ^^^ (a - 2 ^ n) := by
        have := xor_top n a 0 (by omega) (by omega) (by omega)
        rw [Nat.add_zero, Nat.xor_zero] at this
        rw [← this, Nat.xor_comm a, ← Nat.xor_assoc, Nat.xor_self, Nat.zero_xor]
      rw [e, hf _ _ (by omega) (by omega), hg _ _ (by omega) (by omega), hi n (by omega), low _ (by omega)]
/-- What commutes at the powers of two commutes. -/
theorem gm_comm (w low : Nat) (hl : low < 2 ^ (w + 1)) (n : Nat) (hb : ∀ i, i < w + 1 → ∀ j, j < w + 1 → gmulL (2 ^ (w + 1)) low n (2 ^ i) (2 ^ j) 0 = gmulL (2 ^ (w + 1)) low n (2 ^ j) (2 ^ i) 0) :
    ∀ a b, a < 2 ^ (w + 1) → b < 2 ^ (w + 1) → gmulL (2 ^ (w + 1)) low n a b 0 = gmulL (2 ^ (w + 1)) low n b a 0 := by
  intro a b ha hbb
  refine linear_ext (fun a => gmulL (2 ^ (w + 1)) low n a b 0) (fun a => gmulL (2 ^ (w + 1)) low n b a 0) (w + 1) (fun x y hx hy => gm_xor_left w low hl n x y b hx hy) (fun x y _ _ => gm_xor_right w low n b x y) (fun i hi => ?_) a ha
  refine linear_ext (fun b => gmulL (2 ^ (w + 1)) low n (2 ^ i) b 0) (fun b => gmulL (2 ^ (w + 1)) low n b (2 ^ i) 0) (w + 1) (fun x y _ _ => gm_xor_right w low n (2 ^ i) x y) (fun x y hx hy => gm_xor_left w low hl n x y (2 ^ i) hx hy) (fun j hj => hb i hi j hj) b hbb
/-- Associativity, out of commutativity: induction on the rounds of the outer product. -/
theorem gm_assoc (w low : Nat) (hl : low < 2 ^ (w + 1)) (n : Nat) (hc : ∀ a b, a < 2 ^ (w + 1) → b < 2 ^ (w + 1) → gmulL (2 ^ (w + 1)) low n a b 0 = gmulL (2 ^ (w + 1)) low n b a 0) :
    ∀ m a b c, a < 2 ^ (w + 1) → b < 2 ^ (w + 1) → gmulL (2 ^ (w + 1)) low m (gmulL (2 ^ (w + 1)) low n a b 0) c 0 = gmulL (2 ^ (w + 1)) low n a (gmulL (2 ^ (w + 1)) low m b c 0) 0 := by
  intro m
  induction m with
  | zero =>
    intro a b c ha hb
    rw [show gmulL (2 ^ (w + 1)) low 0 (gmulL (2 ^ (w + 1)) low n a b 0) c 0 = 0 from rfl, show gmulL (2 ^ (w + 1)) low 0 b c 0 = 0 from rfl, gmulL_zero]
  | succ m ih =>
    intro a b c ha hb
    have hg := gdbl_lt (w + 1) low b hb hl
    have h1 : gdbl (2 ^ (w + 1)) low (gmulL (2 ^ (w + 1)) low n a b 0) = gmulL (2 ^ (w + 1)) low n a (gdbl (2 ^ (w + 1)) low b) 0 := by
      rw [hc a b ha hb, ← gm_dbl_left w low hl n b a hb, hc _ _ hg ha]
    rw [gmulL_succ, gmulL_succ, h1, ih _ _ _ ha hg, gm_xor_right]
    congr 1
    split
    · rfl
    · rw [gmulL_zero]

theorem mul8_comm (a b : Nat) (ha : a < 256) (hb : b < 256) : mul8 a b = mul8 b a :=
  gm_comm 7 29 (by decide) 8 (by decide +kernel) a b ha hb
theorem mul8_assoc (a b c : Nat) (ha : a < 256) (hb : b < 256) : mul8 (mul8 a b) c = mul8 a (mul8 b c) :=
  gm_assoc 7 29 (by decide) 8 (gm_comm 7 29 (by decide) 8 (by decide +kernel)) 8 a b c ha hb
theorem mul8_xor (a b c : Nat) : mul8 a (b ^^^ c) = mul8 a b ^^^ mul8 a c := gm_xor_right 7 29 8 a b c
theorem mul8_xor_left (a b c : Nat) (ha : a < 256) (hb : b < 256) : mul8 (a ^^^ b) c = mul8 a c ^^^ mul8 b c := gm_xor_left 7 29 (by decide) 8 a b c ha hb
theorem mul8_one (a : Nat) (ha : a < 256) : mul8 a 1 = a := by
  have key : ∀ x : Fin 256, mul8 x.val 1 = x.val := by decide +kernel
  exact key ⟨a, ha⟩

/-! In the field of 256 what is not 0 has one inverse. -/
def inv8L : Nat → Nat → Nat → Nat
  | 0, _, out => out
  | n + 1, s, out => inv8L n (mul8 s s) (mul8 out s)
def inv8 (a : Nat) : Nat := inv8L 7 (mul8 a a) 1
theorem inv8L_lt : ∀ n s out, s < 256 → out < 256 → inv8L n s out < 256 := by
  intro n
  induction n with
  | zero => intro s out _ h; exact h
  | succ n ih => intro s out hs ho; exact ih _ _ (mul8_lt s s hs) (mul8_lt out s ho)
theorem inv8_lt (a : Nat) (h : a < 256) : inv8 a < 256 := inv8L_lt 7 _ _ (mul8_lt a a h) (by decide)
theorem mul8_zero (a : Nat) : mul8 a 0 = 0 := gmulL_zero _ _ _ _ _
theorem zero_mul8 (a : Nat) (h : a < 256) : mul8 0 a = 0 := by rw [mul8_comm 0 a (by decide) h, mul8_zero]
theorem one_mul8 (a : Nat) (h : a < 256) : mul8 1 a = a := by rw [mul8_comm 1 a (by decide) h, mul8_one a h]
theorem mul_inv8 (a : Nat) (h : a < 256) (h0 : a ≠ 0) : mul8 a (inv8 a) = 1 := by
  have key : ∀ x : Fin 256, x.val ≠ 0 → mul8 x.val (inv8 x.val) = 1 := by decide +kernel
  exact key ⟨a, h⟩ h0
theorem inv8_zero : inv8 0 = 0 := by decide +kernel
theorem inv8_one_only (a x : Nat) (h : a < 256) (hx : x < 256) (h1 : mul8 a x = 1) : x = inv8 a := by
  by_cases h0 : a = 0
  · subst h0; rw [zero_mul8 x hx] at h1; exact absurd h1 (by decide)
  · have e := mul_inv8 a h h0
    have hi := inv8_lt a h
    calc x = mul8 x 1 := (mul8_one x hx).symm
      _ = mul8 x (mul8 a (inv8 a)) := by rw [e]
      _ = mul8 (mul8 x a) (inv8 a) := (mul8_assoc x a _ hx h).symm
      _ = mul8 (mul8 a x) (inv8 a) := by rw [mul8_comm x a hx h]
      _ = inv8 a := by rw [h1, one_mul8 _ hi]

theorem spec_in (a top : Int) : spec_l02In.f a top = some (decide (0 ≤ a ∧ a < top)) := by
  unfold spec_l02In.f
  by_cases h : a ≥ 0
  · rw [if_pos h]; simp [show 0 ≤ a from h]
  · rw [if_neg h]; simp [show ¬ 0 ≤ a from h]

theorem spec_times_l0 (w low poly : Nat) (hw : w ≤ 16) (hp : poly = 2 ^ w + low) (hl : low < 2 ^ w) : ∀ (n a b p : Nat), b < 2 ^ n → b < 65536 → a < 2 ^ w → p < 2 ^ w →
    Ev (fun k => spec_l02Times.l0 k (a : Int) (b : Int) (poly : Int) ((2 ^ w : Nat) : Int) (p : Int)) ((gmulL (2 ^ w) low n a b p : Nat) : Int) := by
  have h16 : 2 ^ w ≤ 65536 := Nat.pow_le_pow_right (n := 2) (by decide) hw
  intro n
  induction n with
  | zero =>
    intro a b p hb hb1 ha hpp
    have : b = 0 := by omega
    subst this
    refine Ev.step (fun k => by rw [spec_l02Times.l0, if_neg (by omega)]) (Ev.give ?_)
    rfl
  | succ n ih =>
    intro a b p hb hb1 ha hpp
    by_cases h0 : b = 0
    · subst h0
      rw [gmulL_zero]
      refine Ev.step (fun k => by rw [spec_l02Times.l0, if_neg (by omega)]) (Ev.give ?_)
      rfl
    · have hd : wrap64 (Int.tdiv (b : Int) 2) = ((b / 2 : Nat) : Int) := by
        rw [Int.tdiv_eq_ediv_of_nonneg (by omega), wrap64_id (by omega) (by omega)]; rfl
      have hm : Int.tmod (b : Int) 2 = ((b % 2 : Nat) : Int) := by rw [Int.tmod_eq_emod_of_nonneg (by omega)]; rfl
      have ha2 : wrap64 ((a : Int) * 2) = ((2 * a : Nat) : Int) := by rw [wrap64_id (by omega) (by omega)]; omega
      have hx : Go.bits .xor .i64 ((2 * a : Nat) : Int) (poly : Int) = (((2 * a) ^^^ poly : Nat) : Int) := bits_xor_i64 _ _ (by omega) (by omega)
      have hpx : Go.bits .xor .i64 (p : Int) (a : Int) = ((p ^^^ a : Nat) : Int) := bits_xor_i64 _ _ (by omega) (by omega)
      have hb2 : b / 2 < 2 ^ n := by rw [Nat.pow_succ] at hb; exact Nat.div_lt_of_lt_mul (by omega)
      have hxa : p ^^^ a < 2 ^ w := Nat.xor_lt_two_pow hpp ha
      have hg := gdbl_lt w low a ha hl
      rw [gmulL]
      by_cases hodd : b % 2 = 1
      · rw [if_pos hodd]
        by_cases ht : 2 ^ w ≤ 2 * a
        · have hga : (2 * a) ^^^ poly = gdbl (2 ^ w) low a := by unfold gdbl; rw [if_pos ht, hp, xor_top w _ _ ht (by omega) hl]
          refine Ev.step (fun k => by rw [spec_l02Times.l0, if_pos (by omega), hm, if_pos (by omega), ha2, if_pos (by omega), hd, hx, hpx, hga]) ?_
          exact ih _ _ _ hb2 (by omega) hg hxa
        · have hga : 2 * a = gdbl (2 ^ w) low a := by unfold gdbl; rw [if_neg ht]
          refine Ev.step (fun k => by rw [spec_l02Times.l0, if_pos (by omega), hm, if_pos (by omega), ha2, if_neg (by omega), hd, hpx, hga]) ?_
          exact ih _ _ _ hb2 (by omega) hg hxa
      · rw [if_neg hodd]
        by_cases ht : 2 ^ w ≤ 2 * a
        · have hga : (2 * a) ^^^ poly = gdbl (2 ^ w) low a := by unfold gdbl; rw [if_pos ht, hp, xor_top w _ _ ht (by omega) hl]
          refine Ev.step (fun k => by rw [spec_l02Times.l0, if_pos (by omega), hm, if_neg (by omega), ha2, if_pos (by omega), hd, hx, hga]) ?_
          exact ih _ _ _ hb2 (by omega) hg hpp
        · have hga : 2 * a = gdbl (2 ^ w) low a := by unfold gdbl; rw [if_neg ht]
          refine Ev.step (fun k => by rw [spec_l02Times.l0, if_pos (by omega), hm, if_neg (by omega), ha2, if_neg (by omega), hd, hga]) ?_
          exact ih _ _ _ hb2 (by omega) hg hpp

/-- What Mul8 answers. -/
def Mul8of (a b : Int) : Int := if (0 ≤ a ∧ a < 256) ∧ (0 ≤ b ∧ b < 256) then ((mul8 a.toNat b.toNat : Nat) : Int) else -1
theorem spec_mul8 (a b : Int) : Ev (fun k => spec_Mul8.f k a b) (Mul8of a b) := by
  unfold Mul8of
  by_cases ha : 0 ≤ a ∧ a < 256
  · by_cases hb : 0 ≤ b ∧ b < 256
    · rw [if_pos ⟨ha, hb⟩]
      refine Ev.congr (fun k => by rw [spec_Mul8.f, spec_in, Option.bind_some, if_pos (by simp [ha.1, ha.2]), spec_in, Option.bind_some, if_pos (by simp [hb.1, hb.2])]) ?_
      obtain ⟨m, rfl⟩ := Int.eq_ofNat_of_zero_le ha.1
      obtain ⟨n, rfl⟩ := Int.eq_ofNat_of_zero_le hb.1
      exact Ev.bind (spec_times_l0 8 29 285 (by decide) (by decide) (by decide) 8 m n 0 (by simp only [Nat.reducePow]; omega) (by omega) (by simp only [Nat.reducePow]; omega) (by decide)) (Ev.give rfl)
    · rw [if_neg (fun h => hb h.2)]
      refine Ev.congr (fun k => by rw [spec_Mul8.f, spec_in, Option.bind_some, if_pos (by simp [ha.1, ha.2]), spec_in, Option.bind_some, if_neg (by simpa using fun h => by omega)]) (Ev.give rfl)
  · rw [if_neg (fun h => ha h.1)]
    refine Ev.congr (fun k => by rw [spec_Mul8.f, spec_in, Option.bind_some, if_neg (by simpa using fun h => by omega)]) (Ev.give rfl)

theorem Mul8of_nat (a b : Nat) (ha : a < 256) (hb : b < 256) : Mul8of (a : Int) (b : Int) = ((mul8 a b : Nat) : Int) := by
  unfold Mul8of
  rw [if_pos ⟨⟨by omega, by omega⟩, by omega, by omega⟩]
  rfl

/-- What Inv8 answers. -/
def Inv8of (a : Int) : Int := if 0 ≤ a ∧ a < 256 then ((inv8 a.toNat : Nat) : Int) else -1

theorem spec_inv8_l0 (a : Nat) (ha : a < 256) : ∀ (d x : Nat), 256 - x = d → 1 ≤ x → x ≤ 256 → (∀ y, y < x → 1 ≤ y → mul8 a y ≠ 1) → Ev (fun k => spec_Inv8.l0 k (a : Int) (x : Int)) ((inv8 a : Nat) : Int) := by
  intro d
  induction d with
  | zero =>
    intro x hd h1 hx hno
    have h0 : a = 0 := by
      by_cases h0 : a = 0
      · exact h0
      · have hi := inv8_lt a ha
        have he := mul_inv8 a ha h0
        have hi0 : inv8 a ≠ 0 := fun h => by rw [h, mul8_zero] at he; exact absurd he (by decide)
        exact absurd he (hno (inv8 a) (by omega) (by omega))
    subst h0
    rw [inv8_zero]
    refine Ev.step (fun k => by rw [spec_Inv8.l0, if_neg (by omega)]) (Ev.give ?_)
    rfl
  | succ d ih =>
    intro x hd h1 hx hno
    have hm := spec_mul8 (a : Int) (x : Int)
    rw [Mul8of_nat a x ha (by omega)] at hm
    refine Ev.step (fun k => by rw [spec_Inv8.l0, if_pos (by omega)]) ?_
    refine Ev.bind hm ?_
    by_cases he : mul8 a x = 1
    · refine Ev.pos (by omega) (Ev.give ?_)
      rw [inv8_one_only a x ha (by omega) he]
    · refine Ev.neg (by omega) ?_
      have := ih (x + 1) (by omega) (by omega) (by omega) (fun y hy hy1 => by
        by_cases e : y = x
        · subst e; exact he
        · exact hno y (by omega) hy1)
      rw [wrap64_id (by omega) (by omega)]
      exact this
theorem spec_inv8 (a : Int) : Ev (fun k => spec_Inv8.f k a) (Inv8of a) := by
  unfold Inv8of
  by_cases ha : 0 ≤ a ∧ a < 256
  · rw [if_pos ha]
    refine Ev.congr (fun k => by rw [spec_Inv8.f, spec_in, Option.bind_some, if_pos (by simp [ha.1, ha.2])]) ?_
    obtain ⟨m, rfl⟩ := Int.eq_ofNat_of_zero_le ha.1
    exact spec_inv8_l0 m (by omega) 255 1 (by omega) (by omega) (by omega) (fun y hy hy1 => by omega)
  · rw [if_neg ha]
    refine Ev.congr (fun k => by rw [spec_Inv8.f, spec_in, Option.bind_some, if_neg (by simpa using fun h => by omega)]) (Ev.now _)

/-! Lists of numbers: copied, held against one another, counted. -/
theorem set_prefix_id {α : Type} (z : α) (l : List α) (i : Nat) (h : i < l.length) (x : α) (hx : l[i]? = some x) :
    (l.take i ++ List.replicate (l.length - i) z).set i x = l.take (i + 1) ++ List.replicate (l.length - (i + 1)) z := by
  have h1 : (l.take i).length = i := by simp; omega
  rw [List.set_append_right _ _ (by omega), h1, Nat.sub_self]
  have h2 : List.replicate (l.length - i) z = z :: List.replicate (l.length - (i + 1)) z := by
    rw [show l.length - i = (l.length - (i + 1)) + 1 by omega]; rfl
  rw [h2, List.set_cons_zero, List.take_add_one, hx]
  simp
theorem rd_at (l : List Int) (i : Nat) (h : i < l.length) : rd l (i : Int) = l[i] := by
  unfold rd; rw [Int.toNat_natCast, List.getD_eq_getElem?_getD, List.getElem?_eq_getElem h]; rfl

/-! Cauchy's matrix. -/
theorem tabInv_eq (a : Nat) (h : a < 256) : tabInv a = inv8 a := by
  have key : ∀ x : Fin 256, tabInv x.val = inv8 x.val := by decide +kernel
  exact key ⟨a, h⟩
def cauCell (cols i j : Nat) : Int := ((inv8 ((cols + i) ^^^ j) : Nat) : Int)
def cauFull (rows cols : Nat) : List Int := (List.range (rows * cols)).map fun n => cauCell cols (n / cols) (n % cols)
theorem cauFull_length (rows cols : Nat) : (cauFull rows cols).length = rows * cols := by simp [cauFull]
theorem cau_at (rows cols i j : Nat) (hi : i < rows) (hj : j < cols) : i * cols + j < rows * cols ∧ (cauFull rows cols)[i * cols + j]? = some (cauCell cols i j) := by
  have h1 : (i + 1) * cols ≤ rows * cols := Nat.mul_le_mul_right _ hi
  rw [Nat.succ_mul] at h1
  have h2 : i * cols + j < rows * cols := by omega
  refine ⟨h2, ?_⟩
  unfold cauFull
  rw [List.getElem?_map, List.getElem?_range h2]
  have e1 : (i * cols + j) / cols = i := by rw [Nat.mul_comm, Nat.mul_add_div (by omega), Nat.div_eq_of_lt hj, Nat.add_zero]
  have e2 : (i * cols + j) % cols = j := by rw [Nat.mul_comm, Nat.mul_add_mod, Nat.mod_eq_of_lt hj]
  show some (cauCell cols ((i * cols + j) / cols) ((i * cols + j) % cols)) = _
  rw [e1, e2]
theorem cau_arg (cols i j : Nat) (hc : cols ≤ 64) (hi : i < 64) (hj : j < cols) : (cols + i) ^^^ j < 128 ∧ Go.bits .xor .i64 (wrap64 ((cols : Int) + (i : Int))) (j : Int) = (((cols + i) ^^^ j : Nat) : Int) := by
  refine ⟨Nat.xor_lt_two_pow (n := 7) (by omega) (by omega), ?_⟩
  rw [wrap64_id (by omega) (by omega), show (cols : Int) + (i : Int) = ((cols + i : Nat) : Int) by omega, bits_xor_i64 _ _ (by omega) (by omega)]
theorem cau_inv (m : Nat) (h : m < 128) : Ev (fun k => spec_Inv8.f k (m : Int)) ((inv8 m : Nat) : Int) := by
  have hinv := spec_inv8 (m : Int)
  unfold Inv8of at hinv
  rwa [if_pos ⟨by omega, by omega⟩, Int.toNat_natCast] at hinv
theorem cau_tab (m : Nat) (h : m < 128) : impl_tables8_inv.f 0 ((m : Int) % 256) = some ((inv8 m : Nat) : Int) := by
  unfold impl_tables8_inv.f
  rw [show (m : Int) % 256 = (m : Int) by omega, Int.toNat_natCast, tabInv_eq _ (by omega)]
theorem cau_wrap (m : Nat) (h : m < 256) : wrap64 ((m : Nat) : Int) = ((m : Nat) : Int) := wrap64_id (by omega) (by omega)
theorem spec_cau_l1 (rows cols i : Nat) (hr : rows ≤ 64) (hc : cols ≤ 64) (hi : i < rows) (r : Int × Int × Int × List Int)
    (hn : Ev (fun k => spec_Cauchy.l0 k (rows : Int) (cols : Int) ((i + 1 : Nat) : Int) (rows : Int) (cols : Int) ((cauFull rows cols).take ((i + 1) * cols) ++ List.replicate (rows * cols - (i + 1) * cols) 0)) r) :
    ∀ (d j : Nat), cols - j = d → j ≤ cols → Ev (fun k => spec_Cauchy.l1 k (rows : Int) (cols : Int) (i : Int) (j : Int) (rows : Int) (cols : Int) ((cauFull rows cols).take (i * cols + j) ++ List.replicate (rows * cols - (i * cols + j)) 0)) r := by
  have hm : rows * cols ≤ 64 * 64 := Nat.mul_le_mul hr hc
  have hm2 : (i + 1) * cols ≤ rows * cols := Nat.mul_le_mul_right _ hi
  rw [Nat.succ_mul] at hm2
  intro d
  induction d with
  | zero =>
    intro j hd hj
    have e : j = cols := by omega
    subst e
    rw [Nat.succ_mul] at hn
    exact Ev.step (fun k => by rw [spec_Cauchy.l1, if_neg (by omega), wrap64_id (x := (i : Int) + 1) (by omega) (by omega), show (i : Int) + 1 = ((i + 1 : Nat) : Int) by omega]) hn
  | succ d ih =>
    intro j hd hj
    have hjc : j < cols := by omega
    obtain ⟨h1, h2⟩ := cau_at rows cols i j hi hjc
    have c1 : (j : Int) < (cols : Int) := by omega
    have c2 : (0 : Int) ≤ ((i * cols + j : Nat) : Int) := by omega
    have c3 : ((i * cols + j : Nat) : Int) < (((cauFull rows cols).take (i * cols + j) ++ List.replicate (rows * cols - (i * cols + j)) 0).length : Int) := by
      rw [List.length_append, List.length_take, cauFull_length, List.length_replicate]; omega
    have c4 : wrap64 ((j : Int) + 1) = ((j + 1 : Nat) : Int) := by rw [wrap64_id (by omega) (by omega)]; omega
    have hs := set_prefix_id (0 : Int) (cauFull rows cols) (i * cols + j) (by rw [cauFull_length]; exact h1) (cauCell cols i j) h2
    rw [cauFull_length] at hs
    have h3 := ih (j + 1) (by omega) (by omega)
    have hw : wrap64 ((wrap64 ((i : Int) * (cols : Int))) + (j : Int)) = ((i * cols + j : Nat) : Int) := by
      rw [← Int.natCast_mul, wrap64_id (x := ((i * cols : Nat) : Int)) (by omega) (by omega), wrap64_id (by omega) (by omega)]; omega
    obtain ⟨x1, x2⟩ := cau_arg cols i j hc (by omega) hjc
    have hinv := cau_inv ((cols + i) ^^^ j) x1
    refine Ev.step (fun k => by rw [spec_Cauchy.l1, if_pos c1, x2, hw]) ?_
    refine Ev.bind hinv (Ev.pos c2 (Ev.pos c3 ?_))
    rw [Int.toNat_natCast, c4]
    unfold cauCell at hs
    rw [hs]
    exact h3
theorem spec_cau_l0 (rows cols : Nat) (hr : rows ≤ 64) (hc : cols ≤ 64) : ∀ (d i : Nat), rows - i = d → i ≤ rows →
    Ev (fun k => spec_Cauchy.l0 k (rows : Int) (cols : Int) (i : Int) (rows : Int) (cols : Int) ((cauFull rows cols).take (i * cols) ++ List.replicate (rows * cols - i * cols) 0)) (0, (rows : Int), (cols : Int), cauFull rows cols) := by
  intro d
  induction d with
  | zero =>
    intro i hd hi
    have e : i = rows := by omega
    subst e
    refine Ev.step (fun k => by rw [spec_Cauchy.l0, if_neg (by omega)]) (Ev.give ?_)
    rw [Nat.sub_self, List.replicate_zero, List.append_nil, List.take_of_length_le (by rw [cauFull_length]; exact Nat.le_refl _)]
  | succ d ih =>
    intro i hd hi
    refine Ev.step (fun k => by rw [spec_Cauchy.l0, if_pos (by omega)]) ?_
    exact spec_cau_l1 rows cols i hr hc (by omega) _ (ih (i + 1) (by omega) (by omega)) cols 0 (by omega) (by omega)
theorem impl_cau_l1 (rows cols i : Nat) (hr : rows ≤ 64) (hc : cols ≤ 64) (hi : i < rows) (r : Int × Int × Int × List Int)
    (hn : Ev (fun k => impl_Cauchy.l0 k (cols : Int) 0 (rows : Int) ((i + 1 : Nat) : Int) (rows : Int) (cols : Int) ((cauFull rows cols).take ((i + 1) * cols))) r) :
    ∀ (d j : Nat), cols - j = d → j ≤ cols → Ev (fun k => impl_Cauchy.l1 k (cols : Int) 0 (i : Int) (rows : Int) (i : Int) (cols : Int) (j : Int) (rows : Int) (cols : Int) ((cauFull rows cols).take (i * cols + j))) r := by
  have hm : rows * cols ≤ 64 * 64 := Nat.mul_le_mul hr hc
  have hm2 : (i + 1) * cols ≤ rows * cols := Nat.mul_le_mul_right _ hi
  rw [Nat.succ_mul] at hm2
  intro d
  induction d with
  | zero =>
    intro j hd hj
    have e : j = cols := by omega
    subst e
    rw [Nat.succ_mul] at hn
    exact Ev.step (fun k => by rw [impl_Cauchy.l1, if_neg (by omega), wrap64_id (x := (i : Int) + 1) (by omega) (by omega), show (i : Int) + 1 = ((i + 1 : Nat) : Int) by omega]) hn
  | succ d ih =>
    intro j hd hj
    have hjc : j < cols := by omega
    obtain ⟨h1, h2⟩ := cau_at rows cols i j hi hjc
    have c1 : (j : Int) < (cols : Int) := by omega
    have c3 : ((cauFull rows cols).take (i * cols + j)).length < 17592186044416 := by rw [List.length_take, cauFull_length]; omega
    have c4 : wrap64 ((j : Int) + 1) = ((j + 1 : Nat) : Int) := by rw [wrap64_id (by omega) (by omega)]; omega
    have h3 := ih (j + 1) (by omega) (by omega)
    have e1 : i * cols + (j + 1) = i * cols + j + 1 := by omega
    obtain ⟨x1, x2⟩ := cau_arg cols i j hc (by omega) hjc
    have hin := inv8_lt ((cols + i) ^^^ j) (Nat.lt_trans x1 (by decide))
    have hwc : wrap64 (cauCell cols i j) = cauCell cols i j := cau_wrap _ hin
    have ht := cau_tab ((cols + i) ^^^ j) x1
    refine Ev.step (fun k => by rw [impl_Cauchy.l1, if_pos c1, x2]) ?_
    refine Ev.bindS ht (Ev.pos c3 ?_)
    have hap : (cauFull rows cols).take (i * cols + j) ++ [wrap64 (cauCell cols i j)] = (cauFull rows cols).take (i * cols + (j + 1)) := by
      rw [e1, List.take_add_one, h2, hwc]
      rfl
    unfold cauCell at hap
    rw [hap, c4]
    exact h3
theorem impl_cau_l0 (rows cols : Nat) (hr : rows ≤ 64) (hc : cols ≤ 64) : ∀ (d i : Nat), rows - i = d → i ≤ rows →
    Ev (fun k => impl_Cauchy.l0 k (cols : Int) 0 (rows : Int) (i : Int) (rows : Int) (cols : Int) ((cauFull rows cols).take (i * cols))) (0, (rows : Int), (cols : Int), cauFull rows cols) := by
  intro d
  induction d with
  | zero =>
    intro i hd hi
    have e : i = rows := by omega
    subst e
    refine Ev.step (fun k => by rw [impl_Cauchy.l0, if_neg (by omega)]) (Ev.give ?_)
    rw [List.take_of_length_le (by rw [cauFull_length]; exact Nat.le_refl _)]
  | succ d ih =>
    intro i hd hi
    refine Ev.step (fun k => by rw [impl_Cauchy.l0, if_pos (by omega)]) ?_
    exact impl_cau_l1 rows cols i hr hc (by omega) _ (ih (i + 1) (by omega) (by omega)) cols 0 (by omega) (by omega)
/-- What Cauchy answers. -/
def cauchyOf (a b : Int) : Int × Int × Int × List Int := if 1 ≤ a ∧ a ≤ 64 ∧ 1 ≤ b ∧ b ≤ 64 then (0, a, b, cauFull a.toNat b.toNat) else (1, 0, 0, [])
theorem cauchyOf_len (a b : Int) : (cauchyOf a b).2.2.2.length ≤ 1048576 := by
  unfold cauchyOf
  split
  · show (cauFull a.toNat b.toNat).length ≤ _
    have : a.toNat * b.toNat ≤ 64 * 64 := Nat.mul_le_mul (by omega) (by omega)
    rw [cauFull_length]; omega
  · exact Nat.zero_le _
theorem spec_cauchy (a b : Int) : Ev (fun k => spec_Cauchy.f k a b) (cauchyOf a b) := by
  unfold cauchyOf
  have out : ¬ (1 ≤ a ∧ a ≤ 64 ∧ 1 ≤ b ∧ b ≤ 64) → Ev (fun k => spec_Cauchy.j0 k a b true) (1, 0, 0, []) := fun _ => Ev.step (fun k => by rw [spec_Cauchy.j0, if_pos rfl]) (Ev.now _)
  refine Ev.congr (fun k => by rw [spec_Cauchy.f]) ?_
  by_cases h1 : a < 1
  · rw [if_neg (by omega)]; exact Ev.pos h1 (out (by omega))
  · refine Ev.neg h1 ?_
    by_cases h2 : a > 64
    · rw [if_neg (by omega)]; exact Ev.pos h2 (out (by omega))
    · refine Ev.neg h2 ?_
      by_cases h3 : b < 1
      · rw [if_neg (by omega)]; exact Ev.pos h3 (out (by omega))
      · refine Ev.neg h3 ?_
        by_cases h4 : b > 64
        · rw [if_neg (by omega), show decide (b > 64) = true from decide_eq_true h4]; exact out (by omega)
        · rw [if_pos ⟨by omega, by omega, by omega, by omega⟩, show decide (b > 64) = false from decide_eq_false h4]
          obtain ⟨m, rfl⟩ := Int.eq_ofNat_of_zero_le (show 0 ≤ a by omega)
          obtain ⟨n, rfl⟩ := Int.eq_ofNat_of_zero_le (show 0 ≤ b by omega)
          have hm : m * n ≤ 64 * 64 := Nat.mul_le_mul (by omega) (by omega)
          have hnew : spec_l03New.f (m : Int) (n : Int) = some ((m : Int), (n : Int), List.replicate (m * n) 0) := by
            unfold spec_l03New.f
            rw [← Int.natCast_mul, wrap64_id (by omega) (by omega), if_pos (by omega), if_pos (by rw [Int.toNat_natCast]; omega), Int.toNat_natCast]
          refine Ev.step (fun k => by rw [spec_Cauchy.j0, if_neg (by decide)]) (Ev.bindS hnew ?_)
          have := spec_cau_l0 m n (by omega) (by omega) m 0 (by omega) (by omega)
          rw [Nat.zero_mul, List.take_zero, List.nil_append, Nat.sub_zero] at this
          exact this
theorem impl_cauchy (a b : Int) : Ev (fun k => impl_Cauchy.f k a b) (cauchyOf a b) := by
  unfold cauchyOf
  have out : ¬ (1 ≤ a ∧ a ≤ 64 ∧ 1 ≤ b ∧ b ≤ 64) → Ev (fun k => impl_Cauchy.j0 k a b true) (1, 0, 0, []) := fun _ => Ev.step (fun k => by rw [impl_Cauchy.j0, if_pos rfl]) (Ev.now _)
  refine Ev.congr (fun k => by rw [impl_Cauchy.f]) ?_
  by_cases h1 : a < 1
  · rw [if_neg (by omega)]; exact Ev.pos h1 (out (by omega))
  · refine Ev.neg h1 ?_
    by_cases h2 : a > 64
    · rw [if_neg (by omega)]; exact Ev.pos h2 (out (by omega))
    · refine Ev.neg h2 ?_
      by_cases h3 : b < 1
      · rw [if_neg (by omega)]; exact Ev.pos h3 (out (by omega))
      · refine Ev.neg h3 ?_
        by_cases h4 : b > 64
        · rw [if_neg (by omega), show decide (b > 64) = true from decide_eq_true h4]; exact out (by omega)
        · rw [if_pos ⟨by omega, by omega, by omega, by omega⟩, show decide (b > 64) = false from decide_eq_false h4]
          obtain ⟨m, rfl⟩ := Int.eq_ofNat_of_zero_le (show 0 ≤ a by omega)
          obtain ⟨n, rfl⟩ := Int.eq_ofNat_of_zero_le (show 0 ≤ b by omega)
          refine Ev.step (fun k => by rw [impl_Cauchy.j0, if_neg (by decide)]) (Ev.bindS (show impl_makeTables8.f = some 0 from rfl) ?_)
          have := impl_cau_l0 m n (by omega) (by omega) m 0 (by omega) (by omega)
          rw [Nat.zero_mul, List.take_zero] at this
          exact this

/-! The table's product is the field's. -/
def p2 : Nat → Nat
  | 0 => 1
  | n + 1 => mul8 (p2 n) 2
theorem p2_lt : ∀ n, p2 n < 256
  | 0 => by decide
  | n + 1 => mul8_lt _ _ (p2_lt n)
theorem p2_add (m : Nat) : ∀ n, mul8 (p2 m) (p2 n) = p2 (m + n)
  | 0 => mul8_one _ (p2_lt m)
  | n + 1 => by
    show mul8 (p2 m) (mul8 (p2 n) 2) = mul8 (p2 (m + n)) 2
    rw [← mul8_assoc _ _ _ (p2_lt m) (p2_lt n), p2_add m n]
theorem p2_ex : ∀ j, j < 255 → p2 j = ex j
  | 0, _ => by decide +kernel
  | j + 1, h => by
    show mul8 (p2 j) 2 = ex (j + 1)
    rw [p2_ex j (by omega)]
    have key : ∀ x : Fin 254, mul8 (ex x.val) 2 = ex (x.val + 1) := by decide +kernel
    exact key ⟨j, by omega⟩
theorem p2_255 : p2 255 = 1 := by
  show mul8 (p2 254) 2 = 1
  rw [p2_ex 254 (by omega)]
  decide +kernel
theorem lg_ex : ∀ a : Fin 256, lg a.val < 255 ∧ (a.val ≠ 0 → ex (lg a.val) = a.val) := by decide +kernel
theorem tabMul_field (a b : Nat) (ha : a < 256) (hb : b < 256) : tabMul a b = mul8 a b := by
  unfold tabMul
  by_cases h0 : a = 0
  · rw [if_pos h0, h0, zero_mul8 b hb]
  · rw [if_neg h0]
    by_cases h1 : b = 0
    · rw [if_pos h1, h1, mul8_zero]
    · rw [if_neg h1]
      obtain ⟨l0, e0⟩ := lg_ex ⟨a, ha⟩
      obtain ⟨l1, e1⟩ := lg_ex ⟨b, hb⟩
      simp only at l0 l1 e0 e1
      have f0 := e0 h0
      have f1 := e1 h1
      rw [← p2_ex _ l0] at f0
      rw [← p2_ex _ l1] at f1
      have e : mul8 a b = p2 (lg a + lg b) := by rw [← p2_add, f0, f1]
      rw [e]
      unfold tE
      by_cases h : lg a + lg b < 255
      · rw [if_pos h, p2_ex _ h]
      · rw [if_neg h, if_pos ⟨by omega, by omega⟩, ← p2_ex _ (by omega : lg a + lg b - 255 < 255)]
        have h2 : lg a + lg b = 255 + (lg a + lg b - 255) := by omega
        conv => rhs; rw [h2, ← p2_add, p2_255]
        rw [one_mul8 _ (p2_lt _)]

theorem impl_isByte (a : Int) : impl_isByte.f a = some (decide (0 ≤ a ∧ a < 256)) := by
  unfold impl_isByte.f
  by_cases h : a ≥ 0
  · rw [if_pos h]; congr 1; rw [decide_eq_decide]; omega
  · rw [if_neg h]; congr 1; rw [eq_comm, decide_eq_false_iff_not]; omega

def cellBad (x : Int) : Bool := !decide (0 ≤ x ∧ x < 256)
/-- What MatrixFault answers. -/
def matFaultOf (r c : Int) (l : List Int) : Int := if r < 1 then 1 else if r > 64 then 1 else if c < 1 then 1 else if c > 64 then 1 else if ¬ (l.length : Int) = r * c then 1 else if l.any cellBad = true then 1 else 0
theorem any_dropI {α : Type} (p : α → Bool) (l : List α) (i : Nat) (h : i < l.length) : (l.drop i).any p = (p l[i] || (l.drop (i + 1)).any p) := by
  rw [List.drop_eq_getElem_cons h, List.any_cons]
theorem side_mul {r c : Int} (h1 : 1 ≤ r) (h2 : r ≤ 64) (h3 : 1 ≤ c) (h4 : c ≤ 64) : 1 ≤ r * c ∧ r * c ≤ 4096 := by
  have e1 : r * c ≤ 64 * c := Int.mul_le_mul_of_nonneg_right h2 (by omega)
  have e2 : 1 * c ≤ r * c := Int.mul_le_mul_of_nonneg_right h1 (by omega)
  omega

theorem impl_matFault_l0 (r c : Int) (l : List Int) (hl : l.length ≤ 1048576) : ∀ (d i : Nat), l.length - i = d → i ≤ l.length → Ev (fun k => impl_MatrixFault.l0 k l (l.length : Int) (i : Int)) (if (l.drop i).any cellBad = true then 1 else 0) := by
  intro d
  induction d with
  | zero =>
    intro i hd hi
    rw [List.drop_eq_nil_of_le (by omega)]
    refine Ev.step (fun k => by rw [impl_MatrixFault.l0, if_neg (by omega)]) (Ev.give ?_)
    rfl
  | succ d ih =>
    intro i hd hi
    have hlt : i < l.length := by omega
    have hr := rd_at l i hlt
    have hw : wrap64 ((i : Int) + 1) = ((i + 1 : Nat) : Int) := by rw [wrap64_id (by omega) (by omega)]; rfl
    have next := ih (i + 1) (by omega) (by omega)
    rw [any_dropI cellBad l i hlt]
    refine Ev.step (fun k => by rw [impl_MatrixFault.l0, if_pos (by omega), if_pos (by omega), if_pos (by omega), hr, impl_isByte, Option.bind_some]) ?_
    by_cases hb : 0 ≤ l[i] ∧ l[i] < 256
    · rw [show cellBad l[i] = false by simp [cellBad, hb], Bool.false_or]
      refine Ev.pos (by simpa using hb) ?_
      rw [hw]
      exact next
    · rw [show cellBad l[i] = true by simp only [cellBad, hb, decide_false, Bool.not_false], Bool.true_or]
      exact Ev.neg (by simpa using hb) (Ev.now _)
theorem impl_matFault (r c : Int) (l : List Int) (hl : l.length ≤ 1048576) : Ev (fun k => impl_MatrixFault.f k r c l) (matFaultOf r c l) := by
  unfold matFaultOf
  have bad : ∀ b : Bool, b = true → Ev (fun k => impl_MatrixFault.j0 k b r c l) 1 := by
    rintro b rfl
    exact Ev.step (fun k => by rw [impl_MatrixFault.j0, if_pos rfl]) (Ev.now _)
  refine Ev.congr (fun k => by rw [impl_MatrixFault.f]) ?_
  by_cases h0 : r < 1
  · rw [if_pos h0]; exact Ev.pos h0 (bad _ rfl)
  · rw [if_neg h0]; refine Ev.neg h0 ?_
    by_cases h1 : r > 64
    · rw [if_pos h1]; exact Ev.pos h1 (bad _ rfl)
    · rw [if_neg h1]; refine Ev.neg h1 ?_
      by_cases h2 : c < 1
      · rw [if_pos h2]; exact Ev.pos h2 (bad _ rfl)
      · rw [if_neg h2]; refine Ev.neg h2 ?_
        by_cases h3 : c > 64
        · rw [if_pos h3]; exact Ev.pos h3 (bad _ rfl)
        · rw [if_neg h3]; refine Ev.neg h3 ?_
          have hm := side_mul (by omega : 1 ≤ r) (by omega) (by omega : 1 ≤ c) (by omega)
          rw [wrap64_id (by omega) (by omega)]
          by_cases h4 : (l.length : Int) = r * c
          · rw [if_neg (by simpa using h4)]
            refine Ev.step (fun k => by rw [impl_MatrixFault.j0, if_neg (by simpa using h4)]) ?_
            have := impl_matFault_l0 r c l hl l.length 0 rfl (by omega)
            simpa using this
          · rw [if_pos h4]
            exact bad _ (by simpa using h4)

/-- A drawn byte. -/
def lwAtN (l : List Int) (i : Nat) : Nat := if i < l.length then (rd l (i : Int)).toNat else (i * 61 + 29) % 256
theorem u8_range {x : Int} (h : (Lit.int .u8 x).wf = true) : 0 ≤ x ∧ x < 256 := by
  simp only [Lit.wf, IntKind.min, IntKind.max, IntKind.signed, IntKind.bits, Bool.and_eq_true, decide_eq_true_eq] at h
  simp at h
  omega
theorem lwAtN_lt (l : List Int) (hl : ∀ x ∈ l, (Lit.int .u8 x).wf = true) (i : Nat) : lwAtN l i < 256 := by
  unfold lwAtN
  by_cases h : i < l.length
  · rw [if_pos h]
    have hr : rd l (i : Int) = l[i] := by unfold rd; rw [Int.toNat_natCast, List.getD_eq_getElem?_getD, List.getElem?_eq_getElem h]; rfl
    have := u8_range (hl _ (List.getElem_mem h))
    rw [hr]; omega
  · rw [if_neg h]; omega
theorem lwAt (l : List Int) (hl : ∀ x ∈ l, (Lit.int .u8 x).wf = true) (i : Nat) (hi : i < 100000) : laws_lwAt.f l (i : Int) = some ((lwAtN l i : Nat) : Int) := by
  unfold laws_lwAt.f lwAtN
  by_cases h : i < l.length
  · have hr : rd l (i : Int) = l[i] := by unfold rd; rw [Int.toNat_natCast, List.getD_eq_getElem?_getD, List.getElem?_eq_getElem h]; rfl
    have := u8_range (hl _ (List.getElem_mem h))
    rw [if_pos (by omega), if_pos (by omega), if_pos h, hr, wrap64_id (by omega) (by omega)]
    congr 1; omega
  · rw [if_neg (by omega), if_neg h, wrap64_id (x := (i : Int) * 61) (by omega) (by omega), wrap64_id (x := (i : Int) * 61 + 29) (by omega) (by omega)]
    try rw [wrap64_id (by omega) (by omega)]
    rw [Int.tmod_eq_emod_of_nonneg (by omega)]
    rfl

/-! The field of 256, and rows over it. -/
structure G where
  v : Nat
  h : v < 256
theorem G.ext_ : ∀ {a b : G}, a.v = b.v → a = b
  | ⟨_, _⟩, ⟨_, _⟩, rfl => rfl
instance : DecidableEq G := fun a b => if h : a.v = b.v then isTrue (G.ext_ h) else isFalse (fun e => h (by rw [e]))
instance : Add G := ⟨fun a b => ⟨a.v ^^^ b.v, Nat.xor_lt_two_pow (n := 8) a.h b.h⟩⟩
instance : Mul G := ⟨fun a b => ⟨mul8 a.v b.v, mul8_lt _ _ a.h⟩⟩
instance : Zero G := ⟨⟨0, by decide⟩⟩
instance : One G := ⟨⟨1, by decide⟩⟩
def G.inv (a : G) : G := ⟨inv8 a.v, inv8_lt _ a.h⟩
theorem G.add_v (a b : G) : (a + b).v = a.v ^^^ b.v := rfl
theorem G.mul_v (a b : G) : (a * b).v = mul8 a.v b.v := rfl
theorem G.zero_v : (0 : G).v = 0 := rfl
theorem G.one_v : (1 : G).v = 1 := rfl
theorem G.inv_v (a : G) : a.inv.v = inv8 a.v := rfl
theorem G.add_comm (a b : G) : a + b = b + a := G.ext_ (Nat.xor_comm _ _)
theorem G.add_assoc (a b c : G) : a + b + c = a + (b + c) := G.ext_ (Nat.xor_assoc _ _ _)
theorem G.add_zero (a : G) : a + 0 = a := G.ext_ (Nat.xor_zero _)
theorem G.zero_add (a : G) : 0 + a = a := G.ext_ (Nat.zero_xor _)
theorem G.add_self (a : G) : a + a = 0 := G.ext_ (Nat.xor_self _)
theorem G.mul_comm (a b : G) : a * b = b * a := G.ext_ (mul8_comm _ _ a.h b.h)
theorem G.mul_assoc (a b c : G) : a * b * c = a * (b * c) := G.ext_ (mul8_assoc _ _ _ a.h b.h)
theorem G.mul_add (a b c : G) : a * (b + c) = a * b + a * c := G.ext_ (mul8_xor _ _ _)
theorem G.add_mul (a b c : G) : (a + b) * c = a * c + b * c := by rw [G.mul_comm, G.mul_add, G.mul_comm c a, G.mul_comm c b]
theorem G.mul_zero (a : G) : a * 0 = 0 := G.ext_ (mul8_zero a.v)
theorem G.zero_mul (a : G) : 0 * a = 0 := by rw [G.mul_comm, G.mul_zero]
theorem G.mul_one (a : G) : a * 1 = a := G.ext_ (mul8_one _ a.h)
theorem G.one_mul (a : G) : 1 * a = a := by rw [G.mul_comm, G.mul_one]
theorem G.v_ne {a : G} (h : a ≠ 0) : a.v ≠ 0 := fun e => h (G.ext_ (b := 0) e)
theorem G.mul_inv {a : G} (h : a ≠ 0) : a * a.inv = 1 := G.ext_ (mul_inv8 _ a.h (G.v_ne h))
theorem G.add2 {a b c d : G} (h1 : a = c) (h2 : b = d) : a + b = c + d := by rw [h1, h2]
theorem G.one_ne : (1 : G) ≠ 0 := fun e => absurd (congrArg G.v e) (by decide)
theorem G.mul_eq_zero {a b : G} (h : a * b = 0) (ha : a ≠ 0) : b = 0 := by
  have h2 : a.inv * (a * b) = 0 := by rw [h, G.mul_zero]
  rwa [← G.mul_assoc, G.mul_comm a.inv, G.mul_inv ha, G.one_mul] at h2
theorem G.add_eq_zero {a b : G} (h : a + b = 0) : a = b := by
  have : a + b + b = b := by rw [h, G.zero_add]
  rwa [G.add_assoc, G.add_self, G.add_zero] at this
theorem G.add_add_self (a b : G) : a + b + b = a := by rw [G.add_assoc, G.add_self, G.add_zero]
theorem G.inv_ne {a : G} (h : a ≠ 0) : a.inv ≠ 0 := fun e => by
  have := G.mul_inv h
  rw [e, G.mul_zero] at this
  exact G.one_ne this.symm
instance : Std.Associative (α := G) (· + ·) := ⟨G.add_assoc⟩
instance : Std.Commutative (α := G) (· + ·) := ⟨G.add_comm⟩
instance : Std.Associative (α := G) (· * ·) := ⟨G.mul_assoc⟩
instance : Std.Commutative (α := G) (· * ·) := ⟨G.mul_comm⟩
/-- A sum. -/
def gs (f : Nat → G) : Nat → G
  | 0 => 0
  | n + 1 => gs f n + f n
theorem gs_congr {f g : Nat → G} : ∀ {n : Nat}, (∀ i, i < n → f i = g i) → gs f n = gs g n
  | 0, _ => rfl
  | n + 1, h => by rw [gs, gs, gs_congr (fun i hi => h i (by omega)), h n (by omega)]
theorem gs_zero {f : Nat → G} : ∀ {n : Nat}, (∀ i, i < n → f i = 0) → gs f n = 0
  | 0, _ => rfl
  | n + 1, h => by rw [gs, gs_zero (fun i hi => h i (by omega)), h n (by omega), G.add_zero]
theorem gs_add (f g : Nat → G) : ∀ n : Nat, gs (fun i => f i + g i) n = gs f n + gs g n
  | 0 => (G.add_zero _).symm
  | n + 1 => by rw [gs, gs, gs, gs_add f g n]; ac_rfl
theorem gs_mul (c : G) (f : Nat → G) : ∀ n : Nat, gs (fun i => c * f i) n = c * gs f n
  | 0 => (G.mul_zero _).symm
  | n + 1 => by rw [gs, gs, gs_mul c f n, G.mul_add]
theorem gs_split (f : Nat → G) : ∀ {n r : Nat}, r < n → gs f n = f r + gs (fun i => if i = r then 0 else f i) n
  | 0, r, h => by omega
  | n + 1, r, h => by
    by_cases e : r = n
    · subst e
      rw [gs, gs, if_pos rfl, G.add_zero, G.add_comm]
      congr 1
      exact gs_congr (fun i hi => by rw [if_neg (by omega)])
    · rw [gs, gs, gs_split f (show r < n by omega), if_neg (fun x => e x.symm)]
      ac_rfl
theorem gs_single (x : G) {n r : Nat} (h : r < n) (f : Nat → G) : gs (fun i => (if i = r then x else 0) * f i) n = x * f r := by
  rw [gs_split _ h, if_pos rfl, gs_zero, G.add_zero]
  intro i _
  by_cases e : i = r
  · simp only [if_pos e]
  · simp only [if_neg e, G.zero_mul]
theorem gs_comm (f : Nat → Nat → G) (m : Nat) : ∀ n : Nat, gs (fun i => gs (fun j => f i j) m) n = gs (fun j => gs (fun i => f i j) n) m
  | 0 => (gs_zero (fun _ _ => rfl)).symm
  | n + 1 => by
    rw [gs, gs_comm f m n, ← gs_add]
    rfl
def sw (a b i : Nat) : Nat := if i = a then b else if i = b then a else i
theorem sw_sw (a b i : Nat) : sw a b (sw a b i) = i := by
  unfold sw
  by_cases h1 : i = a
  · rw [if_pos h1]; by_cases h2 : b = a
    · rw [if_pos h2]; omega
    · rw [if_neg h2, if_pos rfl]; omega
  · rw [if_neg h1]; by_cases h2 : i = b
    · rw [if_pos h2, if_pos rfl]; omega
    · rw [if_neg h2, if_neg h1, if_neg h2]
theorem sw_lt {a b m i : Nat} (ha : a < m) (hb : b < m) (hi : i < m) : sw a b i < m := by unfold sw; split <;> (try split) <;> omega
theorem sw_a (a b : Nat) : sw a b a = b := by unfold sw; rw [if_pos rfl]
theorem sw_b (a b : Nat) : sw a b b = a := by unfold sw; split <;> simp_all
theorem sw_o {a b i : Nat} (h1 : i ≠ a) (h2 : i ≠ b) : sw a b i = i := by unfold sw; rw [if_neg h1, if_neg h2]
theorem gs_sw (f : Nat → G) {m a b : Nat} (ha : a < m) (hb : b < m) : gs (fun i => f (sw a b i)) m = gs f m := by
  by_cases e : a = b
  · subst e
    refine gs_congr (fun i _ => ?_)
    congr 1
    unfold sw; split <;> simp_all
  · have h2 : ∀ g : Nat → G, gs g m = g a + (g b + gs (fun i => if i = b then 0 else if i = a then 0 else g i) m) := fun g => by
      rw [gs_split g ha, gs_split _ hb, if_neg (fun x => e x.symm)]
    rw [h2 f, h2 (fun i => f (sw a b i))]
    simp only [sw_a, sw_b]
    rw [gs_congr (f := fun i => if i = b then 0 else if i = a then 0 else f (sw a b i)) (g := fun i => if i = b then 0 else if i = a then 0 else f i)]
    · ac_rfl
    · intro i _
      by_cases h1 : i = b
      · simp [h1]
      · by_cases h3 : i = a
        · simp [h3]
        · simp only [if_neg h1, if_neg h3, sw_o h3 h1]
/-- Rows that do not hang on one another. -/
def Indep (R : Nat → Nat → G) (m n : Nat) : Prop := ∀ c : Nat → G, (∀ j, j < n → gs (fun i => c i * R i j) m = 0) → ∀ i, i < m → c i = 0
theorem indep_congr {R R' : Nat → Nat → G} {m n : Nat} (h : ∀ i j, i < m → j < n → R i j = R' i j) (hI : Indep R m n) : Indep R' m n := by
  intro c hc
  refine hI c (fun j hj => ?_)
  rw [← hc j hj]
  exact gs_congr (fun i hi => by rw [h i j hi hj])
theorem indep_sw {R : Nat → Nat → G} {m n a b : Nat} (ha : a < m) (hb : b < m) (hI : Indep R m n) : Indep (fun i => R (sw a b i)) m n := by
  intro c hc i hi
  have h := hI (fun i => c (sw a b i)) (fun j hj => by
    rw [← hc j hj, ← gs_sw (fun i => c i * R (sw a b i) j) ha hb]
    exact gs_congr (fun i _ => by rw [sw_sw])) (sw a b i) (sw_lt ha hb hi)
  simpa [sw_sw] using h
/-- A row times a number that is not 0, and multiples of it added to the others. -/
def clr (R : Nat → Nat → G) (r : Nat) (f : G) (g : Nat → G) (i j : Nat) : G := if i = r then f * R r j else R i j + g i * (f * R r j)
/-- A combination's sum of multiples, but for the row itself. -/
def oth (g c : Nat → G) (r m : Nat) : G := gs (fun i => if i = r then 0 else c i * g i) m
theorem clr_sum (R : Nat → Nat → G) {m r : Nat} (hr : r < m) (f : G) (g c d : Nat → G) (hd : ∀ i, i ≠ r → d i = c i) (hdr : d r = f * (c r + oth g c r m)) (j : Nat) :
    gs (fun i => c i * clr R r f g i j) m = gs (fun i => d i * R i j) m := by
  rw [gs_split _ hr, gs_split (fun i => d i * R i j) hr, hdr]
  have e0 : clr R r f g r j = f * R r j := if_pos rfl
  rw [e0]
  have e : gs (fun i => if i = r then 0 else c i * clr R r f g i j) m = gs (fun i => if i = r then 0 else d i * R i j) m + (f * R r j) * oth g c r m := by
    unfold oth
    rw [← gs_mul, ← gs_add]
    refine gs_congr (fun i _ => ?_)
    by_cases h : i = r
    · simp only [if_pos h, G.mul_zero, G.add_zero]
    · simp only [if_neg h]
      unfold clr
      have e2 : f * R r j * (c i * g i) = c i * (g i * (f * R r j)) := by ac_rfl
      rw [if_neg h, G.mul_add, hd i h, e2]
  have e3 : f * R r j * oth g c r m = f * oth g c r m * R r j := by ac_rfl
  have e4 : f * c r * R r j = c r * (f * R r j) := by ac_rfl
  rw [e, G.mul_add, G.add_mul, e3, e4]
  ac_rfl
theorem oth_congr {g c d : Nat → G} {r m : Nat} (h : ∀ i, i ≠ r → d i = c i) : oth g d r m = oth g c r m := by
  unfold oth
  refine gs_congr (fun i _ => ?_)
  by_cases e : i = r
  · simp only [if_pos e]
  · simp only [if_neg e, h i e]
theorem oth_zero {g c : Nat → G} {r m : Nat} (h : ∀ i, i < m → i ≠ r → c i = 0) : oth g c r m = 0 := by
  unfold oth
  refine gs_zero (fun i hi => ?_)
  by_cases e : i = r
  · simp only [if_pos e]
  · simp only [if_neg e, h i hi e, G.zero_mul]
theorem indep_clr {R : Nat → Nat → G} {m n r : Nat} {f f' : G} (g : Nat → G) (hr : r < m) (hf : f * f' = 1) : Indep (clr R r f g) m n ↔ Indep R m n := by
  have hf0 : f ≠ 0 := fun e => by rw [e, G.zero_mul] at hf; exact G.one_ne hf.symm
  have hf0' : f' ≠ 0 := fun e => by rw [e, G.mul_zero] at hf; exact G.one_ne hf.symm
  constructor
  · intro hI c hc
    have ed : ∀ i, i ≠ r → (fun i => if i = r then f' * c r + oth g c r m else c i) i = c i := fun i h => if_neg h
    have h := hI (fun i => if i = r then f' * c r + oth g c r m else c i) (fun j hj => by
      rw [clr_sum R hr f g _ c (fun i h => (ed i h).symm) _ j]
      · exact hc j hj
      · rw [oth_congr ed, if_pos rfl, G.add_add_self, ← G.mul_assoc, hf, G.one_mul])
    have ho : ∀ i, i < m → i ≠ r → c i = 0 := fun i hi hne => by have h2 := h i hi; exact (ed i hne).symm.trans h2
    intro i hi
    by_cases e : i = r
    · subst e
      have := h i hi
      simp only [if_pos] at this
      rw [oth_zero ho, G.add_zero] at this
      exact G.mul_eq_zero this hf0'
    · exact ho i hi e
  · intro hI c hc
    have ed : ∀ i, i ≠ r → (fun i => if i = r then f * (c r + oth g c r m) else c i) i = c i := fun i h => if_neg h
    have h := hI (fun i => if i = r then f * (c r + oth g c r m) else c i) (fun j hj => by
      rw [← clr_sum R hr f g c _ ed (if_pos rfl) j]; exact hc j hj)
    have ho : ∀ i, i < m → i ≠ r → c i = 0 := fun i hi hne => by have h2 := h i hi; exact (ed i hne).symm.trans h2
    intro i hi
    by_cases e : i = r
    · subst e
      have := h i hi
      simp only [if_pos] at this
      rw [oth_zero ho, G.add_zero] at this
      exact G.mul_eq_zero this hf0
    · exact ho i hi e
/-- The state of an elimination: 'rank' columns cleared. -/
structure Elim (R : Nat → Nat → G) (m rank col : Nat) (piv : Nat → Nat) : Prop where
  le : rank ≤ m
  one : ∀ i r, i < m → r < rank → R i (piv r) = if i = r then 1 else 0
  lt : ∀ r, r < rank → piv r < col
  low : ∀ i j, rank ≤ i → i < m → j < col → R i j = 0
theorem Elim.start (R : Nat → Nat → G) (m : Nat) : Elim R m 0 0 (fun _ => 0) := ⟨Nat.zero_le _, fun _ _ _ h => by omega, fun _ h => by omega, fun _ _ _ _ h => by omega⟩
theorem Elim.skip {R : Nat → Nat → G} {m rank col : Nat} {piv : Nat → Nat} (h : Elim R m rank col piv) (h0 : ∀ i, rank ≤ i → i < m → R i col = 0) : Elim R m rank (col + 1) piv :=
  ⟨h.le, h.one, fun r hr => by have := h.lt r hr; omega, fun i j h1 h2 h3 => by
    by_cases e : j = col
    · subst e; exact h0 i h1 h2
    · exact h.low i j h1 h2 (by omega)⟩
theorem Elim.swap {R : Nat → Nat → G} {m rank col a : Nat} {piv : Nat → Nat} (h : Elim R m rank col piv) (ha : rank ≤ a) (hm : a < m) : Elim (fun i => R (sw a rank i)) m rank col piv := by
  have hs : ∀ i, i < m → sw a rank i < m := fun i hi => sw_lt hm (by omega) hi
  have hge : ∀ i, rank ≤ i → rank ≤ sw a rank i := fun i hi => by unfold sw; split <;> (try split) <;> omega
  have hlt : ∀ i, i < rank → sw a rank i = i := fun i hi => sw_o (by omega) (by omega)
  refine ⟨h.le, fun i r hi hr => ?_, h.lt, fun i j h1 h2 h3 => h.low _ j (hge i h1) (hs i h2) h3⟩
  rw [h.one _ r (hs i hi) hr]
  by_cases e : i = r
  · rw [if_pos e, if_pos (by rw [hlt i (by omega)]; exact e)]
  · rw [if_neg e, if_neg]
    intro e2
    by_cases hi2 : i < rank
    · rw [hlt i hi2] at e2; exact e e2
    · have := hge i (by omega); omega
theorem Elim.clear {R : Nat → Nat → G} {m rank col : Nat} {piv : Nat → Nat} (h : Elim R m rank col piv) (hm : rank < m) (hp : R rank col ≠ 0) :
    Elim (clr R rank (R rank col).inv (fun i => R i col)) m (rank + 1) (col + 1) (fun r => if r = rank then col else piv r) := by
  have z : ∀ r, r < rank → R rank (piv r) = 0 := fun r hr => by rw [h.one rank r hm hr, if_neg (by omega)]
  have u : (R rank col).inv * R rank col = 1 := by rw [G.mul_comm, G.mul_inv hp]
  refine ⟨hm, fun i r hi hr => ?_, fun r hr => ?_, fun i j h1 h2 h3 => ?_⟩
  · by_cases e : r = rank
    · subst e
      simp only [if_pos]
      unfold clr
      by_cases e2 : i = r
      · rw [if_pos e2, if_pos e2, u]
      · rw [if_neg e2, if_neg e2, u, G.mul_one, G.add_self]
    · simp only [if_neg e]
      unfold clr
      rw [z r (by omega), G.mul_zero, G.mul_zero, G.add_zero]
      by_cases e2 : i = rank
      · rw [if_pos e2, if_neg (by omega)]
      · rw [if_neg e2, h.one i r hi (by omega)]
  · by_cases e : r = rank
    · simp only [if_pos e]; omega
    · simp only [if_neg e]; have := h.lt r (by omega); omega
  · unfold clr
    rw [if_neg (by omega)]
    by_cases e : j = col
    · subst e; rw [u, G.mul_one, G.add_self]
    · rw [h.low i j (by omega) h2 (by omega), h.low rank j (by omega) hm (by omega), G.mul_zero, G.mul_zero, G.add_zero]
theorem Elim.full {R : Nat → Nat → G} {m n col : Nat} {piv : Nat → Nat} (h : Elim R m m col piv) (hn : col ≤ n) : Indep R m n := by
  intro c hc i hi
  have := hc (piv i) (by have := h.lt i hi; omega)
  rw [gs_congr (g := fun k => (if k = i then c i else 0) * (fun _ => (1 : G)) k), gs_single _ hi, G.mul_one] at this
  · exact this
  · intro k hk
    rw [h.one k i hk hi]
    by_cases e : k = i
    · rw [if_pos e, if_pos e, e]
    · rw [if_neg e, if_neg e, G.mul_zero, G.zero_mul]
theorem Elim.less {R : Nat → Nat → G} {m n rank : Nat} {piv : Nat → Nat} (h : Elim R m rank n piv) (hr : rank < m) : ¬ Indep R m n := by
  intro hI
  have := hI (fun i => if i = rank then 1 else 0) (fun j hj => by rw [gs_single 1 hr (fun i => R i j), h.low rank j (Nat.le_refl _) hr hj, G.mul_zero]) rank hr
  rw [if_pos rfl] at this
  exact G.one_ne this

/-! The rows 1 / (x + y) do not hang on one another. -/
theorem G.aux2 (A P P' Q' : G) (h : P * P' = 1) : P * (A * Q' * P') = A * Q' := by
  have : P * (A * Q' * P') = (P * P') * (A * Q') := by ac_rfl
  rw [this, h, G.one_mul]
theorem G.aux1 (A Q Q' P' : G) (h : Q * Q' = 1) : Q * (A * Q' * P') = A * P' := by
  have : Q * (A * Q' * P') = (Q * Q') * (A * P') := by ac_rfl
  rw [this, h, G.one_mul]
set_option maxHeartbeats 1000000 in
theorem cauchy_indep : ∀ (n : Nat) (x y : Nat → G), (∀ i k, i < n → k < n → i ≠ k → x i ≠ x k) → (∀ j k, j < n → k < n → j ≠ k → y j ≠ y k) → (∀ i j, i < n → j < n → x i + y j ≠ 0) → Indep (fun i j => (x i + y j).inv) n n
  | 0, _, _, _, _, _ => fun _ _ i hi => by omega
  | n + 1, x, y, hx, hy, hxy => by
    intro c hc
    have key : ∀ j, j < n + 1 → gs (fun i => c i * (x n + x i) * (x i + y j).inv) n = gs c (n + 1) := fun j hj => by
      have h1 := hc j hj
      have h2 : (x n + y j) * gs (fun i => c i * (x i + y j).inv) (n + 1) = 0 := by rw [h1, G.mul_zero]
      rw [← gs_mul] at h2
      have h3 : gs (fun i => (x n + y j) * (c i * (x i + y j).inv)) (n + 1) = gs (fun i => c i + c i * (x n + x i) * (x i + y j).inv) (n + 1) := gs_congr (fun i hi => by
        have e : x n + y j = (x i + y j) + (x n + x i) := by
          have : x i + y j + (x n + x i) = x n + y j + (x i + x i) := by ac_rfl
          rw [this, G.add_self, G.add_zero]
        rw [e, G.add_mul]
        have u := G.mul_inv (hxy i j hi hj)
        refine G.add2 ?_ ?_
        · have : (x i + y j) * (c i * (x i + y j).inv) = c i * ((x i + y j) * (x i + y j).inv) := by ac_rfl
          rw [this, u, G.mul_one]
        · ac_rfl)
      rw [h3, gs_add] at h2
      have h4 : gs (fun i => c i * (x n + x i) * (x i + y j).inv) (n + 1) = gs (fun i => c i * (x n + x i) * (x i + y j).inv) n := by
        rw [gs, G.add_self, G.mul_zero, G.zero_mul, G.add_zero]
      rw [h4] at h2
      exact (G.add_eq_zero h2).symm
    have hI := cauchy_indep n x y (fun i k hi hk => hx i k (by omega) (by omega)) (fun i k hi hk => hy i k (by omega) (by omega)) (fun i j hi hj => hxy i j (by omega) (by omega))
    have h5 := hI (fun i => c i * (x n + x i) * (x i + y n).inv) (fun j hj => by
      have e1 := key j (by omega)
      have e2 := key n (by omega)
      have e3 : gs (fun i => c i * (x n + x i) * (x i + y j).inv + c i * (x n + x i) * (x i + y n).inv) n = 0 := by rw [gs_add, e1, e2, G.add_self]
      have e4 : gs (fun i => c i * (x n + x i) * (x i + y j).inv + c i * (x n + x i) * (x i + y n).inv) n = (y n + y j) * gs (fun i => c i * (x n + x i) * (x i + y n).inv * (x i + y j).inv) n := by
        rw [← gs_mul]
        refine gs_congr (fun i hi => ?_)
        have u1 := G.mul_inv (hxy i j (by omega) (by omega))
        have u2 := G.mul_inv (hxy i n (by omega) (by omega))
        have a3 : y n + y j = (x i + y n) + (x i + y j) := by
          have : x i + y n + (x i + y j) = y n + y j + (x i + x i) := by ac_rfl
          rw [this, G.add_self, G.add_zero]
        rw [a3, G.add_mul]
        refine G.add2 ?_ ?_
        · exact (G.aux1 (c i * (x n + x i)) (x i + y n) (x i + y n).inv (x i + y j).inv u2).symm
        · exact (G.aux2 (c i * (x n + x i)) (x i + y j) (x i + y j).inv (x i + y n).inv u1).symm
      rw [e4] at e3
      exact G.mul_eq_zero e3 (fun h => hy n j (by omega) (by omega) (by omega) (G.add_eq_zero h)))
    have h6 : ∀ i, i < n → c i = 0 := fun i hi => by
      have := h5 i hi
      have h7 : (x i + y n).inv * (x n + x i) * c i = 0 := by rw [← this]; ac_rfl
      have n1 : (x i + y n).inv * (x n + x i) ≠ 0 := fun h => by
        have := G.mul_eq_zero h (G.inv_ne (hxy i n (by omega) (by omega)))
        exact hx n i (by omega) (by omega) (by omega) (G.add_eq_zero this)
      exact G.mul_eq_zero h7 n1
    intro i hi
    by_cases e : i = n
    · subst e
      have h8 := hc 0 (by omega)
      rw [gs, gs_zero (fun k hk => by rw [h6 k hk, G.zero_mul]), G.zero_add, G.mul_comm] at h8
      exact G.mul_eq_zero h8 (G.inv_ne (hxy i 0 (by omega) (by omega)))
    · exact h6 i (by omega)

/-! What the program's elimination computes: its steps are those of Elim. -/
theorem red_le : ∀ (M : Nat → Nat → Nat) (r c n : Nat), (redGo M r c n).2 ≤ r
  | _, _, _, 0 => Nat.zero_le _
  | M, r, c, n + 1 => by
    have ih := red_le M r c n
    rw [redGo]
    split
    · split
      · exact ih
      · simp only; omega
    · exact ih
def bm (M : Nat → Nat → Nat) (i j : Nat) : G := ⟨M i j % 256, Nat.mod_lt _ (by decide)⟩
theorem bm_v {M : Nat → Nat → Nat} {i j : Nat} (h : M i j < 256) : (bm M i j).v = M i j := Nat.mod_eq_of_lt h
theorem bm_zero {M : Nat → Nat → Nat} {i j : Nat} (h : M i j < 256) : bm M i j = 0 ↔ M i j = 0 := by
  constructor
  · intro e
    have := congrArg G.v e
    rw [bm_v h] at this
    exact this
  · intro e
    exact G.ext_ (by rw [bm_v h, e]; rfl)
theorem swp_sw {α : Type} (s : Nat → α) (a b i : Nat) : swp s a b i = s (sw a b i) := by
  unfold swp sw
  by_cases h1 : i = a
  · by_cases h2 : i = b
    · rw [if_pos h2, if_pos h1, ← h1, ← h2]
    · rw [if_neg h2, if_pos h1, if_pos h1]
  · rw [if_neg h1, if_neg h1]
    by_cases h2 : i = b
    · rw [if_pos h2, if_pos h2]
    · rw [if_neg h2, if_neg h2]
theorem redAt_lo (N : Nat → Nat → Nat) (col : Nat) : ∀ (d a x : Nat), redAt N col d a = some x → a ≤ x ∧ x < a + d ∧ N x col ≠ 0
  | 0, a, x, h => by simp [redAt] at h
  | d + 1, a, x, h => by
    rw [redAt] at h
    by_cases e : N a col = 0
    · rw [if_pos e] at h
      have := redAt_lo N col d (a + 1) x h
      exact ⟨by omega, by omega, this.2.2⟩
    · rw [if_neg e] at h
      obtain rfl := Option.some.inj h
      exact ⟨Nat.le_refl _, by omega, e⟩
theorem redAt_no (N : Nat → Nat → Nat) (col : Nat) : ∀ (d a : Nat), redAt N col d a = none → ∀ x, a ≤ x → x < a + d → N x col = 0
  | 0, a, _, x, h1, h2 => by omega
  | d + 1, a, h, x, h1, h2 => by
    rw [redAt] at h
    by_cases e : N a col = 0
    · rw [if_pos e] at h
      by_cases hx : x = a
      · rw [hx]; exact e
      · exact redAt_no N col d (a + 1) h x (by omega) (by omega)
    · rw [if_neg e] at h
      cases h
/-- The cleared rows, in one word. -/
theorem clear_at (P : Nat → Nat → Nat) (rk col c : Nat) (hc : col < c) : ∀ (m i k : Nat), clearM P rk col c m i k = if i < m ∧ i ≠ rk ∧ P i col ≠ 0 ∧ k < c then P i k ^^^ tabMul (P rk k) (P i col) else P i k
  | 0, i, k => by rw [clearM, if_neg (by omega)]
  | m + 1, i, k => by
    have ih := clear_at P rk col c hc m
    have hm : clearM P rk col c m m col = P m col := by rw [ih m col, if_neg (by omega)]
    rw [clearM, hm]
    by_cases h1 : m = rk ∨ P m col = 0
    · rw [if_pos h1, ih i k]
      by_cases h2 : i < m ∧ i ≠ rk ∧ P i col ≠ 0 ∧ k < c
      · rw [if_pos h2, if_pos ⟨by omega, h2.2⟩]
      · rw [if_neg h2, if_neg (fun h3 => by
          have : i = m := Classical.byContradiction (fun q => h2 ⟨by omega, h3.2⟩)
          subst this
          rcases h1 with h1 | h1
          · exact h3.2.1 h1
          · exact h3.2.2.1 h1)]
    · rw [if_neg h1]
      have h3 : m ≠ rk := fun e => h1 (Or.inl e)
      have h4 : P m col ≠ 0 := fun e => h1 (Or.inr e)
      have hrow : clearM P rk col c m rk k = P rk k := by rw [ih rk k, if_neg (by omega)]
      unfold addM
      rw [hrow]
      by_cases h5 : i = m
      · subst h5
        have hik : clearM P rk col c i i k = P i k := by rw [ih i k, if_neg (by omega)]
        rw [hik]
        by_cases h6 : k < c
        · rw [if_pos ⟨rfl, h6⟩, if_pos ⟨by omega, h3, h4, h6⟩]
        · rw [if_neg (fun q => h6 q.2), if_neg (fun q => h6 q.2.2.2)]
      · rw [if_neg (fun q => h5 q.1), ih i k]
        by_cases h2 : i < m ∧ i ≠ rk ∧ P i col ≠ 0 ∧ k < c
        · rw [if_pos h2, if_pos ⟨by omega, h2.2⟩]
        · rw [if_neg h2, if_neg (fun q => h2 ⟨by omega, q.2⟩)]
theorem tabMul_lt (a b : Nat) (ha : a < 256) (hb : b < 256) : tabMul a b < 256 := by
  rw [tabMul_field a b ha hb]
  exact (G.mk a ha * G.mk b hb).h
theorem tabInv_lt (a : Nat) (ha : a < 256) : tabInv a < 256 := by
  rw [tabInv_eq a ha]
  exact inv8_lt _ ha
/-- One column's step, over the field. -/
theorem piv_clr (N : Nat → Nat → Nat) (a rk col r c : Nat) (hb : ∀ i j, i < r → j < c → N i j < 256) (ha : a < r) (hk : rk < r) (hc : col < c) :
    (∀ i j, i < r → j < c → pivM N a rk col r c i j < 256) ∧ ∀ i j, i < r → j < c → bm (pivM N a rk col r c) i j = clr (fun i => bm N (sw a rk i)) rk (bm N (sw a rk rk) col).inv (fun i => bm N (sw a rk i) col) i j := by
  have hs : ∀ i j, i < r → j < c → swp N a rk i j < 256 := fun i j hi hj => by
    rw [swp_sw N a rk i]
    exact hb _ j (sw_lt ha hk hi) hj
  have hinv : tabInv (swp N a rk rk col) < 256 := tabInv_lt _ (hs rk col hk hc)
  have hsc : ∀ i j, i < r → j < c → scaleM (swp N a rk) rk (tabInv (swp N a rk rk col)) c i j = if i = rk then tabMul (swp N a rk rk j) (tabInv (swp N a rk rk col)) else swp N a rk i j := fun i j hi hj => by
    unfold scaleM
    by_cases e : i = rk
    · rw [if_pos ⟨e, hj⟩, if_pos e, e]
    · rw [if_neg (fun q => e q.1), if_neg e]
  have hsl : ∀ i j, i < r → j < c → scaleM (swp N a rk) rk (tabInv (swp N a rk rk col)) c i j < 256 := fun i j hi hj => by
    rw [hsc i j hi hj]
    split
    · exact tabMul_lt _ _ (hs rk j hk hj) hinv
    · exact hs i j hi hj
  have key : ∀ i j, i < r → j < c → pivM N a rk col r c i j < 256 ∧ bm (pivM N a rk col r c) i j = clr (fun i => bm N (sw a rk i)) rk (bm N (sw a rk rk) col).inv (fun i => bm N (sw a rk i) col) i j := by
    intro i j hi hj
    unfold pivM
    generalize hP : scaleM (swp N a rk) rk (tabInv (swp N a rk rk col)) c = P at hsc hsl
    have hpc := clear_at P rk col c hc r i j
    have hx : tabMul (swp N a rk rk j) (tabInv (swp N a rk rk col)) < 256 := tabMul_lt _ _ (hs rk j hk hj) hinv
    have hrk : P rk j = tabMul (swp N a rk rk j) (tabInv (swp N a rk rk col)) := by rw [hsc rk j hk hj, if_pos rfl]
    have hrow : (⟨P rk j, hsl rk j hk hj⟩ : G) = (bm N (sw a rk rk) col).inv * bm N (sw a rk rk) j := by
      refine G.ext_ ?_
      show P rk j = _
      rw [hrk, G.mul_comm, G.mul_v, G.inv_v, bm_v (by have := hs rk j hk hj; rwa [swp_sw] at this), bm_v (by have := hs rk col hk hc; rwa [swp_sw] at this), tabMul_field _ _ (hs rk j hk hj) hinv, tabInv_eq _ (hs rk col hk hc), swp_sw]
    unfold clr
    by_cases e : i = rk
    · subst e
      rw [if_neg (fun q => q.2.1 rfl)] at hpc
      refine ⟨by rw [hpc]; exact hsl _ _ hk hj, ?_⟩
      rw [if_pos rfl, ← hrow]
      exact G.ext_ (by rw [bm_v (by rw [hpc]; exact hsl _ _ hk hj), hpc])
    · have hPi : ∀ q, q < c → P i q = swp N a rk i q := fun q hq => by rw [hsc i q hi hq, if_neg e]
      rw [if_neg e, ← hrow]
      show clearM P rk col c r i j < 256 ∧ bm (clearM P rk col c r) i j = bm N (sw a rk i) j + bm N (sw a rk i) col * (⟨P rk j, hsl rk j hk hj⟩ : G)
      have hij : (bm N (sw a rk i) j).v = P i j := by rw [bm_v (by have := hs i j hi hj; rwa [swp_sw] at this), hPi j hj, swp_sw]
      have hic : (bm N (sw a rk i) col).v = P i col := by rw [bm_v (by have := hs i col hi hc; rwa [swp_sw] at this), hPi col hc, swp_sw]
      by_cases z : P i col = 0
      · rw [if_neg (fun q => q.2.2.1 z)] at hpc
        refine ⟨by rw [hpc]; exact hsl _ _ hi hj, ?_⟩
        have hz : bm N (sw a rk i) col = 0 := G.ext_ (by rw [hic, z]; rfl)
        rw [hz, G.zero_mul, G.add_zero]
        exact G.ext_ (by rw [bm_v (by rw [hpc]; exact hsl _ _ hi hj), hpc, hij])
      · rw [if_pos ⟨hi, e, z, hj⟩] at hpc
        have hlt : clearM P rk col c r i j < 256 := by
          rw [hpc]
          exact Nat.xor_lt_two_pow (n := 8) (hsl i j hi hj) (tabMul_lt _ _ (hsl rk j hk hj) (hsl i col hi hc))
        refine ⟨hlt, G.ext_ ?_⟩
        rw [bm_v hlt, hpc, G.add_v, G.mul_v, hij, hic, tabMul_field _ _ (hsl rk j hk hj) (hsl i col hi hc)]
        rw [mul8_comm _ _ (hsl rk j hk hj) (hsl i col hi hc)]
  exact ⟨fun i j hi hj => (key i j hi hj).1, fun i j hi hj => (key i j hi hj).2⟩
theorem elim_congr {R R' : Nat → Nat → G} {m rank col n : Nat} {piv : Nat → Nat} (h : ∀ i j, i < m → j < n → R i j = R' i j) (hn : col ≤ n) (hE : Elim R m rank col piv) : Elim R' m rank col piv :=
  ⟨hE.le, fun i r hi hr => by rw [← h i (piv r) hi (by have := hE.lt r hr; omega)]; exact hE.one i r hi hr, hE.lt, fun i j h1 h2 h3 => by rw [← h i j h2 (by omega)]; exact hE.low i j h1 h2 h3⟩
/-- The elimination of independent rows. -/
theorem red_elim (M : Nat → Nat → Nat) (r c : Nat) (hb : ∀ i j, i < r → j < c → M i j < 256) (hI : Indep (bm M) r c) : ∀ n, n ≤ c →
    (redGo M r c n).2 = r ∨ ((∀ i j, i < r → j < c → (redGo M r c n).1 i j < 256) ∧ Indep (bm (redGo M r c n).1) r c ∧ ∃ piv, Elim (bm (redGo M r c n).1) r (redGo M r c n).2 n piv)
  | 0, _ => Or.inr ⟨hb, hI, _, Elim.start _ _⟩
  | n + 1, hn => by
    have hle := red_le M r c n
    rcases red_elim M r c hb hI n (by omega) with h | ⟨h1, h2, piv, h3⟩
    · left
      rw [redGo, if_neg (by omega)]
      exact h
    · generalize hN : (redGo M r c n).1 = N at h1 h2 h3
      generalize hk : (redGo M r c n).2 = k at h3 hle
      by_cases hkr : k < r
      · right
        rw [redGo, hN, hk, if_pos hkr]
        cases hat : redAt N n (r - k) k with
        | none =>
          simp only
          rw [hN, hk]
          refine ⟨h1, h2, piv, h3.skip (fun i hi1 hi2 => ?_)⟩
          rw [bm_zero (h1 i n hi2 (by omega))]
          exact redAt_no N n _ _ hat i hi1 (by omega)
        | some a =>
          simp only
          obtain ⟨a1, a2, a3⟩ := redAt_lo N n _ _ _ hat
          obtain ⟨p1, p2⟩ := piv_clr N a k n r c h1 (by omega) hkr (by omega)
          have hne : bm N (sw a k k) n ≠ 0 := by
            rw [sw_b]
            intro e
            exact a3 ((bm_zero (h1 a n (by omega) (by omega))).1 e)
          have hsw := h3.swap a1 (by omega)
          have hcl := hsw.clear hkr (by exact hne)
          refine ⟨p1, ?_, _, elim_congr (n := c) (fun i j hi hj => (p2 i j hi hj).symm) hn hcl⟩
          refine indep_congr (fun i j hi hj => (p2 i j hi hj).symm) ?_
          exact (indep_clr _ hkr (by rw [G.mul_comm]; exact G.mul_inv hne)).2 (indep_sw (by omega) hkr h2)
      · left
        rw [redGo, hk, if_neg hkr]
        rw [hk]
        omega
theorem red_full (M : Nat → Nat → Nat) (r c : Nat) (hb : ∀ i j, i < r → j < c → M i j < 256) (hI : Indep (bm M) r c) : (redGo M r c c).2 = r := by
  have hle := red_le M r c c
  rcases red_elim M r c hb hI c (Nat.le_refl _) with h | ⟨h1, h2, piv, h3⟩
  · exact h
  · rcases Nat.lt_or_ge (redGo M r c c).2 r with h | h
    · exact absurd h2 (h3.less h)
    · omega

theorem rd_in {l : List Int} {i : Nat} (h : i < l.length) : rd l (i : Int) ∈ l := by
  rw [rd_at l i h]
  exact List.getElem_mem h
theorem lwHas_l0 (l : List Int) (a : Int) (hl : l.length ≤ 1048576) : ∀ (d i : Nat), l.length - i = d → i ≤ l.length → Ev (fun k => laws_lwHas.l0 k l a (i : Int)) (decide (a ∈ l.drop i)) := by
  intro d
  induction d with
  | zero =>
    intro i hd hi
    refine Ev.step (fun k => by rw [laws_lwHas.l0, if_neg (by omega)]) (Ev.give ?_)
    rw [List.drop_eq_nil_of_le (by omega)]
    simp
  | succ d ih =>
    intro i hd hi
    have hw : wrap64 ((i : Int) + 1) = ((i + 1 : Nat) : Int) := by rw [wrap64_id (by omega) (by omega)]; rfl
    refine Ev.step (fun k => by rw [laws_lwHas.l0, if_pos (by omega), if_pos (by omega), rd_at l i (by omega), hw]) ?_
    rw [List.drop_eq_getElem_cons (show i < l.length by omega)]
    by_cases e : l[i] = a
    · refine Ev.pos e (Ev.give ?_)
      rw [e]
      simp
    · refine Ev.neg e ?_
      have h := ih (i + 1) (by omega) (by omega)
      have e2 : decide (a ∈ l.drop (i + 1)) = decide (a ∈ l[i] :: l.drop (i + 1)) := by
        apply decide_eq_decide.2
        constructor
        · exact fun q => List.mem_cons_of_mem _ q
        · intro q
          rcases List.mem_cons.1 q with q | q
          · exact absurd q.symm e
          · exact q
      rw [← e2]
      exact h
theorem lwHas (l : List Int) (a : Int) (hl : l.length ≤ 1048576) : Ev (fun k => laws_lwHas.f k l a) (decide (a ∈ l)) := by
  refine Ev.congr (fun k => by rw [laws_lwHas.f]) ?_
  have h := lwHas_l0 l a hl l.length 0 rfl (by omega)
  exact h
theorem lwInts_l0 (l : List Int) (hl : l.length ≤ 1048576) : ∀ (d i : Nat), l.length - i = d → i ≤ l.length → Ev (fun k => laws_lwInts.l0 k l l (i : Int)) true := by
  intro d
  induction d with
  | zero =>
    intro i hd hi
    exact Ev.step (fun k => by rw [laws_lwInts.l0, if_neg (by omega)]) (Ev.now _)
  | succ d ih =>
    intro i hd hi
    have hw : wrap64 ((i : Int) + 1) = ((i + 1 : Nat) : Int) := by rw [wrap64_id (by omega) (by omega)]; rfl
    refine Ev.step (fun k => by rw [laws_lwInts.l0, if_pos (by omega), if_pos (by omega), if_pos (by omega), if_pos rfl, hw]) ?_
    exact ih (i + 1) (by omega) (by omega)
theorem lwMatrix (a b : Int) (l : List Int) (hl : l.length ≤ 1048576) : Ev (fun k => laws_lwMatrix.f k a b l a b l) true := by
  refine Ev.congr (fun k => by rw [laws_lwMatrix.f, if_pos rfl, if_pos rfl]) ?_
  have h : Ev (fun k => laws_lwInts.f k l l) true := Ev.congr (fun k => by rw [laws_lwInts.f, if_pos rfl]; rfl) (lwInts_l0 l hl l.length 0 rfl (by omega))
  exact Ev.bind h (Ev.now _)
/-- Drawn places, all different. -/
structure Drawn6 (m : Nat) (l : List Int) : Prop where
  rng : ∀ x ∈ l, 0 ≤ x ∧ x < m
  diff : l.Nodup
  len : l.length ≤ 6
theorem Drawn6.more {m : Nat} {l : List Int} {x : Int} (h : Drawn6 m l) (h0 : 0 ≤ x) (h1 : x < m) (hx : x ∉ l) (hl : l.length < 6) : Drawn6 m (l ++ [x]) :=
  ⟨fun y hy => by
    rcases List.mem_append.1 hy with hy | hy
    · exact h.rng y hy
    · rw [List.mem_singleton.1 hy]; exact ⟨h0, h1⟩, by
    rw [List.nodup_append]
    exact ⟨h.diff, by simp, fun a ha b hb e => by rw [List.mem_singleton.1 hb] at e; exact hx (e ▸ ha)⟩, by simp; omega⟩
theorem Drawn6.inj {m : Nat} {l : List Int} (h : Drawn6 m l) {i k : Nat} (hi : i < l.length) (hk : k < l.length) (e : (rd l (i : Int)).toNat = (rd l (k : Int)).toNat) : i = k := by
  have r1 := h.rng _ (rd_in hi)
  have r2 := h.rng _ (rd_in hk)
  have e2 : rd l (i : Int) = rd l (k : Int) := by omega
  rw [rd_at l i hi, rd_at l k hk] at e2
  exact (List.getElem_inj h.diff).1 e2
/-- The drawn matrix's cells. -/
def drawnL (cols n : Nat) (p q : Nat → Nat) : List Int := (List.range (n * n)).map fun t => cauCell cols (p (t / n)) (q (t % n))
theorem drawnL_len (cols n : Nat) (p q : Nat → Nat) : (drawnL cols n p q).length = n * n := by simp [drawnL]
theorem drawnL_get (cols n : Nat) (p q : Nat → Nat) (i j : Nat) (hi : i < n) (hj : j < n) : i * n + j < n * n ∧ (drawnL cols n p q)[i * n + j]? = some (cauCell cols (p i) (q j)) := by
  have h1 : (i * n + j) / n = i := by rw [Nat.mul_comm, Nat.mul_add_div (by omega), Nat.div_eq_of_lt hj, Nat.add_zero]
  have h2 : (i * n + j) % n = j := by rw [Nat.mul_comm, Nat.mul_add_mod, Nat.mod_eq_of_lt hj]
  have h3 : i * n + j < n * n := by
    have := Nat.mul_le_mul_right n hi
    rw [Nat.succ_mul] at this
    omega
  refine ⟨h3, ?_⟩
  unfold drawnL
  rw [List.getElem?_map, List.getElem?_range h3, Option.map_some, h1, h2]
theorem cauCell_lt (cols i j : Nat) (h : (cols + i) ^^^ j < 256) : 0 ≤ cauCell cols i j ∧ cauCell cols i j < 256 := by
  unfold cauCell
  have := inv8_lt _ h
  omega
theorem drawn_good (cols n : Nat) (p q : Nat → Nat) (hn1 : 1 ≤ n) (hn : n ≤ 6) (hc : cols ≤ 12) (hp : ∀ i, i < n → p i < 12) (hq : ∀ j, j < n → q j < cols) (ip : ∀ i k, i < n → k < n → p i = p k → i = k) (iq : ∀ i k, i < n → k < n → q i = q k → i = k) :
    MxOk (n : Int) (n : Int) (drawnL cols n p q) ∧ (redGo (mxOf n (drawnL cols n p q)) n n n).2 = n ∧ matFaultOf (n : Int) (n : Int) (drawnL cols n p q) = 0 := by
  have ht : ∀ i j, i < n → j < n → (cols + p i) ^^^ q j < 256 := fun i j hi hj => Nat.xor_lt_two_pow (n := 8) (by have := hp i hi; omega) (by have := hq j hj; omega)
  have hall : ∀ x ∈ drawnL cols n p q, 0 ≤ x ∧ x < 256 := by
    intro x hx
    unfold drawnL at hx
    obtain ⟨t, ht1, rfl⟩ := List.mem_map.1 hx
    have ht2 := List.mem_range.1 ht1
    have hd : t / n < n := (Nat.div_lt_iff_lt_mul (by omega)).2 ht2
    exact cauCell_lt _ _ _ (ht _ _ hd (Nat.mod_lt _ (by omega)))
  have hlen := drawnL_len cols n p q
  have hok : MxOk (n : Int) (n : Int) (drawnL cols n p q) := ⟨by omega, by omega, by omega, by omega, by rw [hlen]; exact Int.natCast_mul n n, hall⟩
  have hmx : ∀ i j, i < n → j < n → mxOf n (drawnL cols n p q) i j = inv8 ((cols + p i) ^^^ q j) := fun i j hi hj => by
    obtain ⟨h1, h2⟩ := drawnL_get cols n p q i j hi hj
    unfold mxOf rd
    rw [Int.toNat_natCast, List.getD_eq_getElem?_getD, h2]
    unfold cauCell
    rfl
  refine ⟨hok, ?_, ?_⟩
  · refine red_full _ n n (fun i j hi hj => by rw [hmx i j hi hj]; exact inv8_lt _ (ht i j hi hj)) ?_
    have key := cauchy_indep n (fun i => ⟨(cols + p i) % 256, Nat.mod_lt _ (by decide)⟩) (fun j => ⟨q j % 256, Nat.mod_lt _ (by decide)⟩)
      (fun i k hi hk hne e => hne (ip i k hi hk (by
        have := congrArg G.v e
        simp only at this
        have h1 := hp i hi
        have h2 := hp k hk
        omega)))
      (fun j k hj hk hne e => hne (iq j k hj hk (by
        have := congrArg G.v e
        simp only at this
        have h1 := hq j hj
        have h2 := hq k hk
        omega)))
      (fun i j hi hj e => by
        have := congrArg G.v (G.add_eq_zero e)
        simp only at this
        have h1 := hp i hi
        have h2 := hq j hj
        omega)
    refine indep_congr (fun i j hi hj => G.ext_ ?_) key
    have h1 := hp i hi
    have h2 := hq j hj
    rw [bm_v (by rw [hmx i j hi hj]; exact inv8_lt _ (ht i j hi hj)), hmx i j hi hj, G.inv_v, G.add_v]
    simp only
    rw [Nat.mod_eq_of_lt (show cols + p i < 256 by omega), Nat.mod_eq_of_lt (show q j < 256 by omega)]
  · unfold matFaultOf
    rw [if_neg (by omega), if_neg (by omega), if_neg (by omega), if_neg (by omega), if_neg (by rw [hlen]; simp), if_neg]
    intro h
    obtain ⟨x, hx, hb⟩ := List.any_eq_true.1 h
    have := hall x hx
    simp [cellBad, this] at hb
theorem drawn_step (cols n : Nat) (p q : Nat → Nat) (i j : Nat) (hi : i < n) (hj : j < n) : (drawnL cols n p q).take (i * n + j) ++ [cauCell cols (p i) (q j)] = (drawnL cols n p q).take (i * n + (j + 1)) := by
  obtain ⟨h1, h2⟩ := drawnL_get cols n p q i j hi hj
  rw [← Nat.add_assoc, List.take_add_one, h2]
  rfl
section
variable (rows cols : Nat) (hr : rows ≤ 12) (hc : cols ≤ 12) (x1 : List Int) (h1 : ∀ x ∈ x1, (Lit.int .u8 x).wf = true) (y0 y1 y2 : Int)
include hr hc
theorem cau_l3 (R L : List Int) (hR : Drawn6 rows R) (hL : Drawn6 cols L) (hn1 : 1 ≤ L.length) (hle : L.length ≤ R.length) (i : Nat) (hi : i < L.length) (res : Bool)
    (next : Ev (fun k => laws_FnCauchy.l2 k cols R L (L.length : Int) ((i + 1 : Nat) : Int) y0 y1 y2 (cauFull rows cols) (L.length : Int) (L.length : Int) ((drawnL cols L.length (fun i => (rd R (i : Int)).toNat) (fun j => (rd L (j : Int)).toNat)).take ((i + 1) * L.length))) res) : ∀ (d j : Nat), L.length - j = d → j ≤ L.length →
    Ev (fun k => laws_FnCauchy.l3 k cols R L (L.length : Int) (i : Int) (j : Int) y0 y1 y2 (cauFull rows cols) (L.length : Int) (L.length : Int) ((drawnL cols L.length (fun i => (rd R (i : Int)).toNat) (fun j => (rd L (j : Int)).toNat)).take (i * L.length + j))) res := by
  intro d
  have hRl := hR.len
  have hLl := hL.len
  induction d with
  | zero =>
    intro j hd hj
    have ej : j = L.length := by omega
    have hw : wrap64 ((i : Int) + 1) = ((i + 1 : Nat) : Int) := by rw [wrap64_id (by omega) (by omega)]; rfl
    refine Ev.step (fun k => by rw [laws_FnCauchy.l3, if_neg (by omega), hw]) ?_
    rw [Nat.succ_mul] at next
    rw [ej]
    exact next
  | succ d ih =>
    intro j hd hj
    have q1 : (j : Int) < (L.length : Int) := by omega
    have q2 : (0 : Int) ≤ (i : Int) := by omega
    have q3 : (i : Int) < (R.length : Int) := by omega
    have q4 : (0 : Int) ≤ (j : Int) := by omega
    have hw : wrap64 ((j : Int) + 1) = ((j + 1 : Nat) : Int) := by rw [wrap64_id (by omega) (by omega)]; rfl
    obtain ⟨a, ha⟩ : ∃ a, (rd R (i : Int)).toNat = a := ⟨_, rfl⟩
    obtain ⟨b, hb⟩ : ∃ b, (rd L (j : Int)).toNat = b := ⟨_, rfl⟩
    have ra := hR.rng _ (rd_in (show i < R.length by omega))
    have rb := hL.rng _ (rd_in (show j < L.length by omega))
    have ea : rd R (i : Int) = (a : Int) := by omega
    have eb : rd L (j : Int) = (b : Int) := by omega
    have ha2 : a < rows := by omega
    have hb2 : b < cols := by omega
    have hm1 : a * cols ≤ 12 * 12 := Nat.mul_le_mul (by omega) hc
    have hm2 : (a : Int) * (cols : Int) = ((a * cols : Nat) : Int) := (Int.natCast_mul a cols).symm
    have hix : wrap64 ((wrap64 ((a : Int) * (cols : Int))) + (b : Int)) = ((a * cols + b : Nat) : Int) := by
      rw [hm2, wrap64_id (x := ((a * cols : Nat) : Int)) (by omega) (by omega), wrap64_id (by omega) (by omega)]
      rfl
    obtain ⟨c1, c2⟩ := cau_at rows cols a b ha2 hb2
    have hrd : rd (cauFull rows cols) ((a * cols + b : Nat) : Int) = cauCell cols a b := by
      unfold rd
      rw [Int.toNat_natCast, List.getD_eq_getElem?_getD, c2]
      rfl
    have hfl := cauFull_length rows cols
    have q5 : (0 : Int) ≤ ((a * cols + b : Nat) : Int) := Int.natCast_nonneg _
    have q6 : ((a * cols + b : Nat) : Int) < ((cauFull rows cols).length : Int) := by rw [hfl]; exact Int.ofNat_lt.2 c1
    have htl : ((drawnL cols L.length (fun i => (rd R (i : Int)).toNat) (fun j => (rd L (j : Int)).toNat)).take (i * L.length + j)).length < 17592186044416 := by
      rw [List.length_take, drawnL_len]
      have : L.length * L.length ≤ 6 * 6 := Nat.mul_le_mul hLl hLl
      omega
    refine Ev.step (fun k => by rw [laws_FnCauchy.l3, if_pos q1, if_pos q2, if_pos q3, if_pos q4, if_pos q1, ea, eb, hix, if_pos q5, if_pos q6, if_pos htl, hrd, hw]) ?_
    have hs := drawn_step cols L.length (fun i => (rd R (i : Int)).toNat) (fun j => (rd L (j : Int)).toNat) i j hi (by omega)
    simp only [ha, hb] at hs
    rw [hs]
    exact ih (j + 1) (by omega) (by omega)
theorem cau_l2 (R L : List Int) (hR : Drawn6 rows R) (hL : Drawn6 cols L) (hn1 : 1 ≤ L.length) (hle : L.length ≤ R.length) : ∀ (d i : Nat), L.length - i = d → i ≤ L.length →
    Ev (fun k => laws_FnCauchy.l2 k cols R L (L.length : Int) (i : Int) y0 y1 y2 (cauFull rows cols) (L.length : Int) (L.length : Int) ((drawnL cols L.length (fun i => (rd R (i : Int)).toNat) (fun j => (rd L (j : Int)).toNat)).take (i * L.length))) true := by
  intro d
  have hRl := hR.len
  have hLl := hL.len
  induction d with
  | zero =>
    intro i hd hi
    have ei : i = L.length := by omega
    have hg := drawn_good cols L.length (fun i => (rd R (i : Int)).toNat) (fun j => (rd L (j : Int)).toNat) hn1 hLl hc (fun i hi => by have := hR.rng _ (rd_in (show i < R.length by omega)); omega) (fun j hj => by have := hL.rng _ (rd_in hj); omega) (fun i k hi hk e => hR.inj (by omega) (by omega) e) (fun i k hi hk e => hL.inj hi hk e)
    have hfl := drawnL_len cols L.length (fun i => (rd R (i : Int)).toNat) (fun j => (rd L (j : Int)).toNat)
    have htk : (drawnL cols L.length (fun i => (rd R (i : Int)).toNat) (fun j => (rd L (j : Int)).toNat)).take (i * L.length) = drawnL cols L.length (fun i => (rd R (i : Int)).toNat) (fun j => (rd L (j : Int)).toNat) := by
      rw [ei, ← hfl, List.take_length]
    rw [htk]
    clear htk
    generalize drawnL cols L.length (fun i => (rd R (i : Int)).toNat) (fun j => (rd L (j : Int)).toNat) = M at hg hfl
    obtain ⟨g1, g2, g3⟩ := hg
    have hMl : M.length ≤ 1048576 := by
      have : L.length * L.length ≤ 6 * 6 := Nat.mul_le_mul hLl hLl
      omega
    have hf := impl_matFault (L.length : Int) (L.length : Int) M hMl
    rw [g3] at hf
    have hrank : Ev (fun k => impl_MatRank.f k (L.length : Int) (L.length : Int) M) (L.length : Int) := by
      refine Ev.congr (fun k => by rw [impl_MatRank.f]) (Ev.bind hf (Ev.pos (show (0 : Int) = 0 ∧ MxOk (L.length : Int) (L.length : Int) M from ⟨rfl, g1⟩) (Ev.give ?_)))
      rw [Int.toNat_natCast, g2]
    have hco : (0 : Int) = 0 ∧ (L.length : Int) = (L.length : Int) ∧ MxOk (L.length : Int) (L.length : Int) M ∧ (redGo (mxOf ((L.length : Int)).toNat M) ((L.length : Int)).toNat ((L.length : Int)).toNat ((L.length : Int)).toNat).2 = ((L.length : Int)).toNat := ⟨rfl, rfl, g1, by rw [Int.toNat_natCast]; exact g2⟩
    have hinv : ∃ q, Ev (fun k => impl_MatInv.f k (L.length : Int) (L.length : Int) M) (0, q) :=
      ⟨_, Ev.congr (fun k => by rw [impl_MatInv.f]) (Ev.bind hf (Ev.pos hco (Ev.now _)))⟩
    obtain ⟨q, hinv⟩ := hinv
    refine Ev.step (fun k => by rw [laws_FnCauchy.l2, if_neg (by omega)]) (Ev.bind hrank ?_)
    refine Ev.pos rfl ?_
    exact Ev.bind hinv (Ev.give rfl)
  | succ d ih =>
    intro i hd hi
    refine Ev.step (fun k => by rw [laws_FnCauchy.l2, if_pos (by omega)]) ?_
    exact cau_l3 rows cols hr hc y0 y1 y2 R L hR hL hn1 hle i (by omega) true (ih (i + 1) (by omega) (by omega)) L.length 0 (by omega) (by omega)
end
section
variable (rows cols : Nat) (hr1 : 1 ≤ rows) (hc1 : 1 ≤ cols) (hr : rows ≤ 12) (hc : cols ≤ 12) (x1 : List Int) (h1 : ∀ x ∈ x1, (Lit.int .u8 x).wf = true) (y0 y1 y2 : Int)
include hr1 hc1 hr hc h1
theorem cau_l1 (R : List Int) (hR : Drawn6 rows R) (hR1 : 1 ≤ R.length) : ∀ (d i : Nat) (L : List Int), 40 - i = d → i ≤ 40 → Drawn6 cols L → L.length ≤ R.length → (i = 0 ∨ 1 ≤ L.length) →
    Ev (fun k => laws_FnCauchy.l1 k x1 cols R L (i : Int) y0 y1 y2 (cauFull rows cols)) true := by
  have out : ∀ (i : Int) (L : List Int), Drawn6 cols L → L.length ≤ R.length → 1 ≤ L.length → Ev (fun k => laws_FnCauchy.j5 k x1 cols R L i false y0 y1 y2 (cauFull rows cols)) true := by
    intro i L hL hle hL1
    refine Ev.step (fun k => by rw [laws_FnCauchy.j5, if_neg (by decide)]) ?_
    have h := cau_l2 rows cols hr hc y0 y1 y2 R L hR hL hL1 hle L.length 0 rfl (by omega)
    rw [Nat.zero_mul, List.take_zero] at h
    exact h
  intro d
  induction d with
  | zero =>
    intro i L hd hi hL hle h0
    exact Ev.step (fun k => by rw [laws_FnCauchy.l1, if_neg (by omega)]) (out _ L hL hle (by omega))
  | succ d ih =>
    intro i L hd hi hL hle h0
    have hw : wrap64 ((i : Int) + 1) = ((i + 1 : Nat) : Int) := by rw [wrap64_id (by omega) (by omega)]; rfl
    have hw2 : wrap64 (20 + (i : Int)) = ((20 + i : Nat) : Int) := by rw [wrap64_id (by omega) (by omega)]; rfl
    have q1 : (i : Int) < 40 := by omega
    refine Ev.step (fun k => by rw [laws_FnCauchy.l1, if_pos q1]) ?_
    by_cases hlt : L.length < R.length
    · rw [show decide ((L.length : Int) < (R.length : Int)) = true from decide_eq_true (by omega)]
      have hb := lwAtN_lt x1 h1 (20 + i)
      have ht : Int.tmod ((lwAtN x1 (20 + i) : Nat) : Int) (cols : Int) = ((lwAtN x1 (20 + i) % cols : Nat) : Int) := by
        rw [Int.tmod_eq_emod_of_nonneg (by omega)]
        rfl
      obtain ⟨a, ha⟩ : ∃ a, lwAtN x1 (20 + i) % cols = a := ⟨_, rfl⟩
      have ha2 : a < cols := by rw [← ha]; exact Nat.mod_lt _ (by omega)
      rw [ha] at ht
      have hLl := hL.len
      have hRl := hR.len
      have q2 : ¬ ((cols : Int) = 0) := by omega
      have q3 : L.length < 17592186044416 := by omega
      refine Ev.step (fun k => by rw [laws_FnCauchy.j5, if_pos rfl, hw2, lwAt x1 h1 (20 + i) (by omega), Option.bind_some, if_neg q2, ht, hw]) ?_
      refine Ev.bind (lwHas L (a : Int) (by omega)) ?_
      by_cases hm : (a : Int) ∈ L
      · refine Ev.pos (decide_eq_true hm) ?_
        exact ih (i + 1) L (by omega) (by omega) hL hle (Or.inr (by cases L with | nil => cases hm | cons x l => simp))
      · refine Ev.neg (by simpa using hm) (Ev.pos q3 ?_)
        exact ih (i + 1) (L ++ [(a : Int)]) (by omega) (by omega) (hL.more (by omega) (by omega) hm (by omega)) (by simp; omega) (Or.inr (by simp))
    · rw [show decide ((L.length : Int) < (R.length : Int)) = false from decide_eq_false (by omega)]
      exact out _ L hL hle (by omega)
theorem cau_l0 : ∀ (d i : Nat) (R : List Int), 20 - i = d → i ≤ 20 → Drawn6 rows R → (i = 0 ∨ 1 ≤ R.length) →
    Ev (fun k => laws_FnCauchy.l0 k x1 rows cols R (i : Int) y0 y1 y2 (cauFull rows cols)) true := by
  have out : ∀ (i : Int) (R : List Int), Drawn6 rows R → 1 ≤ R.length → Ev (fun k => laws_FnCauchy.j3 k x1 rows cols R i false y0 y1 y2 (cauFull rows cols)) true := by
    intro i R hR hR1
    refine Ev.step (fun k => by rw [laws_FnCauchy.j3, if_neg (by decide)]) ?_
    exact cau_l1 rows cols hr1 hc1 hr hc x1 h1 y0 y1 y2 R hR hR1 40 0 [] (by omega) (by omega) ⟨by simp, by simp, by simp⟩ (by simp) (Or.inl rfl)
  intro d
  induction d with
  | zero =>
    intro i R hd hi hR h0
    exact Ev.step (fun k => by rw [laws_FnCauchy.l0, if_neg (by omega)]) (out _ R hR (by omega))
  | succ d ih =>
    intro i R hd hi hR h0
    have hw : wrap64 ((i : Int) + 1) = ((i + 1 : Nat) : Int) := by rw [wrap64_id (by omega) (by omega)]; rfl
    have q1 : (i : Int) < 20 := by omega
    refine Ev.step (fun k => by rw [laws_FnCauchy.l0, if_pos q1]) ?_
    by_cases hlt : R.length < 6
    · rw [show decide ((R.length : Int) < 6) = true from decide_eq_true (by omega)]
      have hb := lwAtN_lt x1 h1 i
      have ht : Int.tmod ((lwAtN x1 i : Nat) : Int) (rows : Int) = ((lwAtN x1 i % rows : Nat) : Int) := by
        rw [Int.tmod_eq_emod_of_nonneg (by omega)]
        rfl
      obtain ⟨a, ha⟩ : ∃ a, lwAtN x1 i % rows = a := ⟨_, rfl⟩
      have ha2 : a < rows := by rw [← ha]; exact Nat.mod_lt _ (by omega)
      rw [ha] at ht
      have q2 : ¬ ((rows : Int) = 0) := by omega
      have q3 : R.length < 17592186044416 := by omega
      refine Ev.step (fun k => by rw [laws_FnCauchy.j3, if_pos rfl, lwAt x1 h1 i (by omega), Option.bind_some, if_neg q2, ht, hw]) ?_
      refine Ev.bind (lwHas R (a : Int) (by omega)) ?_
      by_cases hm : (a : Int) ∈ R
      · refine Ev.pos (decide_eq_true hm) ?_
        exact ih (i + 1) R (by omega) (by omega) hR (Or.inr (by cases R with | nil => cases hm | cons x l => simp))
      · refine Ev.neg (by simpa using hm) (Ev.pos q3 ?_)
        exact ih (i + 1) (R ++ [(a : Int)]) (by omega) (by omega) (hR.more (by omega) (by omega) hm hlt) (Or.inr (by simp))
    · rw [show decide ((R.length : Int) < 6) = false from decide_eq_false (by omega)]
      exact out _ R hR (by omega)
end
theorem FnCauchy : laws_FnCauchy.Pure := by
  intro l0 l1 _ _ g0 _ _ g1
  refine Ev.rounds (Ev.congr (fun k => by rw [laws_FnCauchy.f]) ?_)
  have big : ∀ b : Bool, b = true → Ev (fun k => laws_FnCauchy.j0 k l0 l1 b) true := by
    rintro b rfl
    exact Ev.step (fun k => by rw [laws_FnCauchy.j0, if_pos rfl]) (Ev.now _)
  by_cases hA : (l0.length : Int) > 1048576
  · exact Ev.pos hA (big _ rfl)
  · refine Ev.neg hA ?_
    by_cases hB : (l1.length : Int) > 1048576
    · exact big _ (decide_eq_true hB)
    · rw [show decide ((l1.length : Int) > 1048576) = false from decide_eq_false hB]
      have hs : ∀ (i : Nat) (hi : i < 100000), ∃ a : Nat, a < 12 ∧ laws_lwAt.f l0 (i : Int) = some ((lwAtN l0 i : Nat) : Int) ∧ wrap64 (1 + Int.tmod ((lwAtN l0 i : Nat) : Int) 12) = ((a + 1 : Nat) : Int) := by
        intro i hi
        refine ⟨lwAtN l0 i % 12, Nat.mod_lt _ (by decide), lwAt l0 g0 i hi, ?_⟩
        have hb := lwAtN_lt l0 g0 i
        rw [Int.tmod_eq_emod_of_nonneg (by omega), wrap64_id (by omega) (by omega)]
        omega
      obtain ⟨a, ha, e1, e2⟩ := hs 0 (by omega)
      obtain ⟨b, hb, e3, e4⟩ := hs 1 (by omega)
      have hi := impl_cauchy ((a + 1 : Nat) : Int) ((b + 1 : Nat) : Int)
      have hsp := spec_cauchy ((a + 1 : Nat) : Int) ((b + 1 : Nat) : Int)
      have hC : cauchyOf ((a + 1 : Nat) : Int) ((b + 1 : Nat) : Int) = (0, ((a + 1 : Nat) : Int), ((b + 1 : Nat) : Int), cauFull (a + 1) (b + 1)) := by
        unfold cauchyOf
        rw [if_pos ⟨by omega, by omega, by omega, by omega⟩]
        rfl
      rw [hC] at hi hsp
      have hlen : (cauFull (a + 1) (b + 1)).length ≤ 1048576 := by
        rw [cauFull_length]
        have : (a + 1) * (b + 1) ≤ 12 * 12 := Nat.mul_le_mul (by omega) (by omega)
        omega
      refine Ev.step (fun k => by rw [laws_FnCauchy.j0, if_neg (by decide), show (0 : Int) = ((0 : Nat) : Int) from rfl, e1, Option.bind_some, show (1 : Int) = ((1 : Nat) : Int) from rfl, e3, Option.bind_some]) ?_
      rw [show ((0 : Nat) : Int) = 0 from rfl, show ((1 : Nat) : Int) = 1 from rfl, e2, e4]
      refine Ev.bind hi (Ev.pos rfl (Ev.bind hsp (Ev.bind (lwMatrix _ _ _ hlen) ?_)))
      refine Ev.step (fun k => by rw [laws_FnCauchy.j1, if_neg (by decide)]) ?_
      exact cau_l0 (a + 1) (b + 1) (by omega) (by omega) (by omega) (by omega) l1 g1 _ _ _ 20 0 [] (by omega) (by omega) ⟨by simp, by simp, by simp⟩ (Or.inl rfl)

end Go.Proofs.Ytcpmlelejlmpdaa.Pure
