/- The statement FnExactCodeRow over numbers and lists alone: the program's CodeRow and the reference's make the same row, and what is made is of its own memory. No condition. -/
import Derived.Test.YtcpmlelejlmpdaaQFnExactCodeRowx5
import Derived.Laws.BitsAllLaws
import Derived.Laws.Bits64
import Derived.Test.YtcpmlelejlmpdaaGoodFnExactCodeRow
set_option linter.all false
namespace Go.Proofs.Ytcpmlelejlmpdaa.Pure
open Go.RowKit Go.Proofs.Ytcpmlelejlmpdaa.QFnExactCodeRow Go.Proofs.YtcpmlelejlmpdaaW.PrintWords Go.Proofs.YtcpmlelejlmpdaaW.PrintLast Go.Proofs.YtcpmlelejlmpdaaW.PrintMore

/-! Small lemmas on wraps, rounds and lists. -/
theorem wrap64_id {x : Int} (h0 : -9223372036854775808 ≤ x) (h1 : x < 9223372036854775808) : wrap64 x = x := by unfold wrap64; omega
theorem u64_id {x : Int} (h0 : 0 ≤ x) (h1 : x < 18446744073709551616) : IntKind.u64.wrap x = x := by rw [IntKind.wrap_u64]; omega
theorem Ev.pos {α : Type} {c : Prop} [Decidable c] {f g : Nat → Option α} {r : α} (h : c) (e : Ev f r) : Ev (fun k => if c then f k else g k) r := by simpa [h] using e
theorem Ev.neg {α : Type} {c : Prop} [Decidable c] {f g : Nat → Option α} {r : α} (h : ¬ c) (e : Ev g r) : Ev (fun k => if c then f k else g k) r := by simpa [h] using e
theorem Ev.bindS {α β : Type} {g : Option α} {f : Nat → α → Option β} {a : α} {r : β} (h : g = some a) (e : Ev (fun k => f k a) r) : Ev (fun k => g.bind (f k)) r := by subst h; simpa using e
theorem Ev.give {α : Type} {r s : α} (h : s = r) : Ev (fun _ => some s) r := by subst h; exact Ev.now _
theorem bt_drop (s : ByteArray) (i : Nat) (h : i < s.size) : ∃ c : UInt8, s.data.toList.drop i = c :: s.data.toList.drop (i + 1) ∧ bt s (i : Int) = (c.toNat : Int) := by
  have hl : i < s.data.toList.length := by simpa using h
  refine ⟨s.data.toList[i], List.drop_eq_getElem_cons hl, ?_⟩
  unfold bt
  rw [dif_pos (by simpa using h)]
  simp [ByteArray.getElem_eq_getElem_data]
theorem drop_end (s : ByteArray) (i : Nat) (h : s.size ≤ i) : s.data.toList.drop i = [] := List.drop_eq_nil_of_le (by simpa using h)
theorem size_strOfNums (l : List Int) : (strOfNums l).size = l.length := by
  show (strOfNums l).data.size = l.length
  simp [strOfNums]
theorem i64_range {n : Int} (h : (Lit.int .i64 n).wf = true) : -9223372036854775808 ≤ n ∧ n < 9223372036854775808 := by
  simp only [Lit.wf, IntKind.min, IntKind.max, IntKind.signed, IntKind.bits, Bool.and_eq_true, decide_eq_true_eq, if_true] at h; omega
theorem byte_eq_int (c d : UInt8) : ((c.toNat : Int) = (d.toNat : Int)) ↔ c = d := by
  constructor
  · intro h; exact UInt8.toNat_inj.1 (by omega)
  · rintro rfl; rfl
theorem byte_eq_lit (c : UInt8) (n : Nat) (hn : n < 256) : ((c.toNat : Int) = (n : Int)) ↔ c = UInt8.ofNat n := by
  rw [← byte_eq_int]
  have : (UInt8.ofNat n).toNat = n := by simp [UInt8.toNat_ofNat']; omega
  rw [this]
theorem bt_get (s : ByteArray) (i : Nat) (h : i < s.size) : ∃ c : UInt8, s.data.toList[i]? = some c ∧ bt s (i : Int) = (c.toNat : Int) := by
  obtain ⟨c, e, hb⟩ := bt_drop s i h
  refine ⟨c, ?_, hb⟩
  have : (s.data.toList.drop i)[0]? = some c := by rw [e]; rfl
  simpa using this

/-! Go's bits at numbers from 0 on. -/
theorem bits_xor_i64 (a b : Nat) (ha : a < 9223372036854775808) (hb : b < 9223372036854775808) : Go.bits .xor .i64 (a : Int) (b : Int) = ((a ^^^ b : Nat) : Int) := by
  have hx : a ^^^ b < 2 ^ 63 := Nat.xor_lt_two_pow (by simpa using ha) (by simpa using hb)
  show IntKind.i64.wrap (((BitVec.ofInt 64 (a : Int)) ^^^ (BitVec.ofInt 64 (b : Int))).toNat : Int) = _
  rw [BitVec.toNat_xor, BitVec.ofInt_natCast, BitVec.ofInt_natCast, BitVec.toNat_ofNat, BitVec.toNat_ofNat, Nat.mod_eq_of_lt (by omega : a < 2 ^ 64), Nat.mod_eq_of_lt (by omega : b < 2 ^ 64), IntKind.wrap_i64]
  omega
theorem bits_and_i64 (a b : Nat) (ha : a < 9223372036854775808) (hb : b < 9223372036854775808) : Go.bits .and .i64 (a : Int) (b : Int) = ((a &&& b : Nat) : Int) := by
  have hx : a &&& b < 2 ^ 63 := Nat.and_lt_two_pow _ (by simpa using hb)
  show IntKind.i64.wrap (((BitVec.ofInt 64 (a : Int)) &&& (BitVec.ofInt 64 (b : Int))).toNat : Int) = _
  rw [BitVec.toNat_and, BitVec.ofInt_natCast, BitVec.ofInt_natCast, BitVec.toNat_ofNat, BitVec.toNat_ofNat, Nat.mod_eq_of_lt (by omega : a < 2 ^ 64), Nat.mod_eq_of_lt (by omega : b < 2 ^ 64), IntKind.wrap_i64]
  omega
theorem bits_xor_u8 (a b : Nat) (ha : a < 256) (hb : b < 256) : Go.bits .xor .u8 (a : Int) (b : Int) = ((a ^^^ b : Nat) : Int) := by
  have hx : a ^^^ b < 2 ^ 8 := Nat.xor_lt_two_pow (by simpa using ha) (by simpa using hb)
  show IntKind.u8.wrap (((BitVec.ofInt 8 (a : Int)) ^^^ (BitVec.ofInt 8 (b : Int))).toNat : Int) = _
  rw [BitVec.toNat_xor, BitVec.ofInt_natCast, BitVec.ofInt_natCast, BitVec.toNat_ofNat, BitVec.toNat_ofNat, Nat.mod_eq_of_lt (by omega : a < 2 ^ 8), Nat.mod_eq_of_lt (by omega : b < 2 ^ 8), IntKind.wrap_u8]
  omega
theorem bits_and_u8 (a b : Nat) (ha : a < 256) (hb : b < 256) : Go.bits .and .u8 (a : Int) (b : Int) = ((a &&& b : Nat) : Int) := by
  have hx : a &&& b < 2 ^ 8 := Nat.and_lt_two_pow _ (by simpa using hb)
  show IntKind.u8.wrap (((BitVec.ofInt 8 (a : Int)) &&& (BitVec.ofInt 8 (b : Int))).toNat : Int) = _
  rw [BitVec.toNat_and, BitVec.ofInt_natCast, BitVec.ofInt_natCast, BitVec.toNat_ofNat, BitVec.toNat_ofNat, Nat.mod_eq_of_lt (by omega : a < 2 ^ 8), Nat.mod_eq_of_lt (by omega : b < 2 ^ 8), IntKind.wrap_u8]
  omega
theorem bits_xor_u16 (a b : Nat) (ha : a < 65536) (hb : b < 65536) : Go.bits .xor .u16 (a : Int) (b : Int) = ((a ^^^ b : Nat) : Int) := by
  have hx : a ^^^ b < 2 ^ 16 := Nat.xor_lt_two_pow (by simpa using ha) (by simpa using hb)
  show IntKind.u16.wrap (((BitVec.ofInt 16 (a : Int)) ^^^ (BitVec.ofInt 16 (b : Int))).toNat : Int) = _
  rw [BitVec.toNat_xor, BitVec.ofInt_natCast, BitVec.ofInt_natCast, BitVec.toNat_ofNat, BitVec.toNat_ofNat, Nat.mod_eq_of_lt (by omega : a < 2 ^ 16), Nat.mod_eq_of_lt (by omega : b < 2 ^ 16), IntKind.wrap_u16]
  omega
theorem bits_and_u16 (a b : Nat) (ha : a < 65536) (hb : b < 65536) : Go.bits .and .u16 (a : Int) (b : Int) = ((a &&& b : Nat) : Int) := by
  have hx : a &&& b < 2 ^ 16 := Nat.and_lt_two_pow _ (by simpa using hb)
  show IntKind.u16.wrap (((BitVec.ofInt 16 (a : Int)) &&& (BitVec.ofInt 16 (b : Int))).toNat : Int) = _
  rw [BitVec.toNat_and, BitVec.ofInt_natCast, BitVec.ofInt_natCast, BitVec.toNat_ofNat, BitVec.toNat_ofNat, Nat.mod_eq_of_lt (by omega : a < 2 ^ 16), Nat.mod_eq_of_lt (by omega : b < 2 ^ 16), IntKind.wrap_u16]
  omega
theorem and_top (w a : Nat) (h : a < 2 ^ (w + 1)) : a &&& 2 ^ w = 0 ↔ a < 2 ^ w := by
  have hp : 0 < 2 ^ w := Nat.two_pow_pos w
  have ht : a.testBit w = decide (2 ^ w ≤ a) := by
    rw [Nat.testBit_eq_decide_div_mod_eq]
    have h2 : a / 2 ^ w < 2 := Nat.div_lt_of_lt_mul (by rw [Nat.pow_succ] at h; exact h)
    by_cases hc : 2 ^ w ≤ a
    · have : 1 ≤ a / 2 ^ w := (Nat.le_div_iff_mul_le hp).2 (by omega)
      have e : a / 2 ^ w = 1 := by omega
      simp [e, hc]
    · have e : a / 2 ^ w = 0 := Nat.div_eq_of_lt (by omega)
      simp [e, hc]
  constructor
  · intro h0
    have hb : (a &&& 2 ^ w).testBit w = false := by rw [h0]; simp
    rw [Nat.testBit_and, Nat.testBit_two_pow_self, Bool.and_true, ht] at hb
    simpa using hb
  · intro hl
    apply Nat.eq_of_testBit_eq
    intro i
    rw [Nat.testBit_and, Nat.zero_testBit, Nat.testBit_two_pow]
    by_cases hi : w = i
    · subst hi
      rw [ht]; simp; omega
    · simp [hi]

/-! Products of polynomials over two elements, modulo one of them. -/
def gdbl (top low a : Nat) : Nat := if top ≤ 2 * a then (2 * a - top) ^^^ low else 2 * a
def gmulL (top low : Nat) : Nat → Nat → Nat → Nat → Nat
  | 0, _, _, p => p
  | n + 1, a, b, p => gmulL top low n (gdbl top low a) (b / 2) (if b % 2 = 1 then p ^^^ a else p)
theorem xor_top (w x low : Nat) (h0 : 2 ^ w ≤ x) (h1 : x < 2 * 2 ^ w) (hl : low < 2 ^ w) : x ^^^ (2 ^ w + low) = (x - 2 ^ w) ^^^ low := by
  have hp : 0 < 2 ^ w := Nat.two_pow_pos w
  have hr : (x - 2 ^ w) ^^^ low < 2 ^ w := Nat.xor_lt_two_pow (by omega) hl
  have hd : (x ^^^ (2 ^ w + low)) / 2 ^ w = 0 := by
    rw [Nat.xor_div_two_pow]
    have e1 : x / 2 ^ w = 1 := by
      have := Nat.div_lt_of_lt_mul (m := x) (n := 2 ^ w) (k := 2) (by omega)
      have := (Nat.le_div_iff_mul_le (x := 1) (y := x) hp).2 (by omega)
      omega
    have e2 : (2 ^ w + low) / 2 ^ w = 1 := by rw [Nat.add_div_left _ hp, Nat.div_eq_of_lt hl]
    rw [e1, e2]; rfl
  have hm : (x ^^^ (2 ^ w + low)) % 2 ^ w = (x - 2 ^ w) ^^^ low := by
    rw [Nat.xor_mod_two_pow]
    have e1 : x % 2 ^ w = x - 2 ^ w := by rw [Nat.mod_eq_sub_mod h0, Nat.mod_eq_of_lt (by omega)]
    have e2 : (2 ^ w + low) % 2 ^ w = low := by rw [Nat.add_mod_left, Nat.mod_eq_of_lt hl]
    rw [e1, e2]
  have := Nat.div_add_mod (x ^^^ (2 ^ w + low)) (2 ^ w)
  rw [hd, hm, Nat.mul_zero, Nat.zero_add] at this
  exact this.symm
theorem gdbl_lt (w low a : Nat) (ha : a < 2 ^ w) (hl : low < 2 ^ w) : gdbl (2 ^ w) low a < 2 ^ w := by
  unfold gdbl
  split
  · exact Nat.xor_lt_two_pow (by omega) hl
  · omega
theorem gmulL_lt (w low : Nat) (hl : low < 2 ^ w) : ∀ n a b p, a < 2 ^ w → p < 2 ^ w → gmulL (2 ^ w) low n a b p < 2 ^ w := by
  intro n
  induction n with
  | zero => intro a b p _ hp; exact hp
  | succ n ih =>
    intro a b p ha hp
    rw [gmulL]
    refine ih _ _ _ (gdbl_lt w low a ha hl) ?_
    split
    · exact Nat.xor_lt_two_pow hp ha
    · exact hp
theorem gmulL_zero (top low : Nat) : ∀ n a p, gmulL top low n a 0 p = p := by
  intro n
  induction n with
  | zero => intro a p; rfl
  | succ n ih => intro a p; rw [gmulL]; simpa using ih _ _
def mul8 (a b : Nat) : Nat := gmulL 256 29 8 a b 0
def mul16 (a b : Nat) : Nat := gmulL 65536 4107 16 a b 0
theorem mul8_lt (a b : Nat) (ha : a < 256) : mul8 a b < 256 := gmulL_lt 8 29 (by decide) 8 a b 0 (by simpa using ha) (by decide)
theorem mul16_lt (a b : Nat) (ha : a < 65536) : mul16 a b < 65536 := gmulL_lt 16 4107 (by decide) 16 a b 0 (by simpa using ha) (by decide)

/-! The algebra of these products: linear in each factor, commutative, associative. -/
theorem xor_even (a b : Nat) : (a ^^^ b) / 2 = a / 2 ^^^ b / 2 := by
  have := Nat.xor_div_two_pow (a := a) (b := b) (n := 1)
  simpa using this
theorem xor_odd (a b : Nat) : (a ^^^ b) % 2 = (a % 2) ^^^ (b % 2) := by
  have := Nat.xor_mod_two_pow (a := a) (b := b) (n := 1)
  simpa using this
theorem xor_dbl (a b : Nat) : 2 * (a ^^^ b) = (2 * a) ^^^ (2 * b) := by
  have := Nat.shiftLeft_xor_distrib (a := a) (b := b) (i := 1)
  simp only [Nat.shiftLeft_eq, Nat.pow_one] at this
  rw [Nat.mul_comm 2 (a ^^^ b), this, Nat.mul_comm a 2, Nat.mul_comm b 2]
theorem xor4 (a b c d : Nat) : (a ^^^ b) ^^^ (c ^^^ d) = (a ^^^ c) ^^^ (b ^^^ d) := by
  rw [Nat.xor_assoc, Nat.xor_assoc]
  congr 1
  rw [← Nat.xor_assoc, Nat.xor_comm b c, Nat.xor_assoc]
theorem gdbl_bit (w low a : Nat) (hl : low < 2 ^ (w + 1)) (ha : a < 2 ^ (w + 1)) : gdbl (2 ^ (w + 1)) low a = (2 * a) ^^^ (if a.testBit w then 2 ^ (w + 1) + low else 0) := by
  have hp : 2 ^ (w + 1) = 2 * 2 ^ w := by rw [Nat.pow_succ]; omega
  have hpp : 0 < 2 ^ w := Nat.two_pow_pos w
  have ht : a.testBit w = decide (2 ^ w ≤ a) := by
    rw [Nat.testBit_eq_decide_div_mod_eq]
    have h2 : a / 2 ^ w < 2 := Nat.div_lt_of_lt_mul (by omega)
    by_cases hc : 2 ^ w ≤ a
    · have : 1 ≤ a / 2 ^ w := (Nat.le_div_iff_mul_le hpp).2 (by omega)
      have e : a / 2 ^ w = 1 := by omega
      simp [e, hc]
    · have e : a / 2 ^ w = 0 := Nat.div_eq_of_lt (by omega)
      simp [e, hc]
  unfold gdbl
  by_cases hc : 2 ^ w ≤ a
  · rw [if_pos (by omega), ht, if_pos (by simpa using hc), xor_top (w + 1) (2 * a) low (by omega) (by omega) hl]
  · rw [if_neg (by omega), ht, if_neg (by simpa using hc), Nat.xor_zero]
theorem gdbl_xor (w low a b : Nat) (hl : low < 2 ^ (w + 1)) (ha : a < 2 ^ (w + 1)) (hb : b < 2 ^ (w + 1)) : gdbl (2 ^ (w + 1)) low (a ^^^ b) = gdbl (2 ^ (w + 1)) low a ^^^ gdbl (2 ^ (w + 1)) low b := by
  rw [gdbl_bit w low a hl ha, gdbl_bit w low b hl hb, gdbl_bit w low _ hl (Nat.xor_lt_two_pow ha hb), xor_dbl, Nat.testBit_xor, xor4]
  congr 1
  cases a.testBit w <;> cases b.testBit w <;> simp
theorem gdbl_zero (top low : Nat) (h : 0 < top) : gdbl top low 0 = 0 := by unfold gdbl; rw [if_neg (by omega)]
theorem gmulL_acc (top low : Nat) : ∀ n a b p, gmulL top low n a b p = p ^^^ gmulL top low n a b 0 := by
  intro n
  induction n with
  | zero => intro a b p; simp [gmulL]
  | succ n ih =>
    intro a b p
    rw [gmulL, gmulL, ih _ _ (if b % 2 = 1 then p ^^^ a else p), ih _ _ (if b % 2 = 1 then 0 ^^^ a else 0), ← Nat.xor_assoc]
    congr 1
    split <;> simp
theorem gmulL_succ (top low n a b : Nat) : gmulL top low (n + 1) a b 0 = (if b % 2 = 1 then a else 0) ^^^ gmulL top low n (gdbl top low a) (b / 2) 0 := by
  rw [gmulL, gmulL_acc]
  congr 1
  split <;> simp
section
variable (w low : Nat) (hl : low < 2 ^ (w + 1))
include hl
theorem gm_lt (n a b : Nat) (ha : a < 2 ^ (w + 1)) : gmulL (2 ^ (w + 1)) low n a b 0 < 2 ^ (w + 1) := gmulL_lt (w + 1) low hl n a b 0 ha (Nat.two_pow_pos _)
theorem gm_xor_left : ∀ n a a' b, a < 2 ^ (w + 1) → a' < 2 ^ (w + 1) → gmulL (2 ^ (w + 1)) low n (a ^^^ a') b 0 = gmulL (2 ^ (w + 1)) low n a b 0 ^^^ gmulL (2 ^ (w + 1)) low n a' b 0 := by
  intro n
  induction n with
  | zero => intro a a' b _ _; simp [gmulL]
  | succ n ih =>
    intro a a' b ha ha'
    rw [gmulL_succ, gmulL_succ, gmulL_succ, gdbl_xor w low a a' hl ha ha', ih _ _ _ (gdbl_lt (w + 1) low a ha hl) (gdbl_lt (w + 1) low a' ha' hl), xor4]
    congr 1
    split <;> simp
omit hl in
theorem gm_xor_right : ∀ n a b b', gmulL (2 ^ (w + 1)) low n a (b ^^^ b') 0 = gmulL (2 ^ (w + 1)) low n a b 0 ^^^ gmulL (2 ^ (w + 1)) low n a b' 0 := by
  intro n
  induction n with
  | zero => intro a b b'; simp [gmulL]
  | succ n ih =>
    intro a b b'
    rw [gmulL_succ, gmulL_succ, gmulL_succ, xor_even, ih, xor_odd, xor4]
    congr 1
    rcases Nat.mod_two_eq_zero_or_one b with h | h <;> rcases Nat.mod_two_eq_zero_or_one b' with h' | h' <;> simp [h, h']
/-- A factor doubled doubles the product. -/
theorem gm_dbl_left : ∀ n a b, a < 2 ^ (w + 1) → gmulL (2 ^ (w + 1)) low n (gdbl (2 ^ (w + 1)) low a) b 0 = gdbl (2 ^ (w + 1)) low (gmulL (2 ^ (w + 1)) low n a b 0) := by
  intro n
  induction n with
  | zero =>
    intro a b _
    rw [show gmulL (2 ^ (w + 1)) low 0 a b 0 = 0 from rfl, gdbl_zero _ _ (Nat.two_pow_pos _)]; rfl
  | succ n ih =>
    intro a b ha
    have hg := gdbl_lt (w + 1) low a ha hl
    have hsel : (if b % 2 = 1 then a else 0) < 2 ^ (w + 1) := by
      split
      · exact ha
      · exact Nat.two_pow_pos _
    rw [gmulL_succ, gmulL_succ, ih _ _ hg, gdbl_xor w low _ _ hl hsel (gm_lt w low hl n _ _ hg)]
    congr 1
    split
    · rfl
    · rw [gdbl_zero _ _ (Nat.two_pow_pos _)]
end
/-- Two linear maps that agree at each power of two below 2^n agree below 2^n. -/
theorem linear_ext (f g : Nat → Nat) : ∀ n, (∀ a b, a < 2 ^ n → b < 2 ^ n → f (a ^^^ b) = f a ^^^ f b) → (∀ a b, a < 2 ^ n → b < 2 ^ n → g (a ^^^ b) = g a ^^^ g b) → (∀ i, i < n → f (2 ^ i) = g (2 ^ i)) → ∀ a, a < 2 ^ n → f a = g a := by
  intro n
  induction n with
  | zero =>
    intro hf hg _ a ha
    have : a = 0 := by omega
    subst this
    have h1 := hf 0 0 (by omega) (by omega)
    have h2 := hg 0 0 (by omega) (by omega)
    simp at h1 h2
    rw [h1, h2]
  | succ n ih =>
    intro hf hg hi a ha
    have hp : 2 ^ (n + 1) = 2 * 2 ^ n := by rw [Nat.pow_succ]; omega
    have hpp : 0 < 2 ^ n := Nat.two_pow_pos n
    have low := ih (fun a b ha hb => hf a b (by omega) (by omega)) (fun a b ha hb => hg a b (by omega) (by omega)) (fun i h => hi i (by omega))
    by_cases h : a < 2 ^ n
    · exact low a h
    · have e : a = 2 ^ n ^^^ (a - 2 ^ n) := by
        have := xor_top n a 0 (by omega) (by omega) (by omega)
        rw [Nat.add_zero, Nat.xor_zero] at this
        rw [← this, Nat.xor_comm a, ← Nat.xor_assoc, Nat.xor_self, Nat.zero_xor]
      rw [e, hf _ _ (by omega) (by omega), hg _ _ (by omega) (by omega), hi n (by omega), low _ (by omega)]
/-- What commutes at the powers of two commutes. -/
theorem gm_comm (w low : Nat) (hl : low < 2 ^ (w + 1)) (n : Nat) (hb : ∀ i, i < w + 1 → ∀ j, j < w + 1 → gmulL (2 ^ (w + 1)) low n (2 ^ i) (2 ^ j) 0 = gmulL (2 ^ (w + 1)) low n (2 ^ j) (2 ^ i) 0) :
    ∀ a b, a < 2 ^ (w + 1) → b < 2 ^ (w + 1) → gmulL (2 ^ (w + 1)) low n a b 0 = gmulL (2 ^ (w + 1)) low n b a 0 := by
  intro a b ha hbb
  refine linear_ext (fun a => gmulL (2 ^ (w + 1)) low n a b 0) (fun a => gmulL (2 ^ (w + 1)) low n b a 0) (w + 1) (fun x y hx hy => gm_xor_left w low hl n x y b hx hy) (fun x y _ _ => gm_xor_right w low n b x y) (fun i hi => ?_) a ha
  refine linear_ext (fun b => gmulL (2 ^ (w + 1)) low n (2 ^ i) b 0) (fun b => gmulL (2 ^ (w + 1)) low n b (2 ^ i) 0) (w + 1) (fun x y _ _ => gm_xor_right w low n (2 ^ i) x y) (fun x y hx hy => gm_xor_left w low hl n x y (2 ^ i) hx hy) (fun j hj => hb i hi j hj) b hbb
/-- Associativity, out of commutativity: induction on the rounds of the outer product. -/
theorem gm_assoc (w low : Nat) (hl : low < 2 ^ (w + 1)) (n : Nat) (hc : ∀ a b, a < 2 ^ (w + 1) → b < 2 ^ (w + 1) → gmulL (2 ^ (w + 1)) low n a b 0 = gmulL (2 ^ (w + 1)) low n b a 0) :
    ∀ m a b c, a < 2 ^ (w + 1) → b < 2 ^ (w + 1) → gmulL (2 ^ (w + 1)) low m (gmulL (2 ^ (w + 1)) low n a b 0) c 0 = gmulL (2 ^ (w + 1)) low n a (gmulL (2 ^ (w + 1)) low m b c 0) 0 := by
  intro m
  induction m with
  | zero =>
    intro a b c ha hb
    rw [show gmulL (2 ^ (w + 1)) low 0 (gmulL (2 ^ (w + 1)) low n a b 0) c 0 = 0 from rfl, show gmulL (2 ^ (w + 1)) low 0 b c 0 = 0 from rfl, gmulL_zero]
  | succ m ih =>
    intro a b c ha hb
    have hg := gdbl_lt (w + 1) low b hb hl
    have h1 : gdbl (2 ^ (w + 1)) low (gmulL (2 ^ (w + 1)) low n a b 0) = gmulL (2 ^ (w + 1)) low n a (gdbl (2 ^ (w + 1)) low b) 0 := by
      rw [hc a b ha hb, ← gm_dbl_left w low hl n b a hb, hc _ _ hg ha]
    rw [gmulL_succ, gmulL_succ, h1, ih _ _ _ ha hg, gm_xor_right]
    congr 1
    split
    · rfl
    · rw [gmulL_zero]

theorem mul8_comm (a b : Nat) (ha : a < 256) (hb : b < 256) : mul8 a b = mul8 b a :=
  gm_comm 7 29 (by decide) 8 (by decide +kernel) a b ha hb
theorem mul8_assoc (a b c : Nat) (ha : a < 256) (hb : b < 256) : mul8 (mul8 a b) c = mul8 a (mul8 b c) :=
  gm_assoc 7 29 (by decide) 8 (gm_comm 7 29 (by decide) 8 (by decide +kernel)) 8 a b c ha hb
theorem mul8_xor (a b c : Nat) : mul8 a (b ^^^ c) = mul8 a b ^^^ mul8 a c := gm_xor_right 7 29 8 a b c
theorem mul8_xor_left (a b c : Nat) (ha : a < 256) (hb : b < 256) : mul8 (a ^^^ b) c = mul8 a c ^^^ mul8 b c := gm_xor_left 7 29 (by decide) 8 a b c ha hb
theorem mul8_one (a : Nat) (ha : a < 256) : mul8 a 1 = a := by
  have key : ∀ x : Fin 256, mul8 x.val 1 = x.val := by decide +kernel
  exact key ⟨a, ha⟩

/-! In the field of 256 what is not 0 has one inverse. -/
def inv8L : Nat → Nat → Nat → Nat
  | 0, _, out => out
  | n + 1, s, out => inv8L n (mul8 s s) (mul8 out s)
def inv8 (a : Nat) : Nat := inv8L 7 (mul8 a a) 1
theorem inv8L_lt : ∀ n s out, s < 256 → out < 256 → inv8L n s out < 256 := by
  intro n
  induction n with
  | zero => intro s out _ h; exact h
  | succ n ih => intro s out hs ho; exact ih _ _ (mul8_lt s s hs) (mul8_lt out s ho)
theorem inv8_lt (a : Nat) (h : a < 256) : inv8 a < 256 := inv8L_lt 7 _ _ (mul8_lt a a h) (by decide)
theorem mul8_zero (a : Nat) : mul8 a 0 = 0 := gmulL_zero _ _ _ _ _
theorem zero_mul8 (a : Nat) (h : a < 256) : mul8 0 a = 0 := by rw [mul8_comm 0 a (by decide) h, mul8_zero]
theorem one_mul8 (a : Nat) (h : a < 256) : mul8 1 a = a := by rw [mul8_comm 1 a (by decide) h, mul8_one a h]
theorem mul_inv8 (a : Nat) (h : a < 256) (h0 : a ≠ 0) : mul8 a (inv8 a) = 1 := by
  have key : ∀ x : Fin 256, x.val ≠ 0 → mul8 x.val (inv8 x.val) = 1 := by decide +kernel
  exact key ⟨a, h⟩ h0
theorem inv8_zero : inv8 0 = 0 := by decide +kernel
theorem inv8_one_only (a x : Nat) (h : a < 256) (hx : x < 256) (h1 : mul8 a x = 1) : x = inv8 a := by
  by_cases h0 : a = 0
  · subst h0; rw [zero_mul8 x hx] at h1; exact absurd h1 (by decide)
  · have e := mul_inv8 a h h0
    have hi := inv8_lt a h
    calc x = mul8 x 1 := (mul8_one x hx).symm
      _ = mul8 x (mul8 a (inv8 a)) := by rw [e]
      _ = mul8 (mul8 x a) (inv8 a) := (mul8_assoc x a _ hx h).symm
      _ = mul8 (mul8 a x) (inv8 a) := by rw [mul8_comm x a hx h]
      _ = inv8 a := by rw [h1, one_mul8 _ hi]

theorem spec_in (a top : Int) : spec_l02In.f a top = some (decide (0 ≤ a ∧ a < top)) := by
  unfold spec_l02In.f
  by_cases h : a ≥ 0
  · rw [if_pos h]; simp [show 0 ≤ a from h]
  · rw [if_neg h]; simp [show ¬ 0 ≤ a from h]

theorem spec_times_l0 (w low poly : Nat) (hw : w ≤ 16) (hp : poly = 2 ^ w + low) (hl : low < 2 ^ w) : ∀ (n a b p : Nat), b < 2 ^ n → b < 65536 → a < 2 ^ w → p < 2 ^ w →
    Ev (fun k => spec_l02Times.l0 k (a : Int) (b : Int) (poly : Int) ((2 ^ w : Nat) : Int) (p : Int)) ((gmulL (2 ^ w) low n a b p : Nat) : Int) := by
  have h16 : 2 ^ w ≤ 65536 := Nat.pow_le_pow_right (n := 2) (by decide) hw
  intro n
  induction n with
  | zero =>
    intro a b p hb hb1 ha hpp
    have : b = 0 := by omega
    subst this
    refine Ev.step (fun k => by rw [spec_l02Times.l0, if_neg (by omega)]) (Ev.give ?_)
    rfl
  | succ n ih =>
    intro a b p hb hb1 ha hpp
    by_cases h0 : b = 0
    · subst h0
      rw [gmulL_zero]
      refine Ev.step (fun k => by rw [spec_l02Times.l0, if_neg (by omega)]) (Ev.give ?_)
      rfl
    · have hd : wrap64 (Int.tdiv (b : Int) 2) = ((b / 2 : Nat) : Int) := by
        rw [Int.tdiv_eq_ediv_of_nonneg (by omega), wrap64_id (by omega) (by omega)]; rfl
      have hm : Int.tmod (b : Int) 2 = ((b % 2 : Nat) : Int) := by rw [Int.tmod_eq_emod_of_nonneg (by omega)]; rfl
      have ha2 : wrap64 ((a : Int) * 2) = ((2 * a : Nat) : Int) := by rw [wrap64_id (by omega) (by omega)]; omega
      have hx : Go.bits .xor .i64 ((2 * a : Nat) : Int) (poly : Int) = (((2 * a) ^^^ poly : Nat) : Int) := bits_xor_i64 _ _ (by omega) (by omega)
      have hpx : Go.bits .xor .i64 (p : Int) (a : Int) = ((p ^^^ a : Nat) : Int) := bits_xor_i64 _ _ (by omega) (by omega)
      have hb2 : b / 2 < 2 ^ n := by rw [Nat.pow_succ] at hb; exact Nat.div_lt_of_lt_mul (by omega)
      have hxa : p ^^^ a < 2 ^ w := Nat.xor_lt_two_pow hpp ha
      have hg := gdbl_lt w low a ha hl
      rw [gmulL]
      by_cases hodd : b % 2 = 1
      · rw [if_pos hodd]
        by_cases ht : 2 ^ w ≤ 2 * a
        · have hga : (2 * a) ^^^ poly = gdbl (2 ^ w) low a := by unfold gdbl; rw [if_pos ht, hp, xor_top w _ _ ht (by omega) hl]
          refine Ev.step (fun k => by rw [spec_l02Times.l0, if_pos (by omega), hm, if_pos (by omega), ha2, if_pos (by omega), hd, hx, hpx, hga]) ?_
          exact ih _ _ _ hb2 (by omega) hg hxa
        · have hga : 2 * a = gdbl (2 ^ w) low a := by unfold gdbl; rw [if_neg ht]
          refine Ev.step (fun k => by rw [spec_l02Times.l0, if_pos (by omega), hm, if_pos (by omega), ha2, if_neg (by omega), hd, hpx, hga]) ?_
          exact ih _ _ _ hb2 (by omega) hg hxa
      · rw [if_neg hodd]
        by_cases ht : 2 ^ w ≤ 2 * a
        · have hga : (2 * a) ^^^ poly = gdbl (2 ^ w) low a := by unfold gdbl; rw [if_pos ht, hp, xor_top w _ _ ht (by omega) hl]
          refine Ev.step (fun k => by rw [spec_l02Times.l0, if_pos (by omega), hm, if_neg (by omega), ha2, if_pos (by omega), hd, hx, hga]) ?_
          exact ih _ _ _ hb2 (by omega) hg hpp
        · have hga : 2 * a = gdbl (2 ^ w) low a := by unfold gdbl; rw [if_neg ht]
          refine Ev.step (fun k => by rw [spec_l02Times.l0, if_pos (by omega), hm, if_neg (by omega), ha2, if_neg (by omega), hd, hga]) ?_
          exact ih _ _ _ hb2 (by omega) hg hpp

/-- What Mul8 answers. -/
def Mul8of (a b : Int) : Int := if (0 ≤ a ∧ a < 256) ∧ (0 ≤ b ∧ b < 256) then ((mul8 a.toNat b.toNat : Nat) : Int) else -1
theorem spec_mul8 (a b : Int) : Ev (fun k => spec_Mul8.f k a b) (Mul8of a b) := by
  unfold Mul8of
  by_cases ha : 0 ≤ a ∧ a < 256
  · by_cases hb : 0 ≤ b ∧ b < 256
    · rw [if_pos ⟨ha, hb⟩]
      refine Ev.congr (fun k => by rw [spec_Mul8.f, spec_in, Option.bind_some, if_pos (by simp [ha.1, ha.2]), spec_in, Option.bind_some, if_pos (by simp [hb.1, hb.2])]) ?_
      obtain ⟨m, rfl⟩ := Int.eq_ofNat_of_zero_le ha.1
      obtain ⟨n, rfl⟩ := Int.eq_ofNat_of_zero_le hb.1
      exact Ev.bind (spec_times_l0 8 29 285 (by decide) (by decide) (by decide) 8 m n 0 (by simp only [Nat.reducePow]; omega) (by omega) (by simp only [Nat.reducePow]; omega) (by decide)) (Ev.give rfl)
    · rw [if_neg (fun h => hb h.2)]
      refine Ev.congr (fun k => by rw [spec_Mul8.f, spec_in, Option.bind_some, if_pos (by simp [ha.1, ha.2]), spec_in, Option.bind_some, if_neg (by simpa using fun h => by omega)]) (Ev.give rfl)
  · rw [if_neg (fun h => ha h.1)]
    refine Ev.congr (fun k => by rw [spec_Mul8.f, spec_in, Option.bind_some, if_neg (by simpa using fun h => by omega)]) (Ev.give rfl)

theorem Mul8of_nat (a b : Nat) (ha : a < 256) (hb : b < 256) : Mul8of (a : Int) (b : Int) = ((mul8 a b : Nat) : Int) := by
  unfold Mul8of
  rw [if_pos ⟨⟨by omega, by omega⟩, by omega, by omega⟩]
  rfl

/-- What Inv8 answers. -/
def Inv8of (a : Int) : Int := if 0 ≤ a ∧ a < 256 then ((inv8 a.toNat : Nat) : Int) else -1

theorem spec_inv8_l0 (a : Nat) (ha : a < 256) : ∀ (d x : Nat), 256 - x = d → 1 ≤ x → x ≤ 256 → (∀ y, y < x → 1 ≤ y → mul8 a y ≠ 1) → Ev (fun k => spec_Inv8.l0 k (a : Int) (x : Int)) ((inv8 a : Nat) : Int) := by
  intro d
  induction d with
  | zero =>
    intro x hd h1 hx hno
    have h0 : a = 0 := by
      by_cases h0 : a = 0
      · exact h0
      · have hi := inv8_lt a ha
        have he := mul_inv8 a ha h0
        have hi0 : inv8 a ≠ 0 := fun h => by rw [h, mul8_zero] at he; exact absurd he (by decide)
        exact absurd he (hno (inv8 a) (by omega) (by omega))
    subst h0
    rw [inv8_zero]
    refine Ev.step (fun k => by rw [spec_Inv8.l0, if_neg (by omega)]) (Ev.give ?_)
    rfl
  | succ d ih =>
    intro x hd h1 hx hno
    have hm := spec_mul8 (a : Int) (x : Int)
    rw [Mul8of_nat a x ha (by omega)] at hm
    refine Ev.step (fun k => by rw [spec_Inv8.l0, if_pos (by omega)]) ?_
    refine Ev.bind hm ?_
    by_cases he : mul8 a x = 1
    · refine Ev.pos (by omega) (Ev.give ?_)
      rw [inv8_one_only a x ha (by omega) he]
    · refine Ev.neg (by omega) ?_
      have := ih (x + 1) (by omega) (by omega) (by omega) (fun y hy hy1 => by
        by_cases e : y = x
        · subst e; exact he
        · exact hno y (by omega) hy1)
      rw [wrap64_id (by omega) (by omega)]
      exact this
theorem spec_inv8 (a : Int) : Ev (fun k => spec_Inv8.f k a) (Inv8of a) := by
  unfold Inv8of
  by_cases ha : 0 ≤ a ∧ a < 256
  · rw [if_pos ha]
    refine Ev.congr (fun k => by rw [spec_Inv8.f, spec_in, Option.bind_some, if_pos (by simp [ha.1, ha.2])]) ?_
    obtain ⟨m, rfl⟩ := Int.eq_ofNat_of_zero_le ha.1
    exact spec_inv8_l0 m (by omega) 255 1 (by omega) (by omega) (by omega) (fun y hy hy1 => by omega)
  · rw [if_neg ha]
    refine Ev.congr (fun k => by rw [spec_Inv8.f, spec_in, Option.bind_some, if_neg (by simpa using fun h => by omega)]) (Ev.now _)

/-! Lists of numbers: copied, held against one another, counted. -/
theorem set_prefix_id {α : Type} (z : α) (l : List α) (i : Nat) (h : i < l.length) (x : α) (hx : l[i]? = some x) :
    (l.take i ++ List.replicate (l.length - i) z).set i x = l.take (i + 1) ++ List.replicate (l.length - (i + 1)) z := by
  have h1 : (l.take i).length = i := by simp; omega
  rw [List.set_append_right _ _ (by omega), h1, Nat.sub_self]
  have h2 : List.replicate (l.length - i) z = z :: List.replicate (l.length - (i + 1)) z := by
    rw [show l.length - i = (l.length - (i + 1)) + 1 by omega]; rfl
  rw [h2, List.set_cons_zero, List.take_add_one, hx]
  simp
theorem rd_at (l : List Int) (i : Nat) (h : i < l.length) : rd l (i : Int) = l[i] := by
  unfold rd; rw [Int.toNat_natCast, List.getD_eq_getElem?_getD, List.getElem?_eq_getElem h]; rfl
theorem eqInt64S_l0 (l : List Int) (hl : l.length ≤ 1048576) : ∀ (d i : Nat), l.length - i = d → i ≤ l.length → Ev (fun k => laws_eqInt64S.l0 k l l (i : Int)) true := by
  intro d
  induction d with
  | zero =>
    intro i hd hi
    exact Ev.step (fun k => by rw [laws_eqInt64S.l0, if_neg (by omega)]) (Ev.now _)
  | succ d ih =>
    intro i hd hi
    have hw : wrap64 ((i : Int) + 1) = ((i + 1 : Nat) : Int) := by rw [wrap64_id (by omega) (by omega)]; rfl
    refine Ev.step (fun k => by rw [laws_eqInt64S.l0, if_pos (by omega), if_pos (by omega), if_pos (by omega), if_pos rfl, hw]) ?_
    exact ih (i + 1) (by omega) (by omega)
theorem eqInt64S (l : List Int) (hl : l.length ≤ 1048576) : Ev (fun k => laws_eqInt64S.f k l l) true := by
  refine Ev.congr (fun k => by rw [laws_eqInt64S.f, if_pos rfl]) ?_
  exact eqInt64S_l0 l hl l.length 0 rfl (by omega)

/-! A list that is written over with rising numbers, and read again. -/
def markL (a : Int) (n : Nat) : List Int := (List.range n).map fun i : Nat => a + (i : Int)
theorem markL_length (a : Int) (n : Nat) : (markL a n).length = n := by simp [markL]
theorem markL_succ (a : Int) (n : Nat) : markL a (n + 1) = markL a n ++ [a + (n : Int)] := by unfold markL; rw [List.range_succ, List.map_append]; rfl
theorem markL_rd (a : Int) (n i : Nat) (h : i < n) : rd (markL a n) (i : Int) = a + (i : Int) := by
  rw [rd_at _ i (by rw [markL_length]; exact h)]
  simp [markL]
theorem markInt64S_l0 (l : List Int) (hl : l.length ≤ 1048576) (a : Int) (ha : 0 ≤ a ∧ a ≤ 1000000000) : ∀ (d i : Nat), l.length - i = d → i ≤ l.length →
    Ev (fun k => laws_markInt64S.l0 k (markL a i ++ l.drop i) (a + (i : Int)) (i : Int)) (a + (l.length : Int), markL a l.length) := by
  intro d
  induction d with
  | zero =>
    intro i hd hi
    have e : i = l.length := by omega
    subst e
    refine Ev.step (fun k => by rw [laws_markInt64S.l0, if_neg (by rw [List.length_append, markL_length, List.length_drop]; omega)]) (Ev.give ?_)
    rw [List.drop_length, List.append_nil]
  | succ d ih =>
    intro i hd hi
    have hlt : i < l.length := by omega
    have hs : (markL a i ++ l.drop i).set i (a + (i : Int)) = markL a (i + 1) ++ l.drop (i + 1) := by
      rw [List.set_append_right _ _ (by rw [markL_length]; exact Nat.le_refl i), markL_length, Nat.sub_self, List.drop_eq_getElem_cons hlt, List.set_cons_zero, markL_succ, List.append_assoc]
      rfl
    refine Ev.step (fun k => by rw [laws_markInt64S.l0, if_pos (by rw [List.length_append, markL_length, List.length_drop]; omega), if_pos (by omega), Int.toNat_natCast, hs, wrap64_id (x := a + (i : Int) + 1) (by omega) (by omega), wrap64_id (x := (i : Int) + 1) (by omega) (by omega), show a + (i : Int) + 1 = a + ((i + 1 : Nat) : Int) by omega]) ?_
    exact ih (i + 1) (by omega) (by omega)
theorem markInt64S (l : List Int) (hl : l.length ≤ 1048576) (a : Int) (ha : 0 ≤ a ∧ a ≤ 1000000000) : Ev (fun k => laws_markInt64S.f k l a) (a + (l.length : Int), markL a l.length) := by
  have := markInt64S_l0 l hl a ha l.length 0 (by omega) (by omega)
  rw [show a + ((0 : Nat) : Int) = a by omega] at this
  exact Ev.congr (fun k => by rw [laws_markInt64S.f]; rfl) this
theorem heldInt64S_l0 (n : Nat) (hn : n ≤ 1048576) (a : Int) (ha : 0 ≤ a ∧ a ≤ 1000000000) : ∀ (d i : Nat), n - i = d → i ≤ n →
    Ev (fun k => laws_heldInt64S.l0 k (markL a n) (a + (i : Int)) (i : Int)) (a + (n : Int)) := by
  intro d
  induction d with
  | zero =>
    intro i hd hi
    have e : i = n := by omega
    subst e
    exact Ev.step (fun k => by rw [laws_heldInt64S.l0, if_neg (by rw [markL_length]; omega)]) (Ev.now _)
  | succ d ih =>
    intro i hd hi
    refine Ev.step (fun k => by rw [laws_heldInt64S.l0, if_pos (by rw [markL_length]; omega), if_pos (by omega), markL_rd a n i (by omega), if_pos rfl, wrap64_id (x := a + (i : Int) + 1) (by omega) (by omega), wrap64_id (x := (i : Int) + 1) (by omega) (by omega), show a + (i : Int) + 1 = a + ((i + 1 : Nat) : Int) by omega]) ?_
    exact ih (i + 1) (by omega) (by omega)
theorem heldInt64S (n : Nat) (hn : n ≤ 1048576) (a : Int) (ha : 0 ≤ a ∧ a ≤ 1000000000) : Ev (fun k => laws_heldInt64S.f k (markL a n) a) (a + (n : Int)) := by
  have := heldInt64S_l0 n hn a ha n 0 (by omega) (by omega)
  rw [show a + ((0 : Nat) : Int) = a by omega] at this
  exact Ev.congr (fun k => by rw [laws_heldInt64S.f]; rfl) this

/-- What CodeFault answers. -/
def codeFaultOf (K M G : Int) : Int := if 1 ≤ K ∧ K ≤ 32 ∧ 0 ≤ M ∧ M ≤ 16 ∧ 0 ≤ G ∧ G ≤ K ∧ K + M + G ≤ 64 then 0 else 1
theorem spec_codeFault (a b c : Int) : spec_CodeFault.f a b c = some (codeFaultOf a b c) := by
  unfold spec_CodeFault.f codeFaultOf
  by_cases h1 : a < 1
  · rw [if_pos h1, if_neg (by omega)]
  · rw [if_neg h1]
    by_cases h2 : a > 32
    · rw [if_pos h2, if_neg (by omega)]
    · rw [if_neg h2]
      by_cases h3 : b < 0
      · rw [if_pos h3, if_neg (by omega)]
      · rw [if_neg h3]
        by_cases h4 : b > 16
        · rw [if_pos h4, if_neg (by omega)]
        · rw [if_neg h4]
          by_cases h5 : c < 0
          · rw [if_pos h5, if_neg (by omega)]
          · rw [if_neg h5]
            by_cases h6 : c > a
            · rw [if_pos h6, if_neg (by omega)]
            · rw [if_neg h6, wrap64_id (x := a + b) (by omega) (by omega), wrap64_id (x := a + b + c) (by omega) (by omega)]
              by_cases h7 : a + b + c > 64
              · rw [if_pos h7, if_neg (by omega)]
              · rw [if_neg h7, if_pos (by omega)]
theorem impl_codeFault (a b c : Int) : impl_CodeFault.f a b c = some (codeFaultOf a b c) := spec_codeFault a b c
theorem codeFault_zero {a b c : Int} (h : codeFaultOf a b c = 0) : 1 ≤ a ∧ a ≤ 32 ∧ 0 ≤ b ∧ b ≤ 16 ∧ 0 ≤ c ∧ c ≤ a ∧ a + b + c ≤ 64 := by
  unfold codeFaultOf at h
  by_cases hc : 1 ≤ a ∧ a ≤ 32 ∧ 0 ≤ b ∧ b ≤ 16 ∧ 0 ≤ c ∧ c ≤ a ∧ a + b + c ≤ 64
  · exact hc
  · rw [if_neg hc] at h; exact absurd h (by decide)

/-! The table's inverse is the field's. -/
theorem tabInv_field (a : Nat) (h : a < 256) : tabInv a = inv8 a := by
  have key : ∀ x : Fin 256, tabInv x.val = inv8 x.val := by decide +kernel
  exact key ⟨a, h⟩
theorem inv8_ev (m : Nat) (h : m < 256) : Ev (fun k => spec_Inv8.f k (m : Int)) ((inv8 m : Nat) : Int) := by
  have hinv := spec_inv8 (m : Int)
  unfold Inv8of at hinv
  rwa [if_pos ⟨by omega, by omega⟩, Int.toNat_natCast] at hinv
theorem xr_lt (i j : Nat) (hi : i < 64) (hj : j < 64) : xr i j < 64 := Nat.xor_lt_two_pow (n := 6) (by omega) (by omega)
theorem xr_bits (i j : Nat) (hi : i < 64) (hj : j < 64) : Go.bits .xor .i64 (i : Int) (j : Int) = ((xr i j : Nat) : Int) := bits_xor_i64 i j (by omega) (by omega)

/-- What CodeRow answers. -/
def codeRowOf (K M G i : Int) : List Int := if codeFaultOf K M G = 0 ∧ 0 ≤ i ∧ i < K + M + G then rowL K.toNat M.toNat G.toNat i.toNat else []
theorem codeRowOf_len (K M G i : Int) : (codeRowOf K M G i).length ≤ 32 := by
  unfold codeRowOf
  split
  · rename_i h
    have := codeFault_zero h.1
    rw [rowL_len]; omega
  · simp
def pre (L : List Int) (K j : Nat) : List Int := L.take j ++ List.replicate (K - j) 0
theorem pre_len (L : List Int) (K j : Nat) (hL : L.length = K) (hj : j ≤ K) : (pre L K j).length = K := by unfold pre; rw [List.length_append, List.length_take, List.length_replicate, hL]; omega
theorem pre_zero (L : List Int) (K : Nat) : pre L K 0 = List.replicate K 0 := by unfold pre; simp
theorem pre_full (L : List Int) (K : Nat) (hL : L.length = K) : pre L K K = L := by unfold pre; rw [Nat.sub_self, List.replicate_zero, List.append_nil, List.take_of_length_le (by omega)]
theorem pre_set (L : List Int) (K j : Nat) (hL : L.length = K) (hj : j < K) (x : Int) (hx : L[j]? = some x) : (pre L K j).set j x = pre L K (j + 1) := by
  have h := set_prefix_id (0 : Int) L j (by omega) x hx
  rw [hL] at h
  exact h
theorem pre_skip (L : List Int) (K j : Nat) (hL : L.length = K) (hj : j < K) (hx : L[j]? = some 0) : pre L K j = pre L K (j + 1) := by
  unfold pre
  rw [List.take_add_one, hx, show K - j = (K - (j + 1)) + 1 by omega, List.replicate_succ, List.append_assoc]
  rfl
section
variable (K M G i : Nat) (hK1 : 1 ≤ K) (hK : K ≤ 32) (hM : M ≤ 16) (hG : G ≤ 32)
include hK hM hG
theorem spec_row_l0 (h1 : ¬ i < K) (h2 : i < K + M) : ∀ (d j : Nat), K - j = d → j ≤ K → Ev (fun k => spec_CodeRow.l0 k (i : Int) (pre (rowL K M G i) K j) (j : Int) (K : Int) (M : Int) (G : Int)) (rowL K M G i) := by
  intro d
  induction d with
  | zero =>
    intro j hd hj
    have e : j = K := by omega
    subst e
    refine Ev.step (fun k => by rw [spec_CodeRow.l0, if_neg (by omega)]) (Ev.give ?_)
    exact pre_full _ _ (rowL_len _ _ _ _)
  | succ d ih =>
    intro j hd hj
    have hlt : j < K := by omega
    have hx : (rowL K M G i)[j]? = some ((inv8 (xr i j) : Nat) : Int) := by
      rw [rowL_get _ _ _ _ _ hlt]
      unfold rowC
      rw [if_neg h1, if_pos h2, tabInv_field _ (by have := xr_lt i j (by omega) (by omega); omega)]
    have hl := pre_len (rowL K M G i) K j (rowL_len _ _ _ _) hj
    refine Ev.step (fun k => by rw [spec_CodeRow.l0, if_pos (by omega), xr_bits i j (by omega) (by omega)]) ?_
    refine Ev.bind (inv8_ev _ (by have := xr_lt i j (by omega) (by omega); omega)) (Ev.pos (by omega) (Ev.pos (by omega) ?_))
    rw [Int.toNat_natCast, pre_set _ _ _ (rowL_len _ _ _ _) hlt _ hx, wrap64_id (x := (j : Int) + 1) (by omega) (by omega)]
    exact ih (j + 1) (by omega) (by omega)
theorem spec_row_l1 (h1 : ¬ i < K) (h2 : ¬ i < K + M) (h3 : i < K + M + G) : ∀ (d j : Nat), K - j = d → j ≤ K → Ev (fun k => spec_CodeRow.l1 k (i : Int) (pre (rowL K M G i) K j) (j : Int) (K : Int) (M : Int) (G : Int)) (rowL K M G i) := by
  intro d
  induction d with
  | zero =>
    intro j hd hj
    have e : j = K := by omega
    subst e
    refine Ev.step (fun k => by rw [spec_CodeRow.l1, if_neg (by omega)]) (Ev.give ?_)
    exact pre_full _ _ (rowL_len _ _ _ _)
  | succ d ih =>
    intro j hd hj
    have hlt : j < K := by omega
    have hx := rowL_get K M G i j hlt
    unfold rowC at hx
    rw [if_neg h1, if_neg h2] at hx
    have hl := pre_len (rowL K M G i) K j (rowL_len _ _ _ _) hj
    have hm : Int.tmod (j : Int) (G : Int) = ((j % G : Nat) : Int) := rfl
    have hw : wrap64 (wrap64 ((i : Int) - (K : Int)) - (M : Int)) = ((i - K - M : Nat) : Int) := by rw [wrap64_id (x := (i : Int) - (K : Int)) (by omega) (by omega), wrap64_id (by omega) (by omega)]; omega
    have h := ih (j + 1) (by omega) (by omega)
    refine Ev.step (fun k => by rw [spec_CodeRow.l1, if_pos (by omega), if_neg (by omega), hm, hw, wrap64_id (x := (j : Int) + 1) (by omega) (by omega)]) ?_
    by_cases e : j % G = i - K - M
    · rw [if_pos e] at hx
      refine Ev.pos (by omega) (Ev.pos (by omega) (Ev.pos (by omega) ?_))
      rw [Int.toNat_natCast, pre_set _ _ _ (rowL_len _ _ _ _) hlt _ hx]
      exact h
    · rw [if_neg e] at hx
      refine Ev.neg (by omega) ?_
      rw [pre_skip _ _ _ (rowL_len _ _ _ _) hlt hx]
      exact h
include hK1 in
theorem spec_row_j0 (h : i < K + M + G) : Ev (fun k => spec_CodeRow.j0 k (i : Int) false (K : Int) (M : Int) (G : Int)) (rowL K M G i) := by
  refine Ev.step (fun k => by rw [spec_CodeRow.j0, if_neg (by decide), if_pos (by omega), if_pos (by omega), Option.bind_some, Int.toNat_natCast, List.length_replicate]) ?_
  by_cases h1 : i < K
  · refine Ev.pos (by omega) (Ev.pos (by omega) (Ev.pos (by omega) (Ev.give ?_)))
    rw [Int.toNat_natCast]
    exact row_one K M G i h1
  · refine Ev.neg (by omega) ?_
    rw [wrap64_id (x := (K : Int) + (M : Int)) (by omega) (by omega), ← pre_zero (rowL K M G i) K]
    by_cases h2 : i < K + M
    · exact Ev.pos (by omega) (spec_row_l0 K M G i hK hM hG h1 h2 K 0 (by omega) (by omega))
    · exact Ev.neg (by omega) (spec_row_l1 K M G i hK hM hG h1 h2 h K 0 (by omega) (by omega))
end
theorem spec_codeRow (K M G i : Int) : Ev (fun k => spec_CodeRow.f k K M G i) (codeRowOf K M G i) := by
  refine Ev.congr (fun k => by rw [spec_CodeRow.f, spec_codeFault, Option.bind_some]) ?_
  unfold codeRowOf
  have none_ : Ev (fun k => spec_CodeRow.j0 k i true K M G) [] := Ev.step (fun k => by rw [spec_CodeRow.j0, if_pos rfl]) (Ev.now _)
  by_cases h0 : codeFaultOf K M G = 0
  · obtain ⟨b1, b2, b3, b4, b5, b6, b7⟩ := codeFault_zero h0
    refine Ev.pos h0 ?_
    by_cases h1 : i < 0
    · rw [if_neg (fun h => by omega)]
      exact Ev.pos h1 none_
    · refine Ev.neg h1 ?_
      rw [wrap64_id (x := K + M) (by omega) (by omega), wrap64_id (x := K + M + G) (by omega) (by omega)]
      by_cases h2 : i < K + M + G
      · rw [if_pos ⟨h0, by omega, h2⟩, show decide (i ≥ K + M + G) = false from decide_eq_false (by omega)]
        obtain ⟨K, rfl⟩ := Int.eq_ofNat_of_zero_le (show 0 ≤ K by omega)
        obtain ⟨M, rfl⟩ := Int.eq_ofNat_of_zero_le b3
        obtain ⟨G, rfl⟩ := Int.eq_ofNat_of_zero_le b5
        obtain ⟨i, rfl⟩ := Int.eq_ofNat_of_zero_le (show 0 ≤ i by omega)
        exact spec_row_j0 K M G i (by omega) (by omega) (by omega) (by omega) (by omega)
      · rw [if_neg (fun h => h2 h.2.2), show decide (i ≥ K + M + G) = true from decide_eq_true (by omega)]
        exact none_
  · rw [if_neg (fun h => h0 h.1)]
    exact Ev.neg h0 none_
theorem rowC_range (K M G i j : Nat) (hi : i < 64) (hj : j < 32) : 0 ≤ rowC K M G i j ∧ rowC K M G i j < 256 := by
  unfold rowC
  split
  · split <;> omega
  · split
    · rw [tabInv_field _ (by have := xr_lt i j hi (by omega); omega)]
      have := inv8_lt (xr i j) (by have := xr_lt i j hi (by omega); omega)
      omega
    · split <;> omega
theorem impl_codeRow_l0 (l : List Int) (hl : l.length ≤ 64) (hr : ∀ x ∈ l, 0 ≤ x ∧ x < 256) : ∀ (d j : Nat), l.length - j = d → j ≤ l.length → Ev (fun k => impl_CodeRow.l0 k (l.take j) l (l.length : Int) (j : Int)) l := by
  intro d
  induction d with
  | zero =>
    intro j hd hj
    refine Ev.step (fun k => by rw [impl_CodeRow.l0, if_neg (by omega)]) (Ev.give ?_)
    exact List.take_of_length_le (by omega)
  | succ d ih =>
    intro j hd hj
    have hlt : j < l.length := by omega
    have hv := hr l[j] (List.getElem_mem hlt)
    refine Ev.step (fun k => by rw [impl_CodeRow.l0, if_pos (by omega), if_pos (by omega), if_pos (by omega), if_pos (by rw [List.length_take]; omega), rd_at l j hlt, wrap64_id (x := l[j]) (by omega) (by omega), wrap64_id (x := (j : Int) + 1) (by omega) (by omega)]) ?_
    have h := ih (j + 1) (by omega) (by omega)
    rw [List.take_add_one, List.getElem?_eq_getElem hlt] at h
    exact h
theorem impl_codeSize (a b c : Int) : impl_CodeSize.f a b c = some (if codeFaultOf a b c = 0 then a + b + c else 0) := by
  unfold impl_CodeSize.f
  rw [impl_codeFault, Option.bind_some]
  by_cases h : codeFaultOf a b c = 0
  · obtain ⟨b1, b2, b3, b4, b5, b6, b7⟩ := codeFault_zero h
    rw [if_pos h, if_pos h, wrap64_id (x := a + b) (by omega) (by omega), wrap64_id (x := a + b + c) (by omega) (by omega)]
  · rw [if_neg h, if_neg h]
theorem plant_of {K M G : Int} (h0 : codeFaultOf K M G = 0) : impl_newPlant.f K M G = some (plantNo K M G) ∧ pK (plantNo K M G) = K.toNat ∧ pM (plantNo K M G) = M.toNat ∧ pG (plantNo K M G) = G.toNat := by
  obtain ⟨b1, b2, b3, b4, b5, b6, b7⟩ := codeFault_zero h0
  refine ⟨?_, ?_⟩
  · unfold impl_newPlant.f
    rw [if_pos ⟨b1, b2, b3, b4, b5, by omega⟩]
  · obtain ⟨K, rfl⟩ := Int.eq_ofNat_of_zero_le (show 0 ≤ K by omega)
    obtain ⟨M, rfl⟩ := Int.eq_ofNat_of_zero_le b3
    obtain ⟨G, rfl⟩ := Int.eq_ofNat_of_zero_le b5
    exact plantNo_of K M G (by omega) (by omega) (by omega)
theorem plant_row {K M G i : Int} (h0 : codeFaultOf K M G = 0) (hi0 : 0 ≤ i) (hi : i < K + M + G) : impl_plant_row.f (plantNo K M G) i = some (rowL K.toNat M.toNat G.toNat i.toNat) := by
  obtain ⟨_, e1, e2, e3⟩ := plant_of h0
  obtain ⟨b1, b2, b3, b4, b5, b6, b7⟩ := codeFault_zero h0
  unfold impl_plant_row.f
  rw [e1, e2, e3, if_pos ⟨hi0, by omega⟩]

theorem impl_codeRow (K M G i : Int) : Ev (fun k => impl_CodeRow.f k K M G i) (codeRowOf K M G i) := by
  refine Ev.congr (fun k => by rw [impl_CodeRow.f, impl_codeFault, Option.bind_some]) ?_
  unfold codeRowOf
  have none_ : Ev (fun k => impl_CodeRow.j0 k i true K M G) [] := Ev.step (fun k => by rw [impl_CodeRow.j0, if_pos rfl]) (Ev.now _)
  by_cases h0 : codeFaultOf K M G = 0
  · obtain ⟨b1, b2, b3, b4, b5, b6, b7⟩ := codeFault_zero h0
    refine Ev.pos h0 ?_
    by_cases h1 : i < 0
    · rw [if_neg (fun h => by omega)]
      exact Ev.pos h1 none_
    · refine Ev.neg h1 ?_
      refine Ev.congr (fun k => by rw [impl_codeSize, if_pos h0, Option.bind_some]) ?_
      by_cases h2 : i < K + M + G
      · rw [if_pos ⟨h0, by omega, h2⟩, show decide (i ≥ K + M + G) = false from decide_eq_false (by omega)]
        refine Ev.step (fun k => by rw [impl_CodeRow.j0, if_neg (by decide)]) ?_
        refine Ev.bindS (plant_of h0).1 (Ev.bindS (plant_row h0 (by omega) h2) ?_)
        have hl := rowL_len K.toNat M.toNat G.toNat i.toNat
        have h := impl_codeRow_l0 (rowL K.toNat M.toNat G.toNat i.toNat) (by omega) (fun x hx => by
          obtain ⟨j, hj, rfl⟩ := List.mem_map.1 (show x ∈ (List.range K.toNat).map (rowC K.toNat M.toNat G.toNat i.toNat) from hx)
          exact rowC_range _ _ _ _ _ (by omega) (by have := List.mem_range.1 hj; omega)) _ 0 rfl (by omega)
        exact h
      · rw [if_neg (fun h => h2 h.2.2), show decide (i ≥ K + M + G) = true from decide_eq_true (by omega)]
        exact none_
  · rw [if_neg (fun h => h0 h.1)]
    exact Ev.neg h0 none_

theorem FnExactCodeRow : laws_FnExactCodeRow.Wants := by
  intro K M G i _ _ _ _
  refine Ev.rounds (Ev.congr (fun k => by rw [laws_FnExactCodeRow.f]) ?_)
  have hto : laws_toCode.f K M G = some (K, M, G) := rfl
  have hl := codeRowOf_len K M G i
  have hs := spec_codeRow K M G i
  have hi := impl_codeRow K M G i
  generalize codeRowOf K M G i = l at hl hs hi
  refine Ev.bindS hto (Ev.bind hs (Ev.bindS hto (Ev.bind hi (Ev.bind (eqInt64S l (by omega)) (Ev.pos rfl ?_)))))
  refine Ev.bind (markInt64S l (by omega) 1 (by omega)) (Ev.bind (heldInt64S l.length (by omega) 1 (by omega)) (Ev.neg (by omega) (Ev.pos rfl ?_)))
  refine Ev.bindS hto (Ev.bind hi (Ev.bind (eqInt64S l (by omega)) (Ev.pos rfl ?_)))
  exact Ev.bind (heldInt64S l.length (by omega) 1 (by omega)) (Ev.neg (by omega) (Ev.pos rfl (Ev.now true)))

end Go.Proofs.Ytcpmlelejlmpdaa.Pure
