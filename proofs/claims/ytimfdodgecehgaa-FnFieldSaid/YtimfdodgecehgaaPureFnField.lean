/- The statement FnField over numbers and lists alone: for the drawn elements of both fields products do not hang on order or grouping and go over sums, inverses are inverses, powers add. No condition. -/
import Derived.Test.YtimfdodgecehgaaQFnFieldx3
import Derived.Laws.BitsAllLaws
import Derived.Laws.Bits64
set_option linter.all false
namespace Go.Proofs.Ytimfdodgecehgaa.Pure
open Go.RowKit Go.Proofs.Ytimfdodgecehgaa.QFnField Go.Proofs.YtimfdodgecehgaaW.PrintWords Go.Proofs.YtimfdodgecehgaaW.PrintLast Go.Proofs.YtimfdodgecehgaaW.PrintMore

/-! Small lemmas on wraps, rounds and lists. -/
theorem wrap64_id {x : Int} (h0 : -9223372036854775808 ≤ x) (h1 : x < 9223372036854775808) : wrap64 x = x := by unfold wrap64; omega
theorem u64_id {x : Int} (h0 : 0 ≤ x) (h1 : x < 18446744073709551616) : IntKind.u64.wrap x = x := by rw [IntKind.wrap_u64]; omega
theorem Ev.pos {α : Type} {c : Prop} [Decidable c] {f g : Nat → Option α} {r : α} (h : c) (e : Ev f r) : Ev (fun k => if c then f k else g k) r := by simpa [h] using e
theorem Ev.neg {α : Type} {c : Prop} [Decidable c] {f g : Nat → Option α} {r : α} (h : ¬ c) (e : Ev g r) : Ev (fun k => if c then f k else g k) r := by simpa [h] using e
theorem Ev.bindS {α β : Type} {g : Option α} {f : Nat → α → Option β} {a : α} {r : β} (h : g = some a) (e : Ev (fun k => f k a) r) : Ev (fun k => g.bind (f k)) r := by subst h; simpa using e
theorem Ev.give {α : Type} {r s : α} (h : s = r) : Ev (fun _ => some s) r := by subst h; exact Ev.now _
theorem bt_drop (s : ByteArray) (i : Nat) (h : i < s.size) : ∃ c : UInt8, s.data.toList.drop i = c :: s.data.toList.drop (i + 1) ∧ bt s (i : Int) = (c.toNat : Int) := by
  have hl : i < s.data.toList.length := by simpa using h
  refine ⟨s.data.toList[i], List.drop_eq_getElem_cons hl, ?_⟩
  unfold bt
  rw [dif_pos (by simpa using h)]
  simp [ByteArray.getElem_eq_getElem_data]
theorem drop_end (s : ByteArray) (i : Nat) (h : s.size ≤ i) : s.data.toList.drop i = [] := List.drop_eq_nil_of_le (by simpa using h)
theorem size_strOfNums (l : List Int) : (strOfNums l).size = l.length := by
  show (strOfNums l).data.size = l.length
  simp [strOfNums]
theorem i64_range {n : Int} (h : (Lit.int .i64 n).wf = true) : -9223372036854775808 ≤ n ∧ n < 9223372036854775808 := by
  simp only [Lit.wf, IntKind.min, IntKind.max, IntKind.signed, IntKind.bits, Bool.and_eq_true, decide_eq_true_eq, if_true] at h; omega
theorem byte_eq_int (c d : UInt8) : ((c.toNat : Int) = (d.toNat : Int)) ↔ c = d := by
  constructor
  · intro h; exact UInt8.toNat_inj.1 (by omega)
  · rintro rfl; rfl
theorem byte_eq_lit (c : UInt8) (n : Nat) (hn : n < 256) : ((c.toNat : Int) = (n : Int)) ↔ c = UInt8.ofNat n := by
  rw [← byte_eq_int]
  have : (UInt8.ofNat n).toNat = n := by simp [UInt8.toNat_ofNat']; omega
  rw [this]
theorem bt_get (s : ByteArray) (i : Nat) (h : i < s.size) : ∃ c : UInt8, s.data.toList[i]? = some c ∧ bt s (i : Int) = (c.toNat : Int) := by
  obtain ⟨c, e, hb⟩ := bt_drop s i h
  refine ⟨c, ?_, hb⟩
  have : (s.data.toList.drop i)[0]? = some c := by rw [e]; rfl
  simpa using this

/-! Go's bits at numbers from 0 on. -/
theorem bits_xor_i64 (a b : Nat) (ha : a < 9223372036854775808) (hb : b < 9223372036854775808) : Go.bits .xor .i64 (a : Int) (b : Int) = ((a ^^^ b : Nat) : Int) := by
  have hx : a ^^^ b < 2 ^ 63 := Nat.xor_lt_two_pow (by simpa using ha) (by simpa using hb)
  show IntKind.i64.wrap (((BitVec.ofInt 64 (a : Int)) ^^^ (BitVec.ofInt 64 (b : Int))).toNat : Int) = _
  rw [BitVec.toNat_xor, BitVec.ofInt_natCast, BitVec.ofInt_natCast, BitVec.toNat_ofNat, BitVec.toNat_ofNat, Nat.mod_eq_of_lt (by omega : a < 2 ^ 64), Nat.mod_eq_of_lt (by omega : b < 2 ^ 64), IntKind.wrap_i64]
  omega
theorem bits_and_i64 (a b : Nat) (ha : a < 9223372036854775808) (hb : b < 9223372036854775808) : Go.bits .and .i64 (a : Int) (b : Int) = ((a &&& b : Nat) : Int) := by
  have hx : a &&& b < 2 ^ 63 := Nat.and_lt_two_pow _ (by simpa using hb)
  show IntKind.i64.wrap (((BitVec.ofInt 64 (a : Int)) &&& (BitVec.ofInt 64 (b : Int))).toNat : Int) = _
  rw [BitVec.toNat_and, BitVec.ofInt_natCast, BitVec.ofInt_natCast, BitVec.toNat_ofNat, BitVec.toNat_ofNat, Nat.mod_eq_of_lt (by omega : a < 2 ^ 64), Nat.mod_eq_of_lt (by omega : b < 2 ^ 64), IntKind.wrap_i64]
  omega
theorem bits_xor_u8 (a b : Nat) (ha : a < 256) (hb : b < 256) : Go.bits .xor .u8 (a : Int) (b : Int) = ((a ^^^ b : Nat) : Int) := by
  have hx : a ^^^ b < 2 ^ 8 := Nat.xor_lt_two_pow (by simpa using ha) (by simpa using hb)
  show IntKind.u8.wrap (((BitVec.ofInt 8 (a : Int)) ^^^ (BitVec.ofInt 8 (b : Int))).toNat : Int) = _
  rw [BitVec.toNat_xor, BitVec.ofInt_natCast, BitVec.ofInt_natCast, BitVec.toNat_ofNat, BitVec.toNat_ofNat, Nat.mod_eq_of_lt (by omega : a < 2 ^ 8), Nat.mod_eq_of_lt (by omega : b < 2 ^ 8), IntKind.wrap_u8]
  omega
theorem bits_and_u8 (a b : Nat) (ha : a < 256) (hb : b < 256) : Go.bits .and .u8 (a : Int) (b : Int) = ((a &&& b : Nat) : Int) := by
  have hx : a &&& b < 2 ^ 8 := Nat.and_lt_two_pow _ (by simpa using hb)
  show IntKind.u8.wrap (((BitVec.ofInt 8 (a : Int)) &&& (BitVec.ofInt 8 (b : Int))).toNat : Int) = _
  rw [BitVec.toNat_and, BitVec.ofInt_natCast, BitVec.ofInt_natCast, BitVec.toNat_ofNat, BitVec.toNat_ofNat, Nat.mod_eq_of_lt (by omega : a < 2 ^ 8), Nat.mod_eq_of_lt (by omega : b < 2 ^ 8), IntKind.wrap_u8]
  omega
theorem bits_xor_u16 (a b : Nat) (ha : a < 65536) (hb : b < 65536) : Go.bits .xor .u16 (a : Int) (b : Int) = ((a ^^^ b : Nat) : Int) := by
  have hx : a ^^^ b < 2 ^ 16 := Nat.xor_lt_two_pow (by simpa using ha) (by simpa using hb)
  show IntKind.u16.wrap (((BitVec.ofInt 16 (a : Int)) ^^^ (BitVec.ofInt 16 (b : Int))).toNat : Int) = _
  rw [BitVec.toNat_xor, BitVec.ofInt_natCast, BitVec.ofInt_natCast, BitVec.toNat_ofNat, BitVec.toNat_ofNat, Nat.mod_eq_of_lt (by omega : a < 2 ^ 16), Nat.mod_eq_of_lt (by omega : b < 2 ^ 16), IntKind.wrap_u16]
  omega
theorem bits_and_u16 (a b : Nat) (ha : a < 65536) (hb : b < 65536) : Go.bits .and .u16 (a : Int) (b : Int) = ((a &&& b : Nat) : Int) := by
  have hx : a &&& b < 2 ^ 16 := Nat.and_lt_two_pow _ (by simpa using hb)
  show IntKind.u16.wrap (((BitVec.ofInt 16 (a : Int)) &&& (BitVec.ofInt 16 (b : Int))).toNat : Int) = _
  rw [BitVec.toNat_and, BitVec.ofInt_natCast, BitVec.ofInt_natCast, BitVec.toNat_ofNat, BitVec.toNat_ofNat, Nat.mod_eq_of_lt (by omega : a < 2 ^ 16), Nat.mod_eq_of_lt (by omega : b < 2 ^ 16), IntKind.wrap_u16]
  omega
theorem and_top (w a : Nat) (h : a < 2 ^ (w + 1)) : a &&& 2 ^ w = 0 ↔ a < 2 ^ w := by
  have hp : 0 < 2 ^ w := Nat.two_pow_pos w
  have ht : a.testBit w = decide (2 ^ w ≤ a) := by
    rw [Nat.testBit_eq_decide_div_mod_eq]
    have h2 : a / 2 ^ w < 2 := Nat.div_lt_of_lt_mul (by rw [Nat.pow_succ] at h; exact h)
    by_cases hc : 2 ^ w ≤ a
    · have : 1 ≤ a / 2 ^ w := (Nat.le_div_iff_mul_le hp).2 (by omega)
      have e : a / 2 ^ w = 1 := by omega
      simp [e, hc]
    · have e : a / 2 ^ w = 0 := Nat.div_eq_of_lt (by omega)
      simp [e, hc]
  constructor
  · intro h0
    have hb : (a &&& 2 ^ w).testBit w = false := by rw [h0]; simp
    rw [Nat.testBit_and, Nat.testBit_two_pow_self, Bool.and_true, ht] at hb
    simpa using hb
  · intro hl
    apply Nat.eq_of_testBit_eq
    intro i
    rw [Nat.testBit_and, Nat.zero_testBit, Nat.testBit_two_pow]
    by_cases hi : w = i
    · subst hi
      rw [ht]; simp; omega
    · simp [hi]

/-! Products of polynomials over two elements, modulo one of them. -/
def gdbl (top low a : Nat) : Nat := if top ≤ 2 * a then (2 * a - top) ^^^ low else 2 * a
def gmulL (top low : Nat) : Nat → Nat → Nat → Nat → Nat
  | 0, _, _, p => p
  | n + 1, a, b, p => gmulL top low n (gdbl top low a) (b / 2) (if b % 2 = 1 then p ^^^ a else p)
theorem xor_top (w x low : Nat) (h0 : 2 ^ w ≤ x) (h1 : x < 2 * 2 ^ w) (hl : low < 2 ^ w) : x ^^^ (2 ^ w + low) = (x - 2 ^ w) ^^^ low := by
  have hp : 0 < 2 ^ w := Nat.two_pow_pos w
  have hr : (x - 2 ^ w) ^^^ low < 2 ^ w := Nat.xor_lt_two_pow (by omega) hl
  have hd : (x ^^^ (2 ^ w + low)) / 2 ^ w = 0 := by
    rw [Nat.xor_div_two_pow]
    have e1 : x / 2 ^ w = 1 := by
      have := Nat.div_lt_of_lt_mul (m := x) (n := 2 ^ w) (k := 2) (by omega)
      have := (Nat.le_div_iff_mul_le (x := 1) (y := x) hp).2 (by omega)
      omega
    have e2 : (2 ^ w + low) / 2 ^ w = 1 := by rw [Nat.add_div_left _ hp, Nat.div_eq_of_lt hl]
    rw [e1, e2]; rfl
  have hm : (x ^^^ (2 ^ w + low)) % 2 ^ w = (x - 2 ^ w) ^^^ low := by
    rw [Nat.xor_mod_two_pow]
    have e1 : x % 2 ^ w = x - 2 ^ w := by rw [Nat.mod_eq_sub_mod h0, Nat.mod_eq_of_lt (by omega)]
    have e2 : (2 ^ w + low) % 2 ^ w = low := by rw [Nat.add_mod_left, Nat.mod_eq_of_lt hl]
    rw [e1, e2]
  have := Nat.div_add_mod (x ^^^ (2 ^ w + low)) (2 ^ w)
  rw [hd, hm, Nat.mul_zero, Nat.zero_add] at this
  exact this.symm
theorem gdbl_lt (w low a : Nat) (ha : a < 2 ^ w) (hl : low < 2 ^ w) : gdbl (2 ^ w) low a < 2 ^ w := by
  unfold gdbl
  split
  · exact Nat.xor_lt_two_pow (by omega) hl
  · omega
theorem gmulL_lt (w low : Nat) (hl : low < 2 ^ w) : ∀ n a b p, a < 2 ^ w → p < 2 ^ w → gmulL (2 ^ w) low n a b p < 2 ^ w := by
  intro n
  induction n with
  | zero => intro a b p _ hp; exact hp
  | succ n ih =>
    intro a b p ha hp
    rw [gmulL]
    refine ih _ _ _ (gdbl_lt w low a ha hl) ?_
    split
    · exact Nat.xor_lt_two_pow hp ha
    · exact hp
theorem gmulL_zero (top low : Nat) : ∀ n a p, gmulL top low n a 0 p = p := by
  intro n
  induction n with
  | zero => intro a p; rfl
  | succ n ih => intro a p; rw [gmulL]; simpa using ih _ _
def mul8 (a b : Nat) : Nat := gmulL 256 29 8 a b 0
def mul16 (a b : Nat) : Nat := gmulL 65536 4107 16 a b 0
theorem mul8_lt (a b : Nat) (ha : a < 256) : mul8 a b < 256 := gmulL_lt 8 29 (by decide) 8 a b 0 (by simpa using ha) (by decide)
theorem mul16_lt (a b : Nat) (ha : a < 65536) : mul16 a b < 65536 := gmulL_lt 16 4107 (by decide) 16 a b 0 (by simpa using ha) (by decide)

/-! The algebra of these products: linear in each factor, commutative, associative. -/
theorem xor_even (a b : Nat) : (a ^^^ b) / 2 = a / 2 ^^^ b / 2 := by
  have := Nat.xor_div_two_pow (a := a) (b := b) (n := 1)
  simpa using this
theorem xor_odd (a b : Nat) : (a ^^^ b) % 2 = (a % 2) ^^^ (b % 2) := by
  have := Nat.xor_mod_two_pow (a := a) (b := b) (n := 1)
  simpa using this
theorem xor_dbl (a b : Nat) : 2 * (a ^^^ b) = (2 * a) ^^^ (2 * b) := by
  have := Nat.shiftLeft_xor_distrib (a := a) (b := b) (i := 1)
  simp only [Nat.shiftLeft_eq, Nat.pow_one] at this
  rw [Nat.mul_comm 2 (a ^^^ b), this, Nat.mul_comm a 2, Nat.mul_comm b 2]
theorem xor4 (a b c d : Nat) : (a ^^^ b) ^^^ (c ^^^ d) = (a ^^^ c) ^^^ (b ^^^ d) := by
  rw [Nat.xor_assoc, Nat.xor_assoc]
  congr 1
  rw [← Nat.xor_assoc, Nat.xor_comm b c, Nat.xor_assoc]
theorem gdbl_bit (w low a : Nat) (hl : low < 2 ^ (w + 1)) (ha : a < 2 ^ (w + 1)) : gdbl (2 ^ (w + 1)) low a = (2 * a) ^^^ (if a.testBit w then 2 ^ (w + 1) + low else 0) := by
  have hp : 2 ^ (w + 1) = 2 * 2 ^ w := by rw [Nat.pow_succ]; omega
  have hpp : 0 < 2 ^ w := Nat.two_pow_pos w
  have ht : a.testBit w = decide (2 ^ w ≤ a) := by
    rw [Nat.testBit_eq_decide_div_mod_eq]
    have h2 : a / 2 ^ w < 2 := Nat.div_lt_of_lt_mul (by omega)
    by_cases hc : 2 ^ w ≤ a
    · have : 1 ≤ a / 2 ^ w := (Nat.le_div_iff_mul_le hpp).2 (by omega)
      have e : a / 2 ^ w = 1 := by omega
      simp [e, hc]
    · have e : a / 2 ^ w = 0 := Nat.div_eq_of_lt (by omega)
      simp [e, hc]
  unfold gdbl
  by_cases hc : 2 ^ w ≤ a
  · rw [if_pos (by omega), ht, if_pos (by simpa using hc), xor_top (w + 1) (2 * a) low (by omega) (by omega) hl]
  · rw [if_neg (by omega), ht, if_neg (by simpa using hc), Nat.xor_zero]
theorem gdbl_xor (w low a b : Nat) (hl : low < 2 ^ (w + 1)) (ha : a < 2 ^ (w + 1)) (hb : b < 2 ^ (w + 1)) : gdbl (2 ^ (w + 1)) low (a ^^^ b) = gdbl (2 ^ (w + 1)) low a ^^^ gdbl (2 ^ (w + 1)) low b := by
  rw [gdbl_bit w low a hl ha, gdbl_bit w low b hl hb, gdbl_bit w low _ hl (Nat.xor_lt_two_pow ha hb), xor_dbl, Nat.testBit_xor, xor4]
  congr 1
  cases a.testBit w <;> cases b.testBit w <;> simp
theorem gdbl_zero (top low : Nat) (h : 0 < top) : gdbl top low 0 = 0 := by unfold gdbl; rw [if_neg (by omega)]
theorem gmulL_acc (top low : Nat) : ∀ n a b p, gmulL top low n a b p = p ^^^ gmulL top low n a b 0 := by
  intro n
  induction n with
  | zero => intro a b p; simp [gmulL]
  | succ n ih =>
    intro a b p
    rw [gmulL, gmulL, ih _ _ (if b % 2 = 1 then p ^^^ a else p), ih _ _ (if b % 2 = 1 then 0 ^^^ a else 0), ← Nat.xor_assoc]
    congr 1
    split <;> simp
theorem gmulL_succ (top low n a b : Nat) : gmulL top low (n + 1) a b 0 = (if b % 2 = 1 then a else 0) ^^^ gmulL top low n (gdbl top low a) (b / 2) 0 := by
  rw [gmulL, gmulL_acc]
  congr 1
  split <;> simp
section
variable (w low : Nat) (hl : low < 2 ^ (w + 1))
include hl
theorem gm_lt (n a b : Nat) (ha : a < 2 ^ (w + 1)) : gmulL (2 ^ (w + 1)) low n a b 0 < 2 ^ (w + 1) := gmulL_lt (w + 1) low hl n a b 0 ha (Nat.two_pow_pos _)
theorem gm_xor_left : ∀ n a a' b, a < 2 ^ (w + 1) → a' < 2 ^ (w + 1) → gmulL (2 ^ (w + 1)) low n (a ^^^ a') b 0 = gmulL (2 ^ (w + 1)) low n a b 0 ^^^ gmulL (2 ^ (w + 1)) low n a' b 0 := by
  intro n
  induction n with
  | zero => intro a a' b _ _; simp [gmulL]
  | succ n ih =>
    intro a a' b ha ha'
    rw [gmulL_succ, gmulL_succ, gmulL_succ, gdbl_xor w low a a' hl ha ha', ih _ _ _ (gdbl_lt (w + 1) low a ha hl) (gdbl_lt (w + 1) low a' ha' hl), xor4]
    congr 1
    split <;> simp
omit hl in
theorem gm_xor_right : ∀ n a b b', gmulL (2 ^ (w + 1)) low n a (b ^^^ b') 0 = gmulL (2 ^ (w + 1)) low n a b 0 ^^^ gmulL (2 ^ (w + 1)) low n a b' 0 := by
  intro n
  induction n with
  | zero => intro a b b'; simp [gmulL]
  | succ n ih =>
    intro a b b'
    rw [gmulL_succ, gmulL_succ, gmulL_succ, xor_even, ih, xor_odd, xor4]
    congr 1
    rcases Nat.mod_two_eq_zero_or_one b with h | h <;> rcases Nat.mod_two_eq_zero_or_one b' with h' | h' <;> simp [h, h']
/-- A factor doubled doubles the product. -/
theorem gm_dbl_left : ∀ n a b, a < 2 ^ (w + 1) → gmulL (2 ^ (w + 1)) low n (gdbl (2 ^ (w + 1)) low a) b 0 = gdbl (2 ^ (w + 1)) low (gmulL (2 ^ (w + 1)) low n a b 0) := by
  intro n
  induction n with
  | zero =>
    intro a b _
    rw [show gmulL (2 ^ (w + 1)) low 0 a b 0 = 0 from rfl, gdbl_zero _ _ (Nat.two_pow_pos _)]; rfl
  | succ n ih =>
    intro a b ha
    have hg := gdbl_lt (w + 1) low a ha hl
    have hsel : (if b % 2 = 1 then a else 0) < 2 ^ (w + 1) := by
      split
      · exact ha
      · exact Nat.two_pow_pos _
    rw [gmulL_succ, gmulL_succ, ih _ _ hg, gdbl_xor w low _ _ hl hsel (gm_lt w low hl n _ _ hg)]
    congr 1
    split
    · rfl
    · rw [gdbl_zero _ _ (Nat.two_pow_pos _)]
end
/-- Two linear maps that agree at each power of two below 2^n agree below 2^n. -/
theorem linear_ext (f g : Nat → Nat) : ∀ n, (∀ a b, a < 2 ^ n → b < 2 ^ n → f (a ^^^ b) = f a ^^^ f b) → (∀ a b, a < 2 ^ n → b < 2 ^ n → g (a ^^^ b) = g a ^^^ g b) → (∀ i, i < n → f (2 ^ i) = g (2 ^ i)) → ∀ a, a < 2 ^ n → f a = g a := by
  intro n
  induction n with
  | zero =>
    intro hf hg _ a ha
    have : a = 0 := by omega
    subst this
    have h1 := hf 0 0 (by omega) (by omega)
    have h2 := hg 0 0 (by omega) (by omega)
    simp at h1 h2
    rw [h1, h2]
  | succ n ih =>
    intro hf hg hi a ha
    have hp : 2 ^ (n + 1) = 2 * 2 ^ n := by rw [Nat.pow_succ]; omega
    have hpp : 0 < 2 ^ n := Nat.two_pow_pos n
    have low := ih (fun a b ha hb => hf a b (by omega) (by omega)) (fun a b ha hb => hg a b (by omega) (by omega)) (fun i h => hi i (by omega))
    by_cases h : a < 2 ^ n
    · exact low a h
    · have e : a = 2 ^ n ^^^ (a - 2 ^ n) := by
        have := xor_top n a 0 (by omega) (by omega) (by omega)
        rw [Nat.add_zero, Nat.xor_zero] at this
        rw [← this, Nat.xor_comm a, ← Nat.xor_assoc, Nat.xor_self, Nat.zero_xor]
      rw [e, hf _ _ (by omega) (by omega), hg _ _ (by omega) (by omega), hi n (by omega), low _ (by omega)]
/-- What commutes at the powers of two commutes. -/
theorem gm_comm (w low : Nat) (hl : low < 2 ^ (w + 1)) (n : Nat) (hb : ∀ i, i < w + 1 → ∀ j, j < w + 1 → gmulL (2 ^ (w + 1)) low n (2 ^ i) (2 ^ j) 0 = gmulL (2 ^ (w + 1)) low n (2 ^ j) (2 ^ i) 0) :
    ∀ a b, a < 2 ^ (w + 1) → b < 2 ^ (w + 1) → gmulL (2 ^ (w + 1)) low n a b 0 = gmulL (2 ^ (w + 1)) low n b a 0 := by
  intro a b ha hbb
  refine linear_ext (fun a => gmulL (2 ^ (w + 1)) low n a b 0) (fun a => gmulL (2 ^ (w + 1)) low n b a 0) (w + 1) (fun x y hx hy => gm_xor_left w low hl n x y b hx hy) (fun x y _ _ => gm_xor_right w low n b x y) (fun i hi => ?_) a ha
  refine linear_ext (fun b => gmulL (2 ^ (w + 1)) low n (2 ^ i) b 0) (fun b => gmulL (2 ^ (w + 1)) low n b (2 ^ i) 0) (w + 1) (fun x y _ _ => gm_xor_right w low n (2 ^ i) x y) (fun x y hx hy => gm_xor_left w low hl n x y (2 ^ i) hx hy) (fun j hj => hb i hi j hj) b hbb
/-- Associativity, out of commutativity: induction on the rounds of the outer product. -/
theorem gm_assoc (w low : Nat) (hl : low < 2 ^ (w + 1)) (n : Nat) (hc : ∀ a b, a < 2 ^ (w + 1) → b < 2 ^ (w + 1) → gmulL (2 ^ (w + 1)) low n a b 0 = gmulL (2 ^ (w + 1)) low n b a 0) :
    ∀ m a b c, a < 2 ^ (w + 1) → b < 2 ^ (w + 1) → gmulL (2 ^ (w + 1)) low m (gmulL (2 ^ (w + 1)) low n a b 0) c 0 = gmulL (2 ^ (w + 1)) low n a (gmulL (2 ^ (w + 1)) low m b c 0) 0 := by
  intro m
  induction m with
  | zero =>
    intro a b c ha hb
    rw [show gmulL (2 ^ (w + 1)) low 0 (gmulL (2 ^ (w + 1)) low n a b 0) c 0 = 0 from rfl, show gmulL (2 ^ (w + 1)) low 0 b c 0 = 0 from rfl, gmulL_zero]
  | succ m ih =>
    intro a b c ha hb
    have hg := gdbl_lt (w + 1) low b hb hl
    have h1 : gdbl (2 ^ (w + 1)) low (gmulL (2 ^ (w + 1)) low n a b 0) = gmulL (2 ^ (w + 1)) low n a (gdbl (2 ^ (w + 1)) low b) 0 := by
      rw [hc a b ha hb, ← gm_dbl_left w low hl n b a hb, hc _ _ hg ha]
    rw [gmulL_succ, gmulL_succ, h1, ih _ _ _ ha hg, gm_xor_right]
    congr 1
    split
    · rfl
    · rw [gmulL_zero]

theorem mul8_comm (a b : Nat) (ha : a < 256) (hb : b < 256) : mul8 a b = mul8 b a :=
  gm_comm 7 29 (by decide) 8 (by decide +kernel) a b ha hb
theorem mul8_assoc (a b c : Nat) (ha : a < 256) (hb : b < 256) : mul8 (mul8 a b) c = mul8 a (mul8 b c) :=
  gm_assoc 7 29 (by decide) 8 (gm_comm 7 29 (by decide) 8 (by decide +kernel)) 8 a b c ha hb
theorem mul8_xor (a b c : Nat) : mul8 a (b ^^^ c) = mul8 a b ^^^ mul8 a c := gm_xor_right 7 29 8 a b c
theorem mul8_xor_left (a b c : Nat) (ha : a < 256) (hb : b < 256) : mul8 (a ^^^ b) c = mul8 a c ^^^ mul8 b c := gm_xor_left 7 29 (by decide) 8 a b c ha hb
theorem mul8_one (a : Nat) (ha : a < 256) : mul8 a 1 = a := by
  have key : ∀ x : Fin 256, mul8 x.val 1 = x.val := by decide +kernel
  exact key ⟨a, ha⟩

/-! In the field of 256 what is not 0 has one inverse. -/
def inv8L : Nat → Nat → Nat → Nat
  | 0, _, out => out
  | n + 1, s, out => inv8L n (mul8 s s) (mul8 out s)
def inv8 (a : Nat) : Nat := inv8L 7 (mul8 a a) 1
theorem inv8L_lt : ∀ n s out, s < 256 → out < 256 → inv8L n s out < 256 := by
  intro n
  induction n with
  | zero => intro s out _ h; exact h
  | succ n ih => intro s out hs ho; exact ih _ _ (mul8_lt s s hs) (mul8_lt out s ho)
theorem inv8_lt (a : Nat) (h : a < 256) : inv8 a < 256 := inv8L_lt 7 _ _ (mul8_lt a a h) (by decide)
theorem mul8_zero (a : Nat) : mul8 a 0 = 0 := gmulL_zero _ _ _ _ _
theorem zero_mul8 (a : Nat) (h : a < 256) : mul8 0 a = 0 := by rw [mul8_comm 0 a (by decide) h, mul8_zero]
theorem one_mul8 (a : Nat) (h : a < 256) : mul8 1 a = a := by rw [mul8_comm 1 a (by decide) h, mul8_one a h]
theorem mul_inv8 (a : Nat) (h : a < 256) (h0 : a ≠ 0) : mul8 a (inv8 a) = 1 := by
  have key : ∀ x : Fin 256, x.val ≠ 0 → mul8 x.val (inv8 x.val) = 1 := by decide +kernel
  exact key ⟨a, h⟩ h0
theorem inv8_zero : inv8 0 = 0 := by decide +kernel
theorem inv8_one_only (a x : Nat) (h : a < 256) (hx : x < 256) (h1 : mul8 a x = 1) : x = inv8 a := by
  by_cases h0 : a = 0
  · subst h0; rw [zero_mul8 x hx] at h1; exact absurd h1 (by decide)
  · have e := mul_inv8 a h h0
    have hi := inv8_lt a h
    calc x = mul8 x 1 := (mul8_one x hx).symm
      _ = mul8 x (mul8 a (inv8 a)) := by rw [e]
      _ = mul8 (mul8 x a) (inv8 a) := (mul8_assoc x a _ hx h).symm
      _ = mul8 (mul8 a x) (inv8 a) := by rw [mul8_comm x a hx h]
      _ = inv8 a := by rw [h1, one_mul8 _ hi]

theorem mul16_comm (a b : Nat) (ha : a < 65536) (hb : b < 65536) : mul16 a b = mul16 b a :=
  gm_comm 15 4107 (by decide) 16 (by decide +kernel) a b ha hb
theorem mul16_assoc (a b c : Nat) (ha : a < 65536) (hb : b < 65536) : mul16 (mul16 a b) c = mul16 a (mul16 b c) :=
  gm_assoc 15 4107 (by decide) 16 (gm_comm 15 4107 (by decide) 16 (by decide +kernel)) 16 a b c ha hb
theorem mul16_xor (a b c : Nat) : mul16 a (b ^^^ c) = mul16 a b ^^^ mul16 a c := gm_xor_right 15 4107 16 a b c
theorem mul16_xor_left (a b c : Nat) (ha : a < 65536) (hb : b < 65536) : mul16 (a ^^^ b) c = mul16 a c ^^^ mul16 b c := gm_xor_left 15 4107 (by decide) 16 a b c ha hb
theorem mul16_one (a : Nat) (ha : a < 65536) : mul16 a 1 = a := by
  unfold mul16
  rw [gmulL_succ, gmulL_zero]; simp

/-- The product of the squares of s, one behind the other: n of them. -/
def inv16L : Nat → Nat → Nat → Nat
  | 0, _, out => out
  | n + 1, s, out => inv16L n (mul16 s s) (mul16 out s)
def inv16 (a : Nat) : Nat := inv16L 15 (mul16 a a) 1
theorem inv16L_lt : ∀ n s out, s < 65536 → out < 65536 → inv16L n s out < 65536 := by
  intro n
  induction n with
  | zero => intro s out _ h; exact h
  | succ n ih => intro s out hs ho; exact ih _ _ (mul16_lt s s hs) (mul16_lt out s ho)
theorem inv16_lt (a : Nat) (h : a < 65536) : inv16 a < 65536 := inv16L_lt 15 _ _ (mul16_lt a a h) (by decide)

/-! In the field of 65536 what is not 0 has an inverse. -/
def sq16 (x : Nat) : Nat := mul16 x x
theorem sq16_lt (x : Nat) (h : x < 65536) : sq16 x < 65536 := mul16_lt x x h
theorem sq16_xor (x y : Nat) (hx : x < 65536) (hy : y < 65536) : sq16 (x ^^^ y) = sq16 x ^^^ sq16 y := by
  unfold sq16
  have hxy : x ^^^ y < 65536 := Nat.xor_lt_two_pow (n := 16) hx hy
  rw [mul16_xor_left x y _ hx hy, mul16_xor, mul16_xor, mul16_comm y x hy hx, Nat.xor_assoc, ← Nat.xor_assoc (mul16 x y), Nat.xor_self, Nat.zero_xor]
def sqs16 : Nat → Nat → Nat
  | 0, x => x
  | n + 1, x => sqs16 n (sq16 x)
theorem sqs16_lt : ∀ n x, x < 65536 → sqs16 n x < 65536 := by
  intro n
  induction n with
  | zero => intro x h; exact h
  | succ n ih => intro x h; exact ih _ (sq16_lt x h)
theorem sqs16_xor : ∀ n x y, x < 65536 → y < 65536 → sqs16 n (x ^^^ y) = sqs16 n x ^^^ sqs16 n y := by
  intro n
  induction n with
  | zero => intro x y _ _; rfl
  | succ n ih => intro x y hx hy; show sqs16 n (sq16 (x ^^^ y)) = _; rw [sq16_xor x y hx hy, ih _ _ (sq16_lt x hx) (sq16_lt y hy)]; rfl
theorem sqs16_all (x : Nat) (h : x < 65536) : sqs16 16 x = x :=
  linear_ext (sqs16 16) (fun x => x) 16 (fun a b ha hb => sqs16_xor 16 a b ha hb) (fun _ _ _ _ => rfl) (by decide +kernel) x h
/-- s times the product of s, its square, .. is the last square. -/
theorem inv16L_tel : ∀ n s out, s < 65536 → out < 65536 → mul16 (inv16L n s out) s = mul16 out (sqs16 n s) := by
  intro n
  induction n with
  | zero => intro s out _ _; rfl
  | succ n ih =>
    intro s out hs ho
    have hss := mul16_lt s s hs
    have hos := mul16_lt out s ho
    -- inv16L (n+1) s out = inv16L n (s*s) (out*s)
    show mul16 (inv16L n (mul16 s s) (mul16 out s)) s = mul16 out (sqs16 n (sq16 s))
    have key : ∀ n t out q, t < 65536 → out < 65536 → q < 65536 → mul16 (inv16L n t out) q = inv16L n t (mul16 out q) := by
      intro n
      induction n with
      | zero => intro t out q _ _ _; rfl
      | succ n ih2 =>
        intro t out q ht ho hq
        show mul16 (inv16L n (mul16 t t) (mul16 out t)) q = inv16L n (mul16 t t) (mul16 (mul16 out q) t)
        rw [ih2 _ _ _ (mul16_lt t t ht) (mul16_lt out t ho) hq, mul16_assoc out t q ho ht, mul16_comm t q ht hq, ← mul16_assoc out q t ho hq]
    rw [key _ _ _ _ hss hos hs, mul16_assoc out s s ho hs, ← key _ _ _ _ hss ho hss]
    exact ih (mul16 s s) out hss ho
def lin16 : List Nat → Nat → Nat
  | [], _ => 0
  | c :: cs, y => (if y % 2 = 1 then c else 0) ^^^ lin16 cs (y / 2)
theorem lin16_xor : ∀ cs x y, lin16 cs (x ^^^ y) = lin16 cs x ^^^ lin16 cs y := by
  intro cs
  induction cs with
  | nil => intro x y; simp [lin16]
  | cons c cs ih =>
    intro x y
    rw [lin16, lin16, lin16, xor_even, ih, xor_odd, xor4]
    congr 1
    rcases Nat.mod_two_eq_zero_or_one x with h | h <;> rcases Nat.mod_two_eq_zero_or_one y with h' | h' <;> simp [h, h']
def cert16 : List Nat := [350, 42420, 42422, 7412, 42418, 10272, 7420, 1328, 42402, 38610, 10240, 5068, 7356, 0, 1456, 21936]
theorem half_xor (a b : Nat) : 2 * ((a ^^^ b) / 2) = (2 * (a / 2)) ^^^ (2 * (b / 2)) := by rw [xor_even, xor_dbl]
theorem cert16_ok (e : Nat) (h : e < 65536) : lin16 cert16 (sq16 e ^^^ e) = 2 * (e / 2) :=
  linear_ext (fun e => lin16 cert16 (sq16 e ^^^ e)) (fun e => 2 * (e / 2)) 16
    (fun a b ha hb => by show lin16 cert16 (sq16 (a ^^^ b) ^^^ (a ^^^ b)) = _; rw [sq16_xor a b ha hb, xor4, lin16_xor])
    (fun a b _ _ => half_xor a b) (by decide +kernel) e h
theorem idem16 (e : Nat) (h : e < 65536) (hi : sq16 e = e) : e = 0 ∨ e = 1 := by
  have := cert16_ok e h
  rw [hi, Nat.xor_self] at this
  have h0 : lin16 cert16 0 = 0 := by decide +kernel
  omega
theorem sqs16_mul : ∀ n x, x < 65536 → sqs16 n (sq16 x) = sq16 (sqs16 n x) := by
  intro n
  induction n with
  | zero => intro x _; rfl
  | succ n ih => intro x h; exact ih _ (sq16_lt x h)
theorem mul16_zero (a : Nat) : mul16 a 0 = 0 := gmulL_zero _ _ _ _ _
theorem zero_mul16 (a : Nat) (h : a < 65536) : mul16 0 a = 0 := by rw [mul16_comm 0 a (by decide) h, mul16_zero]
theorem one_mul16 (a : Nat) (h : a < 65536) : mul16 1 a = a := by rw [mul16_comm 1 a (by decide) h, mul16_one a h]
/-- The product of a and its squares up to the fifteenth: an idempotent. -/
theorem mul_inv16 (a : Nat) (h : a < 65536) (h0 : a ≠ 0) : mul16 a (inv16 a) = 1 := by
  have hs := mul16_lt a a h
  have hi := inv16_lt a h
  have he := mul16_lt a (inv16 a) h
  -- (inv a) * a^2 = a^65536 = a
  have h1 : mul16 (inv16 a) (mul16 a a) = a := by
    unfold inv16
    rw [inv16L_tel 15 _ 1 hs (by decide), one_mul16 _ (sqs16_lt 15 _ hs)]
    exact sqs16_all a h
  -- e * a = a
  have h2 : mul16 (mul16 a (inv16 a)) a = a := by
    rw [mul16_comm a (inv16 a) h hi, mul16_assoc (inv16 a) a a hi h, h1]
  have h3 : sq16 (mul16 a (inv16 a)) = mul16 a (inv16 a) := by
    show mul16 (mul16 a (inv16 a)) (mul16 a (inv16 a)) = _
    rw [← mul16_assoc _ a (inv16 a) he h, h2]
  rcases idem16 _ he h3 with hz | hz
  · rw [hz, zero_mul16 a h] at h2
    exact absurd h2.symm h0
  · exact hz

theorem spec_in (a top : Int) : spec_l02In.f a top = some (decide (0 ≤ a ∧ a < top)) := by
  unfold spec_l02In.f
  by_cases h : a ≥ 0
  · rw [if_pos h]; simp [show 0 ≤ a from h]
  · rw [if_neg h]; simp [show ¬ 0 ≤ a from h]

theorem spec_times_l0 (w low poly : Nat) (hw : w ≤ 16) (hp : poly = 2 ^ w + low) (hl : low < 2 ^ w) : ∀ (n a b p : Nat), b < 2 ^ n → b < 65536 → a < 2 ^ w → p < 2 ^ w →
    Ev (fun k => spec_l02Times.l0 k (a : Int) (b : Int) (poly : Int) ((2 ^ w : Nat) : Int) (p : Int)) ((gmulL (2 ^ w) low n a b p : Nat) : Int) := by
  have h16 : 2 ^ w ≤ 65536 := Nat.pow_le_pow_right (n := 2) (by decide) hw
  intro n
  induction n with
  | zero =>
    intro a b p hb hb1 ha hpp
    have : b = 0 := by omega
    subst this
    refine Ev.step (fun k => by rw [spec_l02Times.l0, if_neg (by omega)]) (Ev.give ?_)
    rfl
  | succ n ih =>
    intro a b p hb hb1 ha hpp
    by_cases h0 : b = 0
    · subst h0
      rw [gmulL_zero]
      refine Ev.step (fun k => by rw [spec_l02Times.l0, if_neg (by omega)]) (Ev.give ?_)
      rfl
    · have hd : wrap64 (Int.tdiv (b : Int) 2) = ((b / 2 : Nat) : Int) := by
        rw [Int.tdiv_eq_ediv_of_nonneg (by omega), wrap64_id (by omega) (by omega)]; rfl
      have hm : Int.tmod (b : Int) 2 = ((b % 2 : Nat) : Int) := by rw [Int.tmod_eq_emod_of_nonneg (by omega)]; rfl
      have ha2 : wrap64 ((a : Int) * 2) = ((2 * a : Nat) : Int) := by rw [wrap64_id (by omega) (by omega)]; omega
      have hx : Go.bits .xor .i64 ((2 * a : Nat) : Int) (poly : Int) = (((2 * a) ^^^ poly : Nat) : Int) := bits_xor_i64 _ _ (by omega) (by omega)
      have hpx : Go.bits .xor .i64 (p : Int) (a : Int) = ((p ^^^ a : Nat) : Int) := bits_xor_i64 _ _ (by omega) (by omega)
      have hb2 : b / 2 < 2 ^ n := by rw [Nat.pow_succ] at hb; exact Nat.div_lt_of_lt_mul (by omega)
      have hxa : p ^^^ a < 2 ^ w := Nat.xor_lt_two_pow hpp ha
      have hg := gdbl_lt w low a ha hl
      rw [gmulL]
      by_cases hodd : b % 2 = 1
      · rw [if_pos hodd]
        by_cases ht : 2 ^ w ≤ 2 * a
        · have hga : (2 * a) ^^^ poly = gdbl (2 ^ w) low a := by unfold gdbl; rw [if_pos ht, hp, xor_top w _ _ ht (by omega) hl]
          refine Ev.step (fun k => by rw [spec_l02Times.l0, if_pos (by omega), hm, if_pos (by omega), ha2, if_pos (by omega), hd, hx, hpx, hga]) ?_
          exact ih _ _ _ hb2 (by omega) hg hxa
        · have hga : 2 * a = gdbl (2 ^ w) low a := by unfold gdbl; rw [if_neg ht]
          refine Ev.step (fun k => by rw [spec_l02Times.l0, if_pos (by omega), hm, if_pos (by omega), ha2, if_neg (by omega), hd, hpx, hga]) ?_
          exact ih _ _ _ hb2 (by omega) hg hxa
      · rw [if_neg hodd]
        by_cases ht : 2 ^ w ≤ 2 * a
        · have hga : (2 * a) ^^^ poly = gdbl (2 ^ w) low a := by unfold gdbl; rw [if_pos ht, hp, xor_top w _ _ ht (by omega) hl]
          refine Ev.step (fun k => by rw [spec_l02Times.l0, if_pos (by omega), hm, if_neg (by omega), ha2, if_pos (by omega), hd, hx, hga]) ?_
          exact ih _ _ _ hb2 (by omega) hg hpp
        · have hga : 2 * a = gdbl (2 ^ w) low a := by unfold gdbl; rw [if_neg ht]
          refine Ev.step (fun k => by rw [spec_l02Times.l0, if_pos (by omega), hm, if_neg (by omega), ha2, if_neg (by omega), hd, hga]) ?_
          exact ih _ _ _ hb2 (by omega) hg hpp

/-- What Mul8 answers. -/
def Mul8of (a b : Int) : Int := if (0 ≤ a ∧ a < 256) ∧ (0 ≤ b ∧ b < 256) then ((mul8 a.toNat b.toNat : Nat) : Int) else -1
theorem spec_mul8 (a b : Int) : Ev (fun k => spec_Mul8.f k a b) (Mul8of a b) := by
  unfold Mul8of
  by_cases ha : 0 ≤ a ∧ a < 256
  · by_cases hb : 0 ≤ b ∧ b < 256
    · rw [if_pos ⟨ha, hb⟩]
      refine Ev.congr (fun k => by rw [spec_Mul8.f, spec_in, Option.bind_some, if_pos (by simp [ha.1, ha.2]), spec_in, Option.bind_some, if_pos (by simp [hb.1, hb.2])]) ?_
      obtain ⟨m, rfl⟩ := Int.eq_ofNat_of_zero_le ha.1
      obtain ⟨n, rfl⟩ := Int.eq_ofNat_of_zero_le hb.1
      exact Ev.bind (spec_times_l0 8 29 285 (by decide) (by decide) (by decide) 8 m n 0 (by simp only [Nat.reducePow]; omega) (by omega) (by simp only [Nat.reducePow]; omega) (by decide)) (Ev.give rfl)
    · rw [if_neg (fun h => hb h.2)]
      refine Ev.congr (fun k => by rw [spec_Mul8.f, spec_in, Option.bind_some, if_pos (by simp [ha.1, ha.2]), spec_in, Option.bind_some, if_neg (by simpa using fun h => by omega)]) (Ev.give rfl)
  · rw [if_neg (fun h => ha h.1)]
    refine Ev.congr (fun k => by rw [spec_Mul8.f, spec_in, Option.bind_some, if_neg (by simpa using fun h => by omega)]) (Ev.give rfl)

/-- What Mul16 answers. -/
def Mul16of (a b : Int) : Int := if (0 ≤ a ∧ a < 65536) ∧ (0 ≤ b ∧ b < 65536) then ((mul16 a.toNat b.toNat : Nat) : Int) else -1
theorem spec_mul16 (a b : Int) : Ev (fun k => spec_Mul16.f k a b) (Mul16of a b) := by
  unfold Mul16of
  by_cases ha : 0 ≤ a ∧ a < 65536
  · by_cases hb : 0 ≤ b ∧ b < 65536
    · rw [if_pos ⟨ha, hb⟩]
      refine Ev.congr (fun k => by rw [spec_Mul16.f, spec_in, Option.bind_some, if_pos (by simp [ha.1, ha.2]), spec_in, Option.bind_some, if_pos (by simp [hb.1, hb.2])]) ?_
      obtain ⟨m, rfl⟩ := Int.eq_ofNat_of_zero_le ha.1
      obtain ⟨n, rfl⟩ := Int.eq_ofNat_of_zero_le hb.1
      exact Ev.bind (spec_times_l0 16 4107 69643 (by decide) (by decide) (by decide) 16 m n 0 (by simp only [Nat.reducePow]; omega) (by omega) (by simp only [Nat.reducePow]; omega) (by decide)) (Ev.give rfl)
    · rw [if_neg (fun h => hb h.2)]
      refine Ev.congr (fun k => by rw [spec_Mul16.f, spec_in, Option.bind_some, if_pos (by simp [ha.1, ha.2]), spec_in, Option.bind_some, if_neg (by simpa using fun h => by omega)]) (Ev.give rfl)
  · rw [if_neg (fun h => ha h.1)]
    refine Ev.congr (fun k => by rw [spec_Mul16.f, spec_in, Option.bind_some, if_neg (by simpa using fun h => by omega)]) (Ev.give rfl)

theorem impl_double8 (a : Nat) (ha : a < 256) : impl_field_uint8_double.f 29 128 (a : Int) = some ((gdbl 256 29 a : Nat) : Int) := by
  have hand : Go.bits .and .u8 (a : Int) 128 = ((a &&& 128 : Nat) : Int) := bits_and_u8 a 128 ha (by decide)
  have ht : a &&& 128 = 0 ↔ a < 128 := by
    have := and_top 7 a (by simp only [Nat.reduceAdd, Nat.reducePow]; omega)
    simpa only [Nat.reducePow] using this
  unfold impl_field_uint8_double.f gdbl
  rw [hand]
  by_cases h : 256 ≤ 2 * a
  · rw [if_neg (by omega), if_pos h]
    have e : (((a : Int) * 2) % 256) = ((2 * a - 256 : Nat) : Int) := by omega
    have hx : Go.bits .xor .u8 ((2 * a - 256 : Nat) : Int) 29 = (((2 * a - 256) ^^^ 29 : Nat) : Int) := bits_xor_u8 _ 29 (by omega) (by decide)
    rw [e, hx]
  · rw [if_pos (by omega), if_neg h]
    have e : (((a : Int) * 2) % 256) = ((2 * a : Nat) : Int) := by omega
    rw [e]
theorem impl_fmul8_l0 : ∀ (n a b p : Nat), b < 2 ^ n → b < 256 → a < 256 → p < 256 →
    Ev (fun k => impl_field_uint8_mul.l0 k (a : Int) (b : Int) (p : Int) 29 128) ((gmulL 256 29 n a b p : Nat) : Int) := by
  intro n
  induction n with
  | zero =>
    intro a b p hb hb1 ha hpp
    have : b = 0 := by omega
    subst this
    refine Ev.step (fun k => by rw [impl_field_uint8_mul.l0, if_pos (by omega)]) (Ev.give ?_)
    rfl
  | succ n ih =>
    intro a b p hb hb1 ha hpp
    by_cases h0 : b = 0
    · subst h0
      rw [gmulL_zero]
      refine Ev.step (fun k => by rw [impl_field_uint8_mul.l0, if_pos (by omega)]) (Ev.give ?_)
      rfl
    · have hand : Go.bits .and .u8 (b : Int) 1 = ((b % 2 : Nat) : Int) := by
        have := bits_and_u8 b 1 hb1 (by decide)
        rw [Nat.and_one_is_mod] at this; exact this
      have hpx : Go.bits .xor .u8 (p : Int) (a : Int) = ((p ^^^ a : Nat) : Int) := bits_xor_u8 _ _ (by omega) (by omega)
      have hb2 : b / 2 < 2 ^ n := by rw [Nat.pow_succ] at hb; exact Nat.div_lt_of_lt_mul (by omega)
      have hd : (b : Int) / 2 = ((b / 2 : Nat) : Int) := rfl
      have hxa : p ^^^ a < 256 := Nat.xor_lt_two_pow (n := 8) hpp ha
      have hg : gdbl 256 29 a < 256 := gdbl_lt 8 29 a ha (by decide)
      rw [gmulL]
      by_cases hodd : b % 2 = 1
      · rw [if_pos hodd]
        refine Ev.step (fun k => by rw [impl_field_uint8_mul.l0, if_neg (by omega), hand, if_neg (by omega), impl_double8 a ha, Option.bind_some, hd, hpx]) ?_
        exact ih _ _ _ hb2 (by omega) hg hxa
      · rw [if_neg hodd]
        refine Ev.step (fun k => by rw [impl_field_uint8_mul.l0, if_neg (by omega), hand, if_pos (by omega), impl_double8 a ha, Option.bind_some, hd]) ?_
        exact ih _ _ _ hb2 (by omega) hg hpp
theorem impl_fmul8 (a b : Nat) (ha : a < 256) (hb : b < 256) : Ev (fun k => impl_field_uint8_mul.f k 29 128 (a : Int) (b : Int)) ((mul8 a b : Nat) : Int) :=
  Ev.congr (fun k => by rw [impl_field_uint8_mul.f]; rfl) (impl_fmul8_l0 8 a b 0 hb hb ha (by decide))

theorem impl_isByte (a : Int) : impl_isByte.f a = some (decide (0 ≤ a ∧ a < 256)) := by
  unfold impl_isByte.f
  by_cases h : a ≥ 0
  · rw [if_pos h]; congr 1; rw [decide_eq_decide]; omega
  · rw [if_neg h]; congr 1; rw [eq_comm, decide_eq_false_iff_not]; omega

theorem impl_mul8 (a b : Int) : Ev (fun k => impl_Mul8.f k a b) (Mul8of a b) := by
  unfold Mul8of
  by_cases ha : 0 ≤ a ∧ a < 256
  · by_cases hb : 0 ≤ b ∧ b < 256
    · rw [if_pos ⟨ha, hb⟩]
      refine Ev.congr (fun k => by rw [impl_Mul8.f, impl_isByte, Option.bind_some, if_pos (by simp [ha.1, ha.2]), impl_isByte, Option.bind_some]) ?_
      obtain ⟨m, rfl⟩ := Int.eq_ofNat_of_zero_le ha.1
      obtain ⟨n, rfl⟩ := Int.eq_ofNat_of_zero_le hb.1
      have hm : (((m : Int)) % 256) = (m : Int) := by omega
      have hn : (((n : Int)) % 256) = (n : Int) := by omega
      have hlt := mul8_lt m n (by omega)
      refine Ev.step (fun k => by rw [impl_Mul8.j0, if_neg (by simp [hb.1, hb.2]), impl_bytes8.f, Option.bind_some, hm, hn]) ?_
      exact Ev.bind (impl_fmul8 m n (by omega) (by omega)) (Ev.give (by rw [wrap64_id (by omega) (by omega)]; rfl))
    · rw [if_neg (fun h => hb h.2)]
      refine Ev.congr (fun k => by rw [impl_Mul8.f, impl_isByte, Option.bind_some, if_pos (by simp [ha.1, ha.2]), impl_isByte, Option.bind_some]) ?_
      have hbb : decide (0 ≤ b ∧ b < 256) = false := by simp only [decide_eq_false_iff_not]; exact hb
      rw [hbb]
      exact Ev.step (fun k => by rw [impl_Mul8.j0, if_pos (by rfl)]) (Ev.now _)
  · rw [if_neg (fun h => ha h.1)]
    have haa : decide (0 ≤ a ∧ a < 256) = false := by simp only [decide_eq_false_iff_not]; exact ha
    refine Ev.congr (fun k => by rw [impl_Mul8.f, impl_isByte, Option.bind_some, haa, if_neg (by decide)]) ?_
    exact Ev.step (fun k => by rw [impl_Mul8.j0, if_pos rfl]) (Ev.now _)

theorem impl_double16 (a : Nat) (ha : a < 65536) : impl_field_uint16_double.f 4107 32768 (a : Int) = some ((gdbl 65536 4107 a : Nat) : Int) := by
  have hand : Go.bits .and .u16 (a : Int) 32768 = ((a &&& 32768 : Nat) : Int) := bits_and_u16 a 32768 ha (by decide)
  have ht : a &&& 32768 = 0 ↔ a < 32768 := by
    have := and_top 15 a (by simp only [Nat.reduceAdd, Nat.reducePow]; omega)
    simpa only [Nat.reducePow] using this
  unfold impl_field_uint16_double.f gdbl
  rw [hand]
  by_cases h : 65536 ≤ 2 * a
  · rw [if_neg (by omega), if_pos h]
    have e : (IntKind.u16.wrap ((a : Int) * 2)) = ((2 * a - 65536 : Nat) : Int) := by rw [IntKind.wrap_u16]; omega
    have hx : Go.bits .xor .u16 ((2 * a - 65536 : Nat) : Int) 4107 = (((2 * a - 65536) ^^^ 4107 : Nat) : Int) := bits_xor_u16 _ 4107 (by omega) (by decide)
    rw [e, hx]
  · rw [if_pos (by omega), if_neg h]
    have e : (IntKind.u16.wrap ((a : Int) * 2)) = ((2 * a : Nat) : Int) := by rw [IntKind.wrap_u16]; omega
    rw [e]
theorem impl_fmul16_l0 : ∀ (n a b p : Nat), b < 2 ^ n → b < 65536 → a < 65536 → p < 65536 →
    Ev (fun k => impl_field_uint16_mul.l0 k (a : Int) (b : Int) (p : Int) 4107 32768) ((gmulL 65536 4107 n a b p : Nat) : Int) := by
  intro n
  induction n with
  | zero =>
    intro a b p hb hb1 ha hpp
    have : b = 0 := by omega
    subst this
    refine Ev.step (fun k => by rw [impl_field_uint16_mul.l0, if_pos (by omega)]) (Ev.give ?_)
    rfl
  | succ n ih =>
    intro a b p hb hb1 ha hpp
    by_cases h0 : b = 0
    · subst h0
      rw [gmulL_zero]
      refine Ev.step (fun k => by rw [impl_field_uint16_mul.l0, if_pos (by omega)]) (Ev.give ?_)
      rfl
    · have hand : Go.bits .and .u16 (b : Int) 1 = ((b % 2 : Nat) : Int) := by
        have := bits_and_u16 b 1 hb1 (by decide)
        rw [Nat.and_one_is_mod] at this; exact this
      have hpx : Go.bits .xor .u16 (p : Int) (a : Int) = ((p ^^^ a : Nat) : Int) := bits_xor_u16 _ _ (by omega) (by omega)
      have hb2 : b / 2 < 2 ^ n := by rw [Nat.pow_succ] at hb; exact Nat.div_lt_of_lt_mul (by omega)
      have hd : (b : Int) / 2 = ((b / 2 : Nat) : Int) := rfl
      have hxa : p ^^^ a < 65536 := Nat.xor_lt_two_pow (n := 16) hpp ha
      have hg : gdbl 65536 4107 a < 65536 := gdbl_lt 16 4107 a ha (by decide)
      rw [gmulL]
      by_cases hodd : b % 2 = 1
      · rw [if_pos hodd]
        refine Ev.step (fun k => by rw [impl_field_uint16_mul.l0, if_neg (by omega), hand, if_neg (by omega), impl_double16 a ha, Option.bind_some, hd, hpx]) ?_
        exact ih _ _ _ hb2 (by omega) hg hxa
      · rw [if_neg hodd]
        refine Ev.step (fun k => by rw [impl_field_uint16_mul.l0, if_neg (by omega), hand, if_pos (by omega), impl_double16 a ha, Option.bind_some, hd]) ?_
        exact ih _ _ _ hb2 (by omega) hg hpp
theorem impl_fmul16 (a b : Nat) (ha : a < 65536) (hb : b < 65536) : Ev (fun k => impl_field_uint16_mul.f k 4107 32768 (a : Int) (b : Int)) ((mul16 a b : Nat) : Int) :=
  Ev.congr (fun k => by rw [impl_field_uint16_mul.f]; rfl) (impl_fmul16_l0 16 a b 0 hb hb ha (by decide))
theorem impl_isWord (a : Int) : impl_isWord.f a = some (decide (0 ≤ a ∧ a < 65536)) := by
  unfold impl_isWord.f
  by_cases h : a ≥ 0
  · rw [if_pos h]; congr 1; rw [decide_eq_decide]; omega
  · rw [if_neg h]; congr 1; rw [eq_comm, decide_eq_false_iff_not]; omega

theorem impl_mul16 (a b : Int) : Ev (fun k => impl_Mul16.f k a b) (Mul16of a b) := by
  unfold Mul16of
  by_cases ha : 0 ≤ a ∧ a < 65536
  · by_cases hb : 0 ≤ b ∧ b < 65536
    · rw [if_pos ⟨ha, hb⟩]
      refine Ev.congr (fun k => by rw [impl_Mul16.f, impl_isWord, Option.bind_some, if_pos (by simp [ha.1, ha.2]), impl_isWord, Option.bind_some]) ?_
      obtain ⟨m, rfl⟩ := Int.eq_ofNat_of_zero_le ha.1
      obtain ⟨n, rfl⟩ := Int.eq_ofNat_of_zero_le hb.1
      have hm : (IntKind.u16.wrap ((m : Int))) = (m : Int) := by rw [IntKind.wrap_u16]; omega
      have hn : (IntKind.u16.wrap ((n : Int))) = (n : Int) := by rw [IntKind.wrap_u16]; omega
      have hlt := mul16_lt m n (by omega)
      refine Ev.step (fun k => by rw [impl_Mul16.j0, if_neg (by simp [hb.1, hb.2]), impl_words16.f, Option.bind_some, hm, hn]) ?_
      exact Ev.bind (impl_fmul16 m n (by omega) (by omega)) (Ev.give (by rw [wrap64_id (by omega) (by omega)]; rfl))
    · rw [if_neg (fun h => hb h.2)]
      refine Ev.congr (fun k => by rw [impl_Mul16.f, impl_isWord, Option.bind_some, if_pos (by simp [ha.1, ha.2]), impl_isWord, Option.bind_some]) ?_
      have hbb : decide (0 ≤ b ∧ b < 65536) = false := by simp only [decide_eq_false_iff_not]; exact hb
      rw [hbb]
      exact Ev.step (fun k => by rw [impl_Mul16.j0, if_pos (by rfl)]) (Ev.now _)
  · rw [if_neg (fun h => ha h.1)]
    have haa : decide (0 ≤ a ∧ a < 65536) = false := by simp only [decide_eq_false_iff_not]; exact ha
    refine Ev.congr (fun k => by rw [impl_Mul16.f, impl_isWord, Option.bind_some, haa, if_neg (by decide)]) ?_
    exact Ev.step (fun k => by rw [impl_Mul16.j0, if_pos rfl]) (Ev.now _)

theorem Mul8of_nat (a b : Nat) (ha : a < 256) (hb : b < 256) : Mul8of (a : Int) (b : Int) = ((mul8 a b : Nat) : Int) := by
  unfold Mul8of
  rw [if_pos ⟨⟨by omega, by omega⟩, by omega, by omega⟩]
  rfl

theorem Mul16of_nat (a b : Nat) (ha : a < 65536) (hb : b < 65536) : Mul16of (a : Int) (b : Int) = ((mul16 a b : Nat) : Int) := by
  unfold Mul16of
  rw [if_pos ⟨⟨by omega, by omega⟩, by omega, by omega⟩]
  rfl

/-- What Inv8 answers. -/
def Inv8of (a : Int) : Int := if 0 ≤ a ∧ a < 256 then ((inv8 a.toNat : Nat) : Int) else -1

theorem impl_finv8_l0 : ∀ (n s out : Nat), s < 256 → out < 256 → n ≤ 7 → Ev (fun k => impl_field_uint8_inv.l0 k (out : Int) (s : Int) ((2 ^ n : Nat) : Int) 29 128) ((inv8L n s out : Nat) : Int) := by
  intro n
  induction n with
  | zero =>
    intro s out hs ho hn
    refine Ev.step (fun k => by rw [impl_field_uint8_inv.l0, if_neg (by decide)]) (Ev.give ?_)
    rfl
  | succ n ih =>
    intro s out hs ho hn
    have hp : 2 ^ (n + 1) = 2 * 2 ^ n := by rw [Nat.pow_succ]; omega
    have hpp : 0 < 2 ^ n := Nat.two_pow_pos n
    refine Ev.step (fun k => by rw [impl_field_uint8_inv.l0, if_pos (by omega)]) ?_
    refine Ev.bind (impl_fmul8 out s ho hs) (Ev.bind (impl_fmul8 s s hs hs) ?_)
    have := ih (mul8 s s) (mul8 out s) (mul8_lt s s hs) (mul8_lt out s ho) (by omega)
    rw [show ((2 ^ (n + 1) : Nat) : Int) / 2 = ((2 ^ n : Nat) : Int) by omega]
    exact this
theorem impl_finv8 (a : Nat) (ha : a < 256) : Ev (fun k => impl_field_uint8_inv.f k 29 128 (a : Int)) ((inv8 a : Nat) : Int) := by
  refine Ev.congr (fun k => by rw [impl_field_uint8_inv.f]) ?_
  refine Ev.bind (impl_fmul8 a a ha ha) ?_
  exact impl_finv8_l0 7 (mul8 a a) 1 (mul8_lt a a ha) (by decide) (by decide)

theorem impl_inv8 (a : Int) : Ev (fun k => impl_Inv8.f k a) (Inv8of a) := by
  unfold Inv8of
  by_cases ha : 0 ≤ a ∧ a < 256
  · rw [if_pos ha]
    refine Ev.congr (fun k => by rw [impl_Inv8.f, impl_isByte, Option.bind_some, if_pos (by simp [ha.1, ha.2]), impl_bytes8.f, Option.bind_some]) ?_
    obtain ⟨m, rfl⟩ := Int.eq_ofNat_of_zero_le ha.1
    have hm : (m : Int) % 256 = (m : Int) := by omega
    have hlt := inv8_lt m (by omega)
    rw [hm]
    exact Ev.bind (impl_finv8 m (by omega)) (Ev.give (by rw [wrap64_id (by omega) (by omega)]; rfl))
  · rw [if_neg ha]
    have haa : decide (0 ≤ a ∧ a < 256) = false := by simp only [decide_eq_false_iff_not]; exact ha
    exact Ev.congr (fun k => by rw [impl_Inv8.f, impl_isByte, Option.bind_some, haa, if_neg (by decide)]) (Ev.now _)

/-- What Inv16 answers. -/
def Inv16of (a : Int) : Int := if 0 ≤ a ∧ a < 65536 then ((inv16 a.toNat : Nat) : Int) else -1

theorem impl_finv16_l0 : ∀ (n s out : Nat), s < 65536 → out < 65536 → n ≤ 15 → Ev (fun k => impl_field_uint16_inv.l0 k (out : Int) (s : Int) ((2 ^ n : Nat) : Int) 4107 32768) ((inv16L n s out : Nat) : Int) := by
  intro n
  induction n with
  | zero =>
    intro s out hs ho hn
    refine Ev.step (fun k => by rw [impl_field_uint16_inv.l0, if_neg (by decide)]) (Ev.give ?_)
    rfl
  | succ n ih =>
    intro s out hs ho hn
    have hp : 2 ^ (n + 1) = 2 * 2 ^ n := by rw [Nat.pow_succ]; omega
    have hpp : 0 < 2 ^ n := Nat.two_pow_pos n
    refine Ev.step (fun k => by rw [impl_field_uint16_inv.l0, if_pos (by omega)]) ?_
    refine Ev.bind (impl_fmul16 out s ho hs) (Ev.bind (impl_fmul16 s s hs hs) ?_)
    have := ih (mul16 s s) (mul16 out s) (mul16_lt s s hs) (mul16_lt out s ho) (by omega)
    rw [show ((2 ^ (n + 1) : Nat) : Int) / 2 = ((2 ^ n : Nat) : Int) by omega]
    exact this
theorem impl_finv16 (a : Nat) (ha : a < 65536) : Ev (fun k => impl_field_uint16_inv.f k 4107 32768 (a : Int)) ((inv16 a : Nat) : Int) := by
  refine Ev.congr (fun k => by rw [impl_field_uint16_inv.f]) ?_
  refine Ev.bind (impl_fmul16 a a ha ha) ?_
  exact impl_finv16_l0 15 (mul16 a a) 1 (mul16_lt a a ha) (by decide) (by decide)

theorem impl_inv16 (a : Int) : Ev (fun k => impl_Inv16.f k a) (Inv16of a) := by
  unfold Inv16of
  by_cases ha : 0 ≤ a ∧ a < 65536
  · rw [if_pos ha]
    refine Ev.congr (fun k => by rw [impl_Inv16.f, impl_isWord, Option.bind_some, if_pos (by simp [ha.1, ha.2]), impl_words16.f, Option.bind_some]) ?_
    obtain ⟨m, rfl⟩ := Int.eq_ofNat_of_zero_le ha.1
    have hm : IntKind.u16.wrap (m : Int) = (m : Int) := by rw [IntKind.wrap_u16]; omega
    have hlt := inv16_lt m (by omega)
    rw [hm]
    exact Ev.bind (impl_finv16 m (by omega)) (Ev.give (by rw [wrap64_id (by omega) (by omega)]; rfl))
  · rw [if_neg ha]
    have haa : decide (0 ≤ a ∧ a < 65536) = false := by simp only [decide_eq_false_iff_not]; exact ha
    exact Ev.congr (fun k => by rw [impl_Inv16.f, impl_isWord, Option.bind_some, haa, if_neg (by decide)]) (Ev.now _)

/-- Powers by squares. -/
def powL : Nat → Nat → Nat → Nat → Nat
  | 0, _, _, p => p
  | d + 1, a, n, p => if n = 0 then p else if n % 2 = 1 then powL d (mul8 a a) (n / 2) (mul8 p a) else powL d (mul8 a a) (n / 2) p
theorem powL_lt : ∀ d a n p, a < 256 → p < 256 → powL d a n p < 256 := by
  intro d
  induction d with
  | zero => intro a n p _ hp; exact hp
  | succ d ih =>
    intro a n p ha hp
    rw [powL]
    split
    · exact hp
    · split
      · exact ih _ _ _ (mul8_lt a a ha) (mul8_lt p a hp)
      · exact ih _ _ _ (mul8_lt a a ha) hp
/-- What Pow8 answers. -/
def Pow8of (a n : Int) : Int := if (0 ≤ a ∧ a < 256) ∧ 0 ≤ n then ((powL 63 a.toNat n.toNat 1 : Nat) : Int) else -1

theorem impl_pow8_l0 : ∀ (d a n p : Nat), n < 2 ^ d → n < 9223372036854775808 → a < 256 → p < 256 → Ev (fun k => impl_Pow8.l0 k (n : Int) (p : Int) (a : Int) 29 128) ((powL d a n p : Nat) : Int) := by
  intro d
  induction d with
  | zero =>
    intro a n p hn h64 ha hp
    have : n = 0 := by omega
    subst this
    exact Ev.step (fun k => by rw [impl_Pow8.l0, if_neg (by omega)]) (Ev.give (by rw [wrap64_id (by omega) (by omega)]; rfl))
  | succ d ih =>
    intro a n p hn h64 ha hp
    rw [powL]
    have haa := mul8_lt a a ha
    have hpa := mul8_lt p a hp
    have hn2 : n / 2 < 2 ^ d := by rw [Nat.pow_succ] at hn; exact Nat.div_lt_of_lt_mul (by omega)
    by_cases h0 : n = 0
    · rw [if_pos h0]; subst h0
      exact Ev.step (fun k => by rw [impl_Pow8.l0, if_neg (by omega)]) (Ev.give (by rw [wrap64_id (by omega) (by omega)]))
    · rw [if_neg h0]
      have hd : (n : Int) / 2 = ((n / 2 : Nat) : Int) := rfl
      have hand : Go.bits .and .i64 (n : Int) 1 = ((n % 2 : Nat) : Int) := by
        have := bits_and_i64 n 1 h64 (by decide)
        rw [Nat.and_one_is_mod] at this; exact this
      by_cases hodd : n % 2 = 1
      · rw [if_pos hodd]
        refine Ev.step (fun k => by rw [impl_Pow8.l0, if_pos (by omega), hand, if_neg (by omega), hd]) ?_
        exact Ev.bind (impl_fmul8 p a hp ha) (Ev.bind (impl_fmul8 a a ha ha) (ih _ _ _ hn2 (by omega) haa hpa))
      · rw [if_neg hodd]
        refine Ev.step (fun k => by rw [impl_Pow8.l0, if_pos (by omega), hand, if_pos (by omega), hd]) ?_
        exact Ev.bind (impl_fmul8 a a ha ha) (ih _ _ _ hn2 (by omega) haa hp)
theorem impl_pow8 (a n : Int) (hn : n < 9223372036854775808) : Ev (fun k => impl_Pow8.f k a n) (Pow8of a n) := by
  unfold Pow8of
  by_cases ha : 0 ≤ a ∧ a < 256
  · refine Ev.congr (fun k => by rw [impl_Pow8.f, impl_isByte, Option.bind_some, if_pos (by simp [ha.1, ha.2])]) ?_
    by_cases h0 : 0 ≤ n
    · rw [if_pos ⟨ha, h0⟩]
      obtain ⟨m, rfl⟩ := Int.eq_ofNat_of_zero_le ha.1
      obtain ⟨e, rfl⟩ := Int.eq_ofNat_of_zero_le h0
      have hm : (m : Int) % 256 = (m : Int) := by omega
      refine Ev.step (fun k => by rw [impl_Pow8.j0, if_neg (by simpa using h0), impl_bytes8.f, Option.bind_some, hm]) ?_
      exact impl_pow8_l0 63 m e 1 (by simp only [Nat.reducePow]; omega) (by omega) (by omega) (by decide)
    · rw [if_neg (fun h => h0 h.2)]
      exact Ev.step (fun k => by rw [impl_Pow8.j0, if_pos (by simpa using h0)]) (Ev.now _)
  · rw [if_neg (fun h => ha h.1)]
    have haa : decide (0 ≤ a ∧ a < 256) = false := by simp only [decide_eq_false_iff_not]; exact ha
    refine Ev.congr (fun k => by rw [impl_Pow8.f, impl_isByte, Option.bind_some, haa, if_neg (by decide)]) ?_
    exact Ev.step (fun k => by rw [impl_Pow8.j0, if_pos rfl]) (Ev.now _)

/-! Powers add. -/
def pw8 (a : Nat) : Nat → Nat
  | 0 => 1
  | n + 1 => mul8 (pw8 a n) a
theorem pw8_lt (a : Nat) (ha : a < 256) : ∀ n, pw8 a n < 256 := by
  intro n
  induction n with
  | zero => exact (by decide : (1 : Nat) < 256)
  | succ n ih => exact mul8_lt _ a ih
theorem pw8_add (a : Nat) (ha : a < 256) (m : Nat) : ∀ n, pw8 a (m + n) = mul8 (pw8 a m) (pw8 a n) := by
  intro n
  induction n with
  | zero => exact (mul8_one _ (pw8_lt a ha m)).symm
  | succ n ih =>
    show mul8 (pw8 a (m + n)) a = mul8 (pw8 a m) (mul8 (pw8 a n) a)
    rw [ih, mul8_assoc _ _ a (pw8_lt a ha m) (pw8_lt a ha n)]
theorem pw8_sq (a : Nat) (ha : a < 256) : ∀ n, pw8 (mul8 a a) n = pw8 a (2 * n) := by
  intro n
  induction n with
  | zero => rfl
  | succ n ih =>
    show mul8 (pw8 (mul8 a a) n) (mul8 a a) = pw8 a (2 * n + 1 + 1)
    rw [ih, ← mul8_assoc _ a a (pw8_lt a ha _) ha]
    rfl
theorem powL_pw : ∀ d a n p, n < 2 ^ d → a < 256 → p < 256 → powL d a n p = mul8 p (pw8 a n) := by
  intro d
  induction d with
  | zero =>
    intro a n p hn ha hp
    have : n = 0 := by omega
    subst this
    exact (mul8_one p hp).symm
  | succ d ih =>
    intro a n p hn ha hp
    have hn2 : n / 2 < 2 ^ d := by rw [Nat.pow_succ] at hn; exact Nat.div_lt_of_lt_mul (by omega)
    have haa := mul8_lt a a ha
    rw [powL]
    by_cases h0 : n = 0
    · rw [if_pos h0]; subst h0; exact (mul8_one p hp).symm
    · rw [if_neg h0]
      by_cases hodd : n % 2 = 1
      · rw [if_pos hodd, ih _ _ _ hn2 haa (mul8_lt p a hp), pw8_sq a ha, mul8_assoc p a _ hp ha, mul8_comm a _ ha (pw8_lt a ha _)]
        rw [show mul8 (pw8 a (2 * (n / 2))) a = pw8 a (2 * (n / 2) + 1) from rfl, show 2 * (n / 2) + 1 = n by omega]
      · rw [if_neg hodd, ih _ _ _ hn2 haa hp, pw8_sq a ha, show 2 * (n / 2) = n by omega]
theorem powL_one (a n : Nat) (hn : n < 2 ^ 63) (ha : a < 256) : powL 63 a n 1 = pw8 a n := by
  rw [powL_pw 63 a n 1 hn ha (by decide), mul8_comm 1 _ (by decide) (pw8_lt a ha n), mul8_one _ (pw8_lt a ha n)]
theorem powL_add (a b c : Nat) (ha : a < 256) (hb : b < 1000) (hc : c < 1000) : mul8 (powL 63 a b 1) (powL 63 a c 1) = powL 63 a (b + c) 1 := by
  rw [powL_one a b (by omega) ha, powL_one a c (by omega) ha, powL_one a (b + c) (by omega) ha, pw8_add a ha b c]

/-- A drawn byte. -/
def lwAtN (l : List Int) (i : Nat) : Nat := if i < l.length then (rd l (i : Int)).toNat else (i * 61 + 29) % 256
theorem u8_range {x : Int} (h : (Lit.int .u8 x).wf = true) : 0 ≤ x ∧ x < 256 := by
  simp only [Lit.wf, IntKind.min, IntKind.max, IntKind.signed, IntKind.bits, Bool.and_eq_true, decide_eq_true_eq] at h
  simp at h
  omega
theorem lwAtN_lt (l : List Int) (hl : ∀ x ∈ l, (Lit.int .u8 x).wf = true) (i : Nat) : lwAtN l i < 256 := by
  unfold lwAtN
  by_cases h : i < l.length
  · rw [if_pos h]
    have hr : rd l (i : Int) = l[i] := by unfold rd; rw [Int.toNat_natCast, List.getD_eq_getElem?_getD, List.getElem?_eq_getElem h]; rfl
    have := u8_range (hl _ (List.getElem_mem h))
    rw [hr]; omega
  · rw [if_neg h]; omega
theorem lwAt (l : List Int) (hl : ∀ x ∈ l, (Lit.int .u8 x).wf = true) (i : Nat) (hi : i < 100000) : laws_lwAt.f l (i : Int) = some ((lwAtN l i : Nat) : Int) := by
  unfold laws_lwAt.f lwAtN
  by_cases h : i < l.length
  · have hr : rd l (i : Int) = l[i] := by unfold rd; rw [Int.toNat_natCast, List.getD_eq_getElem?_getD, List.getElem?_eq_getElem h]; rfl
    have := u8_range (hl _ (List.getElem_mem h))
    rw [if_pos (by omega), if_pos (by omega), if_pos h, hr, wrap64_id (by omega) (by omega)]
    congr 1; omega
  · rw [if_neg (by omega), if_neg h, wrap64_id (x := (i : Int) * 61) (by omega) (by omega), wrap64_id (x := (i : Int) * 61 + 29) (by omega) (by omega)]
    try rw [wrap64_id (by omega) (by omega)]
    rw [Int.tmod_eq_emod_of_nonneg (by omega)]
    rfl

theorem mul8_at (a b : Nat) (ha : a < 256) (hb : b < 256) : Ev (fun k => impl_Mul8.f k (a : Int) (b : Int)) ((mul8 a b : Nat) : Int) := by
  have := impl_mul8 (a : Int) (b : Int)
  rwa [Mul8of_nat a b ha hb] at this
theorem smul8_at (a b : Nat) (ha : a < 256) (hb : b < 256) : Ev (fun k => spec_Mul8.f k (a : Int) (b : Int)) ((mul8 a b : Nat) : Int) := by
  have := spec_mul8 (a : Int) (b : Int)
  rwa [Mul8of_nat a b ha hb] at this
theorem mul16_at (a b : Nat) (ha : a < 65536) (hb : b < 65536) : Ev (fun k => impl_Mul16.f k (a : Int) (b : Int)) ((mul16 a b : Nat) : Int) := by
  have := impl_mul16 (a : Int) (b : Int)
  rwa [Mul16of_nat a b ha hb] at this
theorem smul16_at (a b : Nat) (ha : a < 65536) (hb : b < 65536) : Ev (fun k => spec_Mul16.f k (a : Int) (b : Int)) ((mul16 a b : Nat) : Int) := by
  have := spec_mul16 (a : Int) (b : Int)
  rwa [Mul16of_nat a b ha hb] at this
theorem pow8_at (a n : Nat) (ha : a < 256) (hn : n < 1000) : Ev (fun k => impl_Pow8.f k (a : Int) (n : Int)) ((powL 63 a n 1 : Nat) : Int) := by
  have := impl_pow8 (a : Int) (n : Int) (by omega)
  unfold Pow8of at this
  rwa [if_pos ⟨⟨by omega, by omega⟩, by omega⟩] at this
theorem inv8_at (a : Nat) (ha : a < 256) : Ev (fun k => impl_Inv8.f k (a : Int)) ((inv8 a : Nat) : Int) := by
  have := impl_inv8 (a : Int)
  unfold Inv8of at this
  rwa [if_pos ⟨by omega, by omega⟩] at this
theorem inv16_at (a : Nat) (ha : a < 65536) : Ev (fun k => impl_Inv16.f k (a : Int)) ((inv16 a : Nat) : Int) := by
  have := impl_inv16 (a : Int)
  unfold Inv16of at this
  rwa [if_pos ⟨by omega, by omega⟩] at this
theorem field_j3 (x : Nat) (hx : x < 65536) : Ev (fun k => laws_FnField.j3 k (x : Int) false) true := by
  refine Ev.step (fun k => by rw [laws_FnField.j3, if_neg (by decide)]) ?_
  by_cases h0 : x = 0
  · exact Ev.pos (by omega) (Ev.now _)
  · refine Ev.neg (by omega) (Ev.bind (inv16_at x hx) (Ev.bind (mul16_at x _ hx (inv16_lt x hx)) (Ev.give ?_)))
    rw [mul_inv16 x hx h0]; rfl
theorem word_of (u v : Nat) (hu : u < 256) (hv : v < 256) : ∃ x : Nat, x < 65536 ∧ wrap64 ((wrap64 ((u : Int) * 256)) + (v : Int)) = (x : Int) := by
  refine ⟨u * 256 + v, by omega, ?_⟩
  rw [wrap64_id (x := (u : Int) * 256) (by omega) (by omega), wrap64_id (by omega) (by omega)]; rfl
theorem field_j2 (l1 : List Int) (hl : ∀ x ∈ l1, (Lit.int .u8 x).wf = true) : Ev (fun k => laws_FnField.j2 k l1 false) true := by
  have e0 := lwAt l1 hl 0 (by decide)
  have e1 := lwAt l1 hl 1 (by decide)
  have e2 := lwAt l1 hl 2 (by decide)
  have e3 := lwAt l1 hl 3 (by decide)
  have e4 := lwAt l1 hl 4 (by decide)
  have e5 := lwAt l1 hl 5 (by decide)
  have b0 := lwAtN_lt l1 hl 0
  have b1 := lwAtN_lt l1 hl 1
  have b2 := lwAtN_lt l1 hl 2
  have b3 := lwAtN_lt l1 hl 3
  have b4 := lwAtN_lt l1 hl 4
  have b5 := lwAtN_lt l1 hl 5
  refine Ev.step (fun k => by rw [laws_FnField.j2, if_neg (by decide)]) ?_
  refine Ev.bindS e0 (Ev.bindS e1 (Ev.bindS e2 (Ev.bindS e3 (Ev.bindS e4 (Ev.bindS e5 ?_)))))
  obtain ⟨x, bx, ex⟩ := word_of _ _ b0 b1
  obtain ⟨y, bY, ey⟩ := word_of _ _ b2 b3
  obtain ⟨z, bz, ez⟩ := word_of _ _ b4 b5
  rw [ex, ey, ez]
  clear ex ey ez e0 e1 e2 e3 e4 e5 b0 b1 b2 b3 b4 b5
  have hyz : y ^^^ z < 65536 := Nat.xor_lt_two_pow (n := 16) bY bz
  have exz : Go.bits .xor .i64 (y : Int) (z : Int) = ((y ^^^ z : Nat) : Int) := bits_xor_i64 _ _ (by omega) (by omega)
  refine Ev.bind (mul16_at x y bx bY) (Ev.bind (smul16_at x y bx bY) (Ev.pos rfl ?_))
  refine Ev.bind (mul16_at x y bx bY) (Ev.bind (mul16_at y x bY bx) (Ev.pos (by rw [mul16_comm x y bx bY]) ?_))
  have bxy := mul16_lt x y bx
  have bxz := mul16_lt x z bx
  have byz := mul16_lt y z bY
  refine Ev.bind (mul16_at x y bx bY) (Ev.bind (mul16_at _ z bxy bz) (Ev.bind (mul16_at y z bY bz) (Ev.bind (mul16_at x _ bx byz) (Ev.pos (by rw [mul16_assoc x y z bx bY]) ?_))))
  rw [exz]
  refine Ev.bind (mul16_at x _ bx hyz) (Ev.bind (mul16_at x y bx bY) (Ev.bind (mul16_at x z bx bz) ?_))
  rw [bits_xor_i64 _ _ (by omega) (by omega), mul16_xor]
  simp only [bne_self_eq_false]
  exact field_j3 x bx
theorem field_j1 (l1 : List Int) (hl : ∀ x ∈ l1, (Lit.int .u8 x).wf = true) (a b c : Nat) (ha : a < 256) (hb : b < 256) (hc : c < 256) : Ev (fun k => laws_FnField.j1 k l1 (a : Int) (b : Int) (c : Int) false) true := by
  refine Ev.step (fun k => by rw [laws_FnField.j1, if_neg (by decide)]) ?_
  have hbc : wrap64 ((b : Int) + (c : Int)) = ((b + c : Nat) : Int) := by rw [wrap64_id (by omega) (by omega)]; rfl
  have p1 := powL_lt 63 a b 1 ha (by decide)
  have p2 := powL_lt 63 a c 1 ha (by decide)
  have last : Ev (fun k => laws_FnField.j2 k l1 (((mul8 (powL 63 a b 1) (powL 63 a c 1) : Nat) : Int) != ((powL 63 a (b + c) 1 : Nat) : Int))) true := by
    rw [powL_add a b c ha (by omega) (by omega)]
    simp only [bne_self_eq_false]
    exact field_j2 l1 hl
  rw [hbc]
  by_cases h0 : a = 0
  · refine Ev.neg (by omega) ?_
    exact Ev.bind (pow8_at a b ha (by omega)) (Ev.bind (pow8_at a c ha (by omega)) (Ev.bind (mul8_at _ _ p1 p2) (Ev.bind (pow8_at a (b + c) ha (by omega)) last)))
  · refine Ev.pos (by omega) (Ev.bind (inv8_at a ha) (Ev.bind (mul8_at a _ ha (inv8_lt a ha)) (Ev.pos (by rw [mul_inv8 a ha h0]; rfl) ?_)))
    exact Ev.bind (pow8_at a b ha (by omega)) (Ev.bind (pow8_at a c ha (by omega)) (Ev.bind (mul8_at _ _ p1 p2) (Ev.bind (pow8_at a (b + c) ha (by omega)) last)))
theorem field_j0 (l0 l1 : List Int) (h0 : ∀ x ∈ l0, (Lit.int .u8 x).wf = true) (h1 : ∀ x ∈ l1, (Lit.int .u8 x).wf = true) : Ev (fun k => laws_FnField.j0 k l0 l1 false) true := by
  have e0 := lwAt l0 h0 0 (by decide)
  have e1 := lwAt l0 h0 1 (by decide)
  have e2 := lwAt l0 h0 2 (by decide)
  have ha := lwAtN_lt l0 h0 0
  have hb := lwAtN_lt l0 h0 1
  have hc := lwAtN_lt l0 h0 2
  refine Ev.step (fun k => by rw [laws_FnField.j0, if_neg (by decide)]) ?_
  refine Ev.bindS e0 (Ev.bindS e1 (Ev.bindS e2 ?_))
  generalize lwAtN l0 0 = a at ha ⊢
  generalize lwAtN l0 1 = b at hb ⊢
  generalize lwAtN l0 2 = c at hc ⊢
  have hbc : b ^^^ c < 256 := Nat.xor_lt_two_pow (n := 8) hb hc
  have ebc : Go.bits .xor .i64 (b : Int) (c : Int) = ((b ^^^ c : Nat) : Int) := bits_xor_i64 _ _ (by omega) (by omega)
  have bab := mul8_lt a b ha
  have bac := mul8_lt a c ha
  have bbc := mul8_lt b c hb
  refine Ev.bind (mul8_at a b ha hb) (Ev.bind (smul8_at a b ha hb) (Ev.pos rfl ?_))
  refine Ev.bind (mul8_at a b ha hb) (Ev.bind (mul8_at b a hb ha) (Ev.pos (by rw [mul8_comm a b ha hb]) ?_))
  refine Ev.bind (mul8_at a b ha hb) (Ev.bind (mul8_at _ c bab hc) (Ev.bind (mul8_at b c hb hc) (Ev.bind (mul8_at a _ ha bbc) (Ev.pos (by rw [mul8_assoc a b c ha hb]) ?_))))
  rw [ebc]
  refine Ev.bind (mul8_at a _ ha hbc) (Ev.bind (mul8_at a b ha hb) (Ev.bind (mul8_at a c ha hc) ?_))
  rw [bits_xor_i64 _ _ (by omega) (by omega), mul8_xor]
  simp only [bne_self_eq_false]
  exact field_j1 l1 h1 a b c ha hb hc
theorem FnField : laws_FnField.Pure := by
  intro l0 l1 _ _ h0 _ _ h1
  refine Ev.rounds (Ev.congr (fun k => by rw [laws_FnField.f]) ?_)
  have yes : Ev (fun k => laws_FnField.j0 k l0 l1 true) true := Ev.step (fun k => by rw [laws_FnField.j0, if_pos rfl]) (Ev.now _)
  by_cases h : (l0.length : Int) > 1048576
  · exact Ev.pos h yes
  · refine Ev.neg h ?_
    by_cases h' : (l1.length : Int) > 1048576
    · rw [show decide ((l1.length : Int) > 1048576) = true from decide_eq_true h']; exact yes
    · rw [show decide ((l1.length : Int) > 1048576) = false from decide_eq_false h']; exact field_j0 l0 l1 h0 h1

end Go.Proofs.Ytimfdodgecehgaa.Pure
