/- The statement FnExactRepairPlan over numbers and lists alone: the program's RepairPlan and the reference's make the same plan, the arguments unchanged, and what is made is of its own memory. No condition. -/
import Derived.Test.YteflpfkfmohenaaQFnExactRepairPlanx13
import Derived.Laws.BitsAllLaws
import Derived.Laws.Bits64
import Derived.Test.YteflpfkfmohenaaGoodFnExactRepairPlan
set_option linter.all false
namespace Go.Proofs.Yteflpfkfmohenaa.Pure
open Go.RowKit Go.Proofs.Yteflpfkfmohenaa.QFnExactRepairPlan Go.Proofs.YteflpfkfmohenaaW.PrintWords Go.Proofs.YteflpfkfmohenaaW.PrintLast Go.Proofs.YteflpfkfmohenaaW.PrintMore

/-! Small lemmas on wraps, rounds and lists. -/
theorem wrap64_id {x : Int} (h0 : -9223372036854775808 ≤ x) (h1 : x < 9223372036854775808) : wrap64 x = x := by unfold wrap64; omega
theorem u64_id {x : Int} (h0 : 0 ≤ x) (h1 : x < 18446744073709551616) : IntKind.u64.wrap x = x := by rw [IntKind.wrap_u64]; omega
theorem Ev.pos {α : Type} {c : Prop} [Decidable c] {f g : Nat → Option α} {r : α} (h : c) (e : Ev f r) : Ev (fun k => if c then f k else g k) r := by simpa [h] using e
theorem Ev.neg {α : Type} {c : Prop} [Decidable c] {f g : Nat → Option α} {r : α} (h : ¬ c) (e : Ev g r) : Ev (fun k => if c then f k else g k) r := by simpa [h] using e
theorem Ev.bindS {α β : Type} {g : Option α} {f : Nat → α → Option β} {a : α} {r : β} (h : g = some a) (e : Ev (fun k => f k a) r) : Ev (fun k => g.bind (f k)) r := by subst h; simpa using e
theorem Ev.give {α : Type} {r s : α} (h : s = r) : Ev (fun _ => some s) r := by subst h; exact Ev.now _
theorem bt_drop (s : ByteArray) (i : Nat) (h : i < s.size) : ∃ c : UInt8, s.data.toList.drop i = c :: s.data.toList.drop (i + 1) ∧ bt s (i : Int) = (c.toNat : Int) := by
  have hl : i < s.data.toList.length := by simpa using h
  refine ⟨s.data.toList[i], List.drop_eq_getElem_cons hl, ?_⟩
  unfold bt
  rw [dif_pos (by simpa using h)]
  simp [ByteArray.getElem_eq_getElem_data]
theorem drop_end (s : ByteArray) (i : Nat) (h : s.size ≤ i) : s.data.toList.drop i = [] := List.drop_eq_nil_of_le (by simpa using h)
theorem size_strOfNums (l : List Int) : (strOfNums l).size = l.length := by
  show (strOfNums l).data.size = l.length
  simp [strOfNums]
theorem i64_range {n : Int} (h : (Lit.int .i64 n).wf = true) : -9223372036854775808 ≤ n ∧ n < 9223372036854775808 := by
  simp only [Lit.wf, IntKind.min, IntKind.max, IntKind.signed, IntKind.bits, Bool.and_eq_true, decide_eq_true_eq, if_true] at h; omega
theorem byte_eq_int (c d : UInt8) : ((c.toNat : Int) = (d.toNat : Int)) ↔ c = d := by
  constructor
  · intro h; exact UInt8.toNat_inj.1 (by omega)
  · rintro rfl; rfl
theorem byte_eq_lit (c : UInt8) (n : Nat) (hn : n < 256) : ((c.toNat : Int) = (n : Int)) ↔ c = UInt8.ofNat n := by
  rw [← byte_eq_int]
  have : (UInt8.ofNat n).toNat = n := by simp [UInt8.toNat_ofNat']; omega
  rw [this]
theorem bt_get (s : ByteArray) (i : Nat) (h : i < s.size) : ∃ c : UInt8, s.data.toList[i]? = some c ∧ bt s (i : Int) = (c.toNat : Int) := by
  obtain ⟨c, e, hb⟩ := bt_drop s i h
  refine ⟨c, ?_, hb⟩
  have : (s.data.toList.drop i)[0]? = some c := by rw [e]; rfl
  simpa using this

/-! Go's bits at numbers from 0 on. -/
theorem bits_xor_i64 (a b : Nat) (ha : a < 9223372036854775808) (hb : b < 9223372036854775808) : Go.bits .xor .i64 (a : Int) (b : Int) = ((a ^^^ b : Nat) : Int) := by
  have hx : a ^^^ b < 2 ^ 63 := Nat.xor_lt_two_pow (by simpa using ha) (by simpa using hb)
  show IntKind.i64.wrap (((BitVec.ofInt 64 (a : Int)) ^^^ (BitVec.ofInt 64 (b : Int))).toNat : Int) = _
  rw [BitVec.toNat_xor, BitVec.ofInt_natCast, BitVec.ofInt_natCast, BitVec.toNat_ofNat, BitVec.toNat_ofNat, Nat.mod_eq_of_lt (by omega : a < 2 ^ 64), Nat.mod_eq_of_lt (by omega : b < 2 ^ 64), IntKind.wrap_i64]
  omega
theorem bits_and_i64 (a b : Nat) (ha : a < 9223372036854775808) (hb : b < 9223372036854775808) : Go.bits .and .i64 (a : Int) (b : Int) = ((a &&& b : Nat) : Int) := by
  have hx : a &&& b < 2 ^ 63 := Nat.and_lt_two_pow _ (by simpa using hb)
  show IntKind.i64.wrap (((BitVec.ofInt 64 (a : Int)) &&& (BitVec.ofInt 64 (b : Int))).toNat : Int) = _
  rw [BitVec.toNat_and, BitVec.ofInt_natCast, BitVec.ofInt_natCast, BitVec.toNat_ofNat, BitVec.toNat_ofNat, Nat.mod_eq_of_lt (by omega : a < 2 ^ 64), Nat.mod_eq_of_lt (by omega : b < 2 ^ 64), IntKind.wrap_i64]
  omega
theorem bits_xor_u8 (a b : Nat) (ha : a < 256) (hb : b < 256) : Go.bits .xor .u8 (a : Int) (b : Int) = ((a ^^^ b : Nat) : Int) := by
  have hx : a ^^^ b < 2 ^ 8 := Nat.xor_lt_two_pow (by simpa using ha) (by simpa using hb)
  show IntKind.u8.wrap (((BitVec.ofInt 8 (a : Int)) ^^^ (BitVec.ofInt 8 (b : Int))).toNat : Int) = _
  rw [BitVec.toNat_xor, BitVec.ofInt_natCast, BitVec.ofInt_natCast, BitVec.toNat_ofNat, BitVec.toNat_ofNat, Nat.mod_eq_of_lt (by omega : a < 2 ^ 8), Nat.mod_eq_of_lt (by omega : b < 2 ^ 8), IntKind.wrap_u8]
  omega
theorem bits_and_u8 (a b : Nat) (ha : a < 256) (hb : b < 256) : Go.bits .and .u8 (a : Int) (b : Int) = ((a &&& b : Nat) : Int) := by
  have hx : a &&& b < 2 ^ 8 := Nat.and_lt_two_pow _ (by simpa using hb)
  show IntKind.u8.wrap (((BitVec.ofInt 8 (a : Int)) &&& (BitVec.ofInt 8 (b : Int))).toNat : Int) = _
  rw [BitVec.toNat_and, BitVec.ofInt_natCast, BitVec.ofInt_natCast, BitVec.toNat_ofNat, BitVec.toNat_ofNat, Nat.mod_eq_of_lt (by omega : a < 2 ^ 8), Nat.mod_eq_of_lt (by omega : b < 2 ^ 8), IntKind.wrap_u8]
  omega
theorem bits_xor_u16 (a b : Nat) (ha : a < 65536) (hb : b < 65536) : Go.bits .xor .u16 (a : Int) (b : Int) = ((a ^^^ b : Nat) : Int) := by
  have hx : a ^^^ b < 2 ^ 16 := Nat.xor_lt_two_pow (by simpa using ha) (by simpa using hb)
  show IntKind.u16.wrap (((BitVec.ofInt 16 (a : Int)) ^^^ (BitVec.ofInt 16 (b : Int))).toNat : Int) = _
  rw [BitVec.toNat_xor, BitVec.ofInt_natCast, BitVec.ofInt_natCast, BitVec.toNat_ofNat, BitVec.toNat_ofNat, Nat.mod_eq_of_lt (by omega : a < 2 ^ 16), Nat.mod_eq_of_lt (by omega : b < 2 ^ 16), IntKind.wrap_u16]
  omega
theorem bits_and_u16 (a b : Nat) (ha : a < 65536) (hb : b < 65536) : Go.bits .and .u16 (a : Int) (b : Int) = ((a &&& b : Nat) : Int) := by
  have hx : a &&& b < 2 ^ 16 := Nat.and_lt_two_pow _ (by simpa using hb)
  show IntKind.u16.wrap (((BitVec.ofInt 16 (a : Int)) &&& (BitVec.ofInt 16 (b : Int))).toNat : Int) = _
  rw [BitVec.toNat_and, BitVec.ofInt_natCast, BitVec.ofInt_natCast, BitVec.toNat_ofNat, BitVec.toNat_ofNat, Nat.mod_eq_of_lt (by omega : a < 2 ^ 16), Nat.mod_eq_of_lt (by omega : b < 2 ^ 16), IntKind.wrap_u16]
  omega
theorem and_top (w a : Nat) (h : a < 2 ^ (w + 1)) : a &&& 2 ^ w = 0 ↔ a < 2 ^ w := by
  have hp : 0 < 2 ^ w := Nat.two_pow_pos w
  have ht : a.testBit w = decide (2 ^ w ≤ a) := by
    rw [Nat.testBit_eq_decide_div_mod_eq]
    have h2 : a / 2 ^ w < 2 := Nat.div_lt_of_lt_mul (by rw [Nat.pow_succ] at h; exact h)
    by_cases hc : 2 ^ w ≤ a
    · have : 1 ≤ a / 2 ^ w := (Nat.le_div_iff_mul_le hp).2 (by omega)
      have e : a / 2 ^ w = 1 := by omega
      simp [e, hc]
    · have e : a / 2 ^ w = 0 := Nat.div_eq_of_lt (by omega)
      simp [e, hc]
  constructor
  · intro h0
    have hb : (a &&& 2 ^ w).testBit w = false := by rw [h0]; simp
    rw [Nat.testBit_and, Nat.testBit_two_pow_self, Bool.and_true, ht] at hb
    simpa using hb
  · intro hl
    apply Nat.eq_of_testBit_eq
    intro i
    rw [Nat.testBit_and, Nat.zero_testBit, Nat.testBit_two_pow]
    by_cases hi : w = i
    · subst hi
      rw [ht]; simp; omega
    · simp [hi]

/-! Products of polynomials over two elements, modulo one of them. -/
def gdbl (top low a : Nat) : Nat := if top ≤ 2 * a then (2 * a - top) ^^^ low else 2 * a
def gmulL (top low : Nat) : Nat → Nat → Nat → Nat → Nat
  | 0, _, _, p => p
  | n + 1, a, b, p => gmulL top low n (gdbl top low a) (b / 2) (if b % 2 = 1 then p ^^^ a else p)
theorem xor_top (w x low : Nat) (h0 : 2 ^ w ≤ x) (h1 : x < 2 * 2 ^ w) (hl : low < 2 ^ w) : x ^^^ (2 ^ w + low) = (x - 2 ^ w) ^^^ low := by
  have hp : 0 < 2 ^ w := Nat.two_pow_pos w
  have hr : (x - 2 ^ w) ^^^ low < 2 ^ w := Nat.xor_lt_two_pow (by omega) hl
  have hd : (x ^^^ (2 ^ w + low)) / 2 ^ w = 0 := by
    rw [Nat.xor_div_two_pow]
    have e1 : x / 2 ^ w = 1 := by
      have := Nat.div_lt_of_lt_mul (m := x) (n := 2 ^ w) (k := 2) (by omega)
      have := (Nat.le_div_iff_mul_le (x := 1) (y := x) hp).2 (by omega)
      omega
    have e2 : (2 ^ w + low) / 2 ^ w = 1 := by rw [Nat.add_div_left _ hp, Nat.div_eq_of_lt hl]
    rw [e1, e2]; rfl
  have hm : (x ^^^ (2 ^ w + low)) % 2 ^ w = (x - 2 ^ w) ^^^ low := by
    rw [Nat.xor_mod_two_pow]
    have e1 : x % 2 ^ w = x - 2 ^ w := by rw [Nat.mod_eq_sub_mod h0, Nat.mod_eq_of_lt (by omega)]
    have e2 : (2 ^ w + low) % 2 ^ w = low := by rw [Nat.add_mod_left, Nat.mod_eq_of_lt hl]
    rw [e1, e2]
  have := Nat.div_add_mod (x ^^^ (2 ^ w + low)) (2 ^ w)
  rw [hd, hm, Nat.mul_zero, Nat.zero_add] at this
  exact this.symm
theorem gdbl_lt (w low a : Nat) (ha : a < 2 ^ w) (hl : low < 2 ^ w) : gdbl (2 ^ w) low a < 2 ^ w := by
  unfold gdbl
  split
  · exact Nat.xor_lt_two_pow (by omega) hl
  · omega
theorem gmulL_lt (w low : Nat) (hl : low < 2 ^ w) : ∀ n a b p, a < 2 ^ w → p < 2 ^ w → gmulL (2 ^ w) low n a b p < 2 ^ w := by
  intro n
  induction n with
  | zero => intro a b p _ hp; exact hp
  | succ n ih =>
    intro a b p ha hp
    rw [gmulL]
    refine ih _ _ _ (gdbl_lt w low a ha hl) ?_
    split
    · exact Nat.xor_lt_two_pow hp ha
    · exact hp
theorem gmulL_zero (top low : Nat) : ∀ n a p, gmulL top low n a 0 p = p := by
  intro n
  induction n with
  | zero => intro a p; rfl
  | succ n ih => intro a p; rw [gmulL]; simpa using ih _ _
def mul8 (a b : Nat) : Nat := gmulL 256 29 8 a b 0
def mul16 (a b : Nat) : Nat := gmulL 65536 4107 16 a b 0
theorem mul8_lt (a b : Nat) (ha : a < 256) : mul8 a b < 256 := gmulL_lt 8 29 (by decide) 8 a b 0 (by simpa using ha) (by decide)
theorem mul16_lt (a b : Nat) (ha : a < 65536) : mul16 a b < 65536 := gmulL_lt 16 4107 (by decide) 16 a b 0 (by simpa using ha) (by decide)

/-! The algebra of these products: linear in each factor, commutative, associative. -/
theorem xor_even (a b : Nat) : (a ^^^ b) / 2 = a / 2 ^^^ b / 2 := by
  have := Nat.xor_div_two_pow (a := a) (b := b) (n := 1)
  simpa using this
theorem xor_odd (a b : Nat) : (a ^^^ b) % 2 = (a % 2) ^^^ (b % 2) := by
  have := Nat.xor_mod_two_pow (a := a) (b := b) (n := 1)
  simpa using this
theorem xor_dbl (a b : Nat) : 2 * (a ^^^ b) = (2 * a) ^^^ (2 * b) := by
  have := Nat.shiftLeft_xor_distrib (a := a) (b := b) (i := 1)
  simp only [Nat.shiftLeft_eq, Nat.pow_one] at this
  rw [Nat.mul_comm 2 (a ^^^ b), this, Nat.mul_comm a 2, Nat.mul_comm b 2]
theorem xor4 (a b c d : Nat) : (a ^^^ b) ^^^ (c ^^^ d) = (a ^^^ c) ^^^ (b ^^^ d) := by
  rw [Nat.xor_assoc, Nat.xor_assoc]
  congr 1
  rw [← Nat.xor_assoc, Nat.xor_comm b c, Nat.xor_assoc]
theorem gdbl_bit (w low a : Nat) (hl : low < 2 ^ (w + 1)) (ha : a < 2 ^ (w + 1)) : gdbl (2 ^ (w + 1)) low a = (2 * a) ^^^ (if a.testBit w then 2 ^ (w + 1) + low else 0) := by
  have hp : 2 ^ (w + 1) = 2 * 2 ^ w := by rw [Nat.pow_succ]; omega
  have hpp : 0 < 2 ^ w := Nat.two_pow_pos w
  have ht : a.testBit w = decide (2 ^ w ≤ a) := by
    rw [Nat.testBit_eq_decide_div_mod_eq]
    have h2 : a / 2 ^ w < 2 := Nat.div_lt_of_lt_mul (by omega)
    by_cases hc : 2 ^ w ≤ a
    · have : 1 ≤ a / 2 ^ w := (Nat.le_div_iff_mul_le hpp).2 (by omega)
      have e : a / 2 ^ w = 1 := by omega
      simp [e, hc]
    · have e : a / 2 ^ w = 0 := Nat.div_eq_of_lt (by omega)
      simp [e, hc]
  unfold gdbl
  by_cases hc : 2 ^ w ≤ a
  · rw [if_pos (by omega), ht, if_pos (by simpa using hc), xor_top (w + 1) (2 * a) low (by omega) (by omega) hl]
  · rw [if_neg (by omega), ht, if_neg (by simpa using hc), Nat.xor_zero]
theorem gdbl_xor (w low a b : Nat) (hl : low < 2 ^ (w + 1)) (ha : a < 2 ^ (w + 1)) (hb : b < 2 ^ (w + 1)) : gdbl (2 ^ (w + 1)) low (a ^^^ b) = gdbl (2 ^ (w + 1)) low a ^^^ gdbl (2 ^ (w + 1)) low b := by
  rw [gdbl_bit w low a hl ha, gdbl_bit w low b hl hb, gdbl_bit w low _ hl (Nat.xor_lt_two_pow ha hb), xor_dbl, Nat.testBit_xor, xor4]
  congr 1
  cases a.testBit w <;> cases b.testBit w <;> simp
theorem gdbl_zero (top low : Nat) (h : 0 < top) : gdbl top low 0 = 0 := by unfold gdbl; rw [if_neg (by omega)]
theorem gmulL_acc (top low : Nat) : ∀ n a b p, gmulL top low n a b p = p ^^^ gmulL top low n a b 0 := by
  intro n
  induction n with
  | zero => intro a b p; simp [gmulL]
  | succ n ih =>
    intro a b p
    rw [gmulL, gmulL, ih _ _ (if b % 2 = 1 then p ^^^ a else p), ih _ _ (if b % 2 = 1 then 0 ^^^ a else 0), ← Nat.xor_assoc]
    congr 1
    split <;> simp
theorem gmulL_succ (top low n a b : Nat) : gmulL top low (n + 1) a b 0 = (if b % 2 = 1 then a else 0) ^^^ gmulL top low n (gdbl top low a) (b / 2) 0 := by
  rw [gmulL, gmulL_acc]
  congr 1
  split <;> simp
section
variable (w low : Nat) (hl : low < 2 ^ (w + 1))
include hl
theorem gm_lt (n a b : Nat) (ha : a < 2 ^ (w + 1)) : gmulL (2 ^ (w + 1)) low n a b 0 < 2 ^ (w + 1) := gmulL_lt (w + 1) low hl n a b 0 ha (Nat.two_pow_pos _)
theorem gm_xor_left : ∀ n a a' b, a < 2 ^ (w + 1) → a' < 2 ^ (w + 1) → gmulL (2 ^ (w + 1)) low n (a ^^^ a') b 0 = gmulL (2 ^ (w + 1)) low n a b 0 ^^^ gmulL (2 ^ (w + 1)) low n a' b 0 := by
  intro n
  induction n with
  | zero => intro a a' b _ _; simp [gmulL]
  | succ n ih =>
    intro a a' b ha ha'
    rw [gmulL_succ, gmulL_succ, gmulL_succ, gdbl_xor w low a a' hl ha ha', ih _ _ _ (gdbl_lt (w + 1) low a ha hl) (gdbl_lt (w + 1) low a' ha' hl), xor4]
    congr 1
    split <;> simp
omit hl in
theorem gm_xor_right : ∀ n a b b', gmulL (2 ^ (w + 1)) low n a (b ^^^ b') 0 = gmulL (2 ^ (w + 1)) low n a b 0 ^^^ gmulL (2 ^ (w + 1)) low n a b' 0 := by
  intro n
  induction n with
  | zero => intro a b b'; simp [gmulL]
  | succ n ih =>
    intro a b b'
    rw [gmulL_succ, gmulL_succ, gmulL_succ, xor_even, ih, xor_odd, xor4]
    congr 1
    rcases Nat.mod_two_eq_zero_or_one b with h | h <;> rcases Nat.mod_two_eq_zero_or_one b' with h' | h' <;> simp [h, h']
/-- A factor doubled doubles the product. -/
theorem gm_dbl_left : ∀ n a b, a < 2 ^ (w + 1) → gmulL (2 ^ (w + 1)) low n (gdbl (2 ^ (w + 1)) low a) b 0 = gdbl (2 ^ (w + 1)) low (gmulL (2 ^ (w + 1)) low n a b 0) := by
  intro n
  induction n with
  | zero =>
    intro a b _
    rw [show gmulL (2 ^ (w + 1)) low 0 a b 0 = 0 from rfl, gdbl_zero _ _ (Nat.two_pow_pos _)]; rfl
  | succ n ih =>
    intro a b ha
    have hg := gdbl_lt (w + 1) low a ha hl
    have hsel : (if b % 2 = 1 then a else 0) < 2 ^ (w + 1) := by
      split
      · exact ha
      · exact Nat.two_pow_pos _
    rw [gmulL_succ, gmulL_succ, ih _ _ hg, gdbl_xor w low _ _ hl hsel (gm_lt w low hl n _ _ hg)]
    congr 1
    split
    · rfl
    · rw [gdbl_zero _ _ (Nat.two_pow_pos _)]
end
/-- Two linear maps that agree at each power of two below 2^n agree below 2^n. -/
theorem linear_ext (f g : Nat → Nat) : ∀ n, (∀ a b, a < 2 ^ n → b < 2 ^ n → f (a ^^^ b) = f a ^^^ f b) → (∀ a b, a < 2 ^ n → b < 2 ^ n → g (a ^^^ b) = g a ^^^ g b) → (∀ i, i < n → f (2 ^ i) = g (2 ^ i)) → ∀ a, a < 2 ^ n → f a = g a := by
  intro n
  induction n with
  | zero =>
    intro hf hg _ a ha
    have : a = 0 := by omega
    subst this
    have h1 := hf 0 0 (by omega) (by omega)
    have h2 := hg 0 0 (by omega) (by omega)
    simp at h1 h2
    rw [h1, h2]
  | succ n ih =>
    intro hf hg hi a ha
    have hp : 2 ^ (n + 1) = 2 * 2 ^ n := by rw [Nat.pow_succ]; omega
    have hpp : 0 < 2 ^ n := Nat.two_pow_pos n
    have low := ih (fun a b ha hb => hf a b (by omega) (by omega)) (fun a b ha hb => hg a b (by omega) (by omega)) (fun i h => hi i (by omega))
    by_cases h : a < 2 ^ n
    · exact low a h
    · have e : a = 2 ^ n ^^^ (a - 2 ^ n) := by
        have := xor_top n a 0 (by omega) (by omega) (by omega)
        rw [Nat.add_zero, Nat.xor_zero] at this
        rw [← this, Nat.xor_comm a, ← Nat.xor_assoc, Nat.xor_self, Nat.zero_xor]
      rw [e, hf _ _ (by omega) (by omega), hg _ _ (by omega) (by omega), hi n (by omega), low _ (by omega)]
/-- What commutes at the powers of two commutes. -/
theorem gm_comm (w low : Nat) (hl : low < 2 ^ (w + 1)) (n : Nat) (hb : ∀ i, i < w + 1 → ∀ j, j < w + 1 → gmulL (2 ^ (w + 1)) low n (2 ^ i) (2 ^ j) 0 = gmulL (2 ^ (w + 1)) low n (2 ^ j) (2 ^ i) 0) :
    ∀ a b, a < 2 ^ (w + 1) → b < 2 ^ (w + 1) → gmulL (2 ^ (w + 1)) low n a b 0 = gmulL (2 ^ (w + 1)) low n b a 0 := by
  intro a b ha hbb
  refine linear_ext (fun a => gmulL (2 ^ (w + 1)) low n a b 0) (fun a => gmulL (2 ^ (w + 1)) low n b a 0) (w + 1) (fun x y hx hy => gm_xor_left w low hl n x y b hx hy) (fun x y _ _ => gm_xor_right w low n b x y) (fun i hi => ?_) a ha
  refine linear_ext (fun b => gmulL (2 ^ (w + 1)) low n (2 ^ i) b 0) (fun b => gmulL (2 ^ (w + 1)) low n b (2 ^ i) 0) (w + 1) (fun x y _ _ => gm_xor_right w low n (2 ^ i) x y) (fun x y hx hy => gm_xor_left w low hl n x y (2 ^ i) hx hy) (fun j hj => hb i hi j hj) b hbb
/-- Associativity, out of commutativity: induction on the rounds of the outer product. -/
theorem gm_assoc (w low : Nat) (hl : low < 2 ^ (w + 1)) (n : Nat) (hc : ∀ a b, a < 2 ^ (w + 1) → b < 2 ^ (w + 1) → gmulL (2 ^ (w + 1)) low n a b 0 = gmulL (2 ^ (w + 1)) low n b a 0) :
    ∀ m a b c, a < 2 ^ (w + 1) → b < 2 ^ (w + 1) → gmulL (2 ^ (w + 1)) low m (gmulL (2 ^ (w + 1)) low n a b 0) c 0 = gmulL (2 ^ (w + 1)) low n a (gmulL (2 ^ (w + 1)) low m b c 0) 0 := by
  intro m
  induction m with
  | zero =>
    intro a b c ha hb
    rw [show gmulL (2 ^ (w + 1)) low 0 (gmulL (2 ^ (w + 1)) low n a b 0) c 0 = 0 from rfl, show gmulL (2 ^ (w + 1)) low 0 b c 0 = 0 from rfl, gmulL_zero]
  | succ m ih =>
    intro a b c ha hb
    have hg := gdbl_lt (w + 1) low b hb hl
    have h1 : gdbl (2 ^ (w + 1)) low (gmulL (2 ^ (w + 1)) low n a b 0) = gmulL (2 ^ (w + 1)) low n a (gdbl (2 ^ (w + 1)) low b) 0 := by
      rw [hc a b ha hb, ← gm_dbl_left w low hl n b a hb, hc _ _ hg ha]
    rw [gmulL_succ, gmulL_succ, h1, ih _ _ _ ha hg, gm_xor_right]
    congr 1
    split
    · rfl
    · rw [gmulL_zero]

theorem mul8_comm (a b : Nat) (ha : a < 256) (hb : b < 256) : mul8 a b = mul8 b a :=
  gm_comm 7 29 (by decide) 8 (by decide +kernel) a b ha hb
theorem mul8_assoc (a b c : Nat) (ha : a < 256) (hb : b < 256) : mul8 (mul8 a b) c = mul8 a (mul8 b c) :=
  gm_assoc 7 29 (by decide) 8 (gm_comm 7 29 (by decide) 8 (by decide +kernel)) 8 a b c ha hb
theorem mul8_xor (a b c : Nat) : mul8 a (b ^^^ c) = mul8 a b ^^^ mul8 a c := gm_xor_right 7 29 8 a b c
theorem mul8_xor_left (a b c : Nat) (ha : a < 256) (hb : b < 256) : mul8 (a ^^^ b) c = mul8 a c ^^^ mul8 b c := gm_xor_left 7 29 (by decide) 8 a b c ha hb
theorem mul8_one (a : Nat) (ha : a < 256) : mul8 a 1 = a := by
  have key : ∀ x : Fin 256, mul8 x.val 1 = x.val := by decide +kernel
  exact key ⟨a, ha⟩

/-! In the field of 256 what is not 0 has one inverse. -/
def inv8L : Nat → Nat → Nat → Nat
  | 0, _, out => out
  | n + 1, s, out => inv8L n (mul8 s s) (mul8 out s)
def inv8 (a : Nat) : Nat := inv8L 7 (mul8 a a) 1
theorem inv8L_lt : ∀ n s out, s < 256 → out < 256 → inv8L n s out < 256 := by
  intro n
  induction n with
  | zero => intro s out _ h; exact h
  | succ n ih => intro s out hs ho; exact ih _ _ (mul8_lt s s hs) (mul8_lt out s ho)
theorem inv8_lt (a : Nat) (h : a < 256) : inv8 a < 256 := inv8L_lt 7 _ _ (mul8_lt a a h) (by decide)
theorem mul8_zero (a : Nat) : mul8 a 0 = 0 := gmulL_zero _ _ _ _ _
theorem zero_mul8 (a : Nat) (h : a < 256) : mul8 0 a = 0 := by rw [mul8_comm 0 a (by decide) h, mul8_zero]
theorem one_mul8 (a : Nat) (h : a < 256) : mul8 1 a = a := by rw [mul8_comm 1 a (by decide) h, mul8_one a h]
theorem mul_inv8 (a : Nat) (h : a < 256) (h0 : a ≠ 0) : mul8 a (inv8 a) = 1 := by
  have key : ∀ x : Fin 256, x.val ≠ 0 → mul8 x.val (inv8 x.val) = 1 := by decide +kernel
  exact key ⟨a, h⟩ h0
theorem inv8_zero : inv8 0 = 0 := by decide +kernel
theorem inv8_one_only (a x : Nat) (h : a < 256) (hx : x < 256) (h1 : mul8 a x = 1) : x = inv8 a := by
  by_cases h0 : a = 0
  · subst h0; rw [zero_mul8 x hx] at h1; exact absurd h1 (by decide)
  · have e := mul_inv8 a h h0
    have hi := inv8_lt a h
    calc x = mul8 x 1 := (mul8_one x hx).symm
      _ = mul8 x (mul8 a (inv8 a)) := by rw [e]
      _ = mul8 (mul8 x a) (inv8 a) := (mul8_assoc x a _ hx h).symm
      _ = mul8 (mul8 a x) (inv8 a) := by rw [mul8_comm x a hx h]
      _ = inv8 a := by rw [h1, one_mul8 _ hi]

theorem spec_in (a top : Int) : spec_l02In.f a top = some (decide (0 ≤ a ∧ a < top)) := by
  unfold spec_l02In.f
  by_cases h : a ≥ 0
  · rw [if_pos h]; simp [show 0 ≤ a from h]
  · rw [if_neg h]; simp [show ¬ 0 ≤ a from h]

theorem spec_times_l0 (w low poly : Nat) (hw : w ≤ 16) (hp : poly = 2 ^ w + low) (hl : low < 2 ^ w) : ∀ (n a b p : Nat), b < 2 ^ n → b < 65536 → a < 2 ^ w → p < 2 ^ w →
    Ev (fun k => spec_l02Times.l0 k (a : Int) (b : Int) (poly : Int) ((2 ^ w : Nat) : Int) (p : Int)) ((gmulL (2 ^ w) low n a b p : Nat) : Int) := by
  have h16 : 2 ^ w ≤ 65536 := Nat.pow_le_pow_right (n := 2) (by decide) hw
  intro n
  induction n with
  | zero =>
    intro a b p hb hb1 ha hpp
    have : b = 0 := by omega
    subst this
    refine Ev.step (fun k => by rw [spec_l02Times.l0, if_neg (by omega)]) (Ev.give ?_)
    rfl
  | succ n ih =>
    intro a b p hb hb1 ha hpp
    by_cases h0 : b = 0
    · subst h0
      rw [gmulL_zero]
      refine Ev.step (fun k => by rw [spec_l02Times.l0, if_neg (by omega)]) (Ev.give ?_)
      rfl
    · have hd : wrap64 (Int.tdiv (b : Int) 2) = ((b / 2 : Nat) : Int) := by
        rw [Int.tdiv_eq_ediv_of_nonneg (by omega), wrap64_id (by omega) (by omega)]; rfl
      have hm : Int.tmod (b : Int) 2 = ((b % 2 : Nat) : Int) := by rw [Int.tmod_eq_emod_of_nonneg (by omega)]; rfl
      have ha2 : wrap64 ((a : Int) * 2) = ((2 * a : Nat) : Int) := by rw [wrap64_id (by omega) (by omega)]; omega
      have hx : Go.bits .xor .i64 ((2 * a : Nat) : Int) (poly : Int) = (((2 * a) ^^^ poly : Nat) : Int) := bits_xor_i64 _ _ (by omega) (by omega)
      have hpx : Go.bits .xor .i64 (p : Int) (a : Int) = ((p ^^^ a : Nat) : Int) := bits_xor_i64 _ _ (by omega) (by omega)
      have hb2 : b / 2 < 2 ^ n := by rw [Nat.pow_succ] at hb; exact Nat.div_lt_of_lt_mul (by omega)
      have hxa : p ^^^ a < 2 ^ w := Nat.xor_lt_two_pow hpp ha
      have hg := gdbl_lt w low a ha hl
      rw [gmulL]
      by_cases hodd : b % 2 = 1
      · rw [if_pos hodd]
        by_cases ht : 2 ^ w ≤ 2 * a
        · have hga : (2 * a) ^^^ poly = gdbl (2 ^ w) low a := by unfold gdbl; rw [if_pos ht, hp, xor_top w _ _ ht (by omega) hl]
          refine Ev.step (fun k => by rw [spec_l02Times.l0, if_pos (by omega), hm, if_pos (by omega), ha2, if_pos (by omega), hd, hx, hpx, hga]) ?_
          exact ih _ _ _ hb2 (by omega) hg hxa
        · have hga : 2 * a = gdbl (2 ^ w) low a := by unfold gdbl; rw [if_neg ht]
          refine Ev.step (fun k => by rw [spec_l02Times.l0, if_pos (by omega), hm, if_pos (by omega), ha2, if_neg (by omega), hd, hpx, hga]) ?_
          exact ih _ _ _ hb2 (by omega) hg hxa
      · rw [if_neg hodd]
        by_cases ht : 2 ^ w ≤ 2 * a
        · have hga : (2 * a) ^^^ poly = gdbl (2 ^ w) low a := by unfold gdbl; rw [if_pos ht, hp, xor_top w _ _ ht (by omega) hl]
          refine Ev.step (fun k => by rw [spec_l02Times.l0, if_pos (by omega), hm, if_neg (by omega), ha2, if_pos (by omega), hd, hx, hga]) ?_
          exact ih _ _ _ hb2 (by omega) hg hpp
        · have hga : 2 * a = gdbl (2 ^ w) low a := by unfold gdbl; rw [if_neg ht]
          refine Ev.step (fun k => by rw [spec_l02Times.l0, if_pos (by omega), hm, if_neg (by omega), ha2, if_neg (by omega), hd, hga]) ?_
          exact ih _ _ _ hb2 (by omega) hg hpp

/-- What Mul8 answers. -/
def Mul8of (a b : Int) : Int := if (0 ≤ a ∧ a < 256) ∧ (0 ≤ b ∧ b < 256) then ((mul8 a.toNat b.toNat : Nat) : Int) else -1
theorem spec_mul8 (a b : Int) : Ev (fun k => spec_Mul8.f k a b) (Mul8of a b) := by
  unfold Mul8of
  by_cases ha : 0 ≤ a ∧ a < 256
  · by_cases hb : 0 ≤ b ∧ b < 256
    · rw [if_pos ⟨ha, hb⟩]
      refine Ev.congr (fun k => by rw [spec_Mul8.f, spec_in, Option.bind_some, if_pos (by simp [ha.1, ha.2]), spec_in, Option.bind_some, if_pos (by simp [hb.1, hb.2])]) ?_
      obtain ⟨m, rfl⟩ := Int.eq_ofNat_of_zero_le ha.1
      obtain ⟨n, rfl⟩ := Int.eq_ofNat_of_zero_le hb.1
      exact Ev.bind (spec_times_l0 8 29 285 (by decide) (by decide) (by decide) 8 m n 0 (by simp only [Nat.reducePow]; omega) (by omega) (by simp only [Nat.reducePow]; omega) (by decide)) (Ev.give rfl)
    · rw [if_neg (fun h => hb h.2)]
      refine Ev.congr (fun k => by rw [spec_Mul8.f, spec_in, Option.bind_some, if_pos (by simp [ha.1, ha.2]), spec_in, Option.bind_some, if_neg (by simpa using fun h => by omega)]) (Ev.give rfl)
  · rw [if_neg (fun h => ha h.1)]
    refine Ev.congr (fun k => by rw [spec_Mul8.f, spec_in, Option.bind_some, if_neg (by simpa using fun h => by omega)]) (Ev.give rfl)

theorem Mul8of_nat (a b : Nat) (ha : a < 256) (hb : b < 256) : Mul8of (a : Int) (b : Int) = ((mul8 a b : Nat) : Int) := by
  unfold Mul8of
  rw [if_pos ⟨⟨by omega, by omega⟩, by omega, by omega⟩]
  rfl

/-- What Inv8 answers. -/
def Inv8of (a : Int) : Int := if 0 ≤ a ∧ a < 256 then ((inv8 a.toNat : Nat) : Int) else -1

theorem spec_inv8_l0 (a : Nat) (ha : a < 256) : ∀ (d x : Nat), 256 - x = d → 1 ≤ x → x ≤ 256 → (∀ y, y < x → 1 ≤ y → mul8 a y ≠ 1) → Ev (fun k => spec_Inv8.l0 k (a : Int) (x : Int)) ((inv8 a : Nat) : Int) := by
  intro d
  induction d with
  | zero =>
    intro x hd h1 hx hno
    have h0 : a = 0 := by
      by_cases h0 : a = 0
      · exact h0
      · have hi := inv8_lt a ha
        have he := mul_inv8 a ha h0
        have hi0 : inv8 a ≠ 0 := fun h => by rw [h, mul8_zero] at he; exact absurd he (by decide)
        exact absurd he (hno (inv8 a) (by omega) (by omega))
    subst h0
    rw [inv8_zero]
    refine Ev.step (fun k => by rw [spec_Inv8.l0, if_neg (by omega)]) (Ev.give ?_)
    rfl
  | succ d ih =>
    intro x hd h1 hx hno
    have hm := spec_mul8 (a : Int) (x : Int)
    rw [Mul8of_nat a x ha (by omega)] at hm
    refine Ev.step (fun k => by rw [spec_Inv8.l0, if_pos (by omega)]) ?_
    refine Ev.bind hm ?_
    by_cases he : mul8 a x = 1
    · refine Ev.pos (by omega) (Ev.give ?_)
      rw [inv8_one_only a x ha (by omega) he]
    · refine Ev.neg (by omega) ?_
      have := ih (x + 1) (by omega) (by omega) (by omega) (fun y hy hy1 => by
        by_cases e : y = x
        · subst e; exact he
        · exact hno y (by omega) hy1)
      rw [wrap64_id (by omega) (by omega)]
      exact this
theorem spec_inv8 (a : Int) : Ev (fun k => spec_Inv8.f k a) (Inv8of a) := by
  unfold Inv8of
  by_cases ha : 0 ≤ a ∧ a < 256
  · rw [if_pos ha]
    refine Ev.congr (fun k => by rw [spec_Inv8.f, spec_in, Option.bind_some, if_pos (by simp [ha.1, ha.2])]) ?_
    obtain ⟨m, rfl⟩ := Int.eq_ofNat_of_zero_le ha.1
    exact spec_inv8_l0 m (by omega) 255 1 (by omega) (by omega) (by omega) (fun y hy hy1 => by omega)
  · rw [if_neg ha]
    refine Ev.congr (fun k => by rw [spec_Inv8.f, spec_in, Option.bind_some, if_neg (by simpa using fun h => by omega)]) (Ev.now _)

/-! Lists of numbers: copied, held against one another, counted. -/
theorem set_prefix_id {α : Type} (z : α) (l : List α) (i : Nat) (h : i < l.length) (x : α) (hx : l[i]? = some x) :
    (l.take i ++ List.replicate (l.length - i) z).set i x = l.take (i + 1) ++ List.replicate (l.length - (i + 1)) z := by
  have h1 : (l.take i).length = i := by simp; omega
  rw [List.set_append_right _ _ (by omega), h1, Nat.sub_self]
  have h2 : List.replicate (l.length - i) z = z :: List.replicate (l.length - (i + 1)) z := by
    rw [show l.length - i = (l.length - (i + 1)) + 1 by omega]; rfl
  rw [h2, List.set_cons_zero, List.take_add_one, hx]
  simp
theorem rd_at (l : List Int) (i : Nat) (h : i < l.length) : rd l (i : Int) = l[i] := by
  unfold rd; rw [Int.toNat_natCast, List.getD_eq_getElem?_getD, List.getElem?_eq_getElem h]; rfl
theorem eqInt64S_l0 (l : List Int) (hl : l.length ≤ 1048576) : ∀ (d i : Nat), l.length - i = d → i ≤ l.length → Ev (fun k => laws_eqInt64S.l0 k l l (i : Int)) true := by
  intro d
  induction d with
  | zero =>
    intro i hd hi
    exact Ev.step (fun k => by rw [laws_eqInt64S.l0, if_neg (by omega)]) (Ev.now _)
  | succ d ih =>
    intro i hd hi
    have hw : wrap64 ((i : Int) + 1) = ((i + 1 : Nat) : Int) := by rw [wrap64_id (by omega) (by omega)]; rfl
    refine Ev.step (fun k => by rw [laws_eqInt64S.l0, if_pos (by omega), if_pos (by omega), if_pos (by omega), if_pos rfl, hw]) ?_
    exact ih (i + 1) (by omega) (by omega)
theorem eqInt64S (l : List Int) (hl : l.length ≤ 1048576) : Ev (fun k => laws_eqInt64S.f k l l) true := by
  refine Ev.congr (fun k => by rw [laws_eqInt64S.f, if_pos rfl]) ?_
  exact eqInt64S_l0 l hl l.length 0 rfl (by omega)

/-! A list that is written over with rising numbers, and read again. -/
def markL (a : Int) (n : Nat) : List Int := (List.range n).map fun i : Nat => a + (i : Int)
theorem markL_length (a : Int) (n : Nat) : (markL a n).length = n := by simp [markL]
theorem markL_succ (a : Int) (n : Nat) : markL a (n + 1) = markL a n ++ [a + (n : Int)] := by unfold markL; rw [List.range_succ, List.map_append]; rfl
theorem markL_rd (a : Int) (n i : Nat) (h : i < n) : rd (markL a n) (i : Int) = a + (i : Int) := by
  rw [rd_at _ i (by rw [markL_length]; exact h)]
  simp [markL]
theorem markInt64S_l0 (l : List Int) (hl : l.length ≤ 1048576) (a : Int) (ha : 0 ≤ a ∧ a ≤ 1000000000) : ∀ (d i : Nat), l.length - i = d → i ≤ l.length →
    Ev (fun k => laws_markInt64S.l0 k (markL a i ++ l.drop i) (a + (i : Int)) (i : Int)) (a + (l.length : Int), markL a l.length) := by
  intro d
  induction d with
  | zero =>
    intro i hd hi
    have e : i = l.length := by omega
    subst e
    refine Ev.step (fun k => by rw [laws_markInt64S.l0, if_neg (by rw [List.length_append, markL_length, List.length_drop]; omega)]) (Ev.give ?_)
    rw [List.drop_length, List.append_nil]
  | succ d ih =>
    intro i hd hi
    have hlt : i < l.length := by omega
    have hs : (markL a i ++ l.drop i).set i (a + (i : Int)) = markL a (i + 1) ++ l.drop (i + 1) := by
      rw [List.set_append_right _ _ (by rw [markL_length]; exact Nat.le_refl i), markL_length, Nat.sub_self, List.drop_eq_getElem_cons hlt, List.set_cons_zero, markL_succ, List.append_assoc]
      rfl
    refine Ev.step (fun k => by rw [laws_markInt64S.l0, if_pos (by rw [List.length_append, markL_length, List.length_drop]; omega), if_pos (by omega), Int.toNat_natCast, hs, wrap64_id (x := a + (i : Int) + 1) (by omega) (by omega), wrap64_id (x := (i : Int) + 1) (by omega) (by omega), show a + (i : Int) + 1 = a + ((i + 1 : Nat) : Int) by omega]) ?_
    exact ih (i + 1) (by omega) (by omega)
theorem markInt64S (l : List Int) (hl : l.length ≤ 1048576) (a : Int) (ha : 0 ≤ a ∧ a ≤ 1000000000) : Ev (fun k => laws_markInt64S.f k l a) (a + (l.length : Int), markL a l.length) := by
  have := markInt64S_l0 l hl a ha l.length 0 (by omega) (by omega)
  rw [show a + ((0 : Nat) : Int) = a by omega] at this
  exact Ev.congr (fun k => by rw [laws_markInt64S.f]; rfl) this
theorem heldInt64S_l0 (n : Nat) (hn : n ≤ 1048576) (a : Int) (ha : 0 ≤ a ∧ a ≤ 1000000000) : ∀ (d i : Nat), n - i = d → i ≤ n →
    Ev (fun k => laws_heldInt64S.l0 k (markL a n) (a + (i : Int)) (i : Int)) (a + (n : Int)) := by
  intro d
  induction d with
  | zero =>
    intro i hd hi
    have e : i = n := by omega
    subst e
    exact Ev.step (fun k => by rw [laws_heldInt64S.l0, if_neg (by rw [markL_length]; omega)]) (Ev.now _)
  | succ d ih =>
    intro i hd hi
    refine Ev.step (fun k => by rw [laws_heldInt64S.l0, if_pos (by rw [markL_length]; omega), if_pos (by omega), markL_rd a n i (by omega), if_pos rfl, wrap64_id (x := a + (i : Int) + 1) (by omega) (by omega), wrap64_id (x := (i : Int) + 1) (by omega) (by omega), show a + (i : Int) + 1 = a + ((i + 1 : Nat) : Int) by omega]) ?_
    exact ih (i + 1) (by omega) (by omega)
theorem heldInt64S (n : Nat) (hn : n ≤ 1048576) (a : Int) (ha : 0 ≤ a ∧ a ≤ 1000000000) : Ev (fun k => laws_heldInt64S.f k (markL a n) a) (a + (n : Int)) := by
  have := heldInt64S_l0 n hn a ha n 0 (by omega) (by omega)
  rw [show a + ((0 : Nat) : Int) = a by omega] at this
  exact Ev.congr (fun k => by rw [laws_heldInt64S.f]; rfl) this

/-- What CodeFault answers. -/
def codeFaultOf (K M G : Int) : Int := if 1 ≤ K ∧ K ≤ 32 ∧ 0 ≤ M ∧ M ≤ 16 ∧ 0 ≤ G ∧ G ≤ K ∧ K + M + G ≤ 64 then 0 else 1
theorem spec_codeFault (a b c : Int) : spec_CodeFault.f a b c = some (codeFaultOf a b c) := by
  unfold spec_CodeFault.f codeFaultOf
  by_cases h1 : a < 1
  · rw [if_pos h1, if_neg (by omega)]
  · rw [if_neg h1]
    by_cases h2 : a > 32
    · rw [if_pos h2, if_neg (by omega)]
    · rw [if_neg h2]
      by_cases h3 : b < 0
      · rw [if_pos h3, if_neg (by omega)]
      · rw [if_neg h3]
        by_cases h4 : b > 16
        · rw [if_pos h4, if_neg (by omega)]
        · rw [if_neg h4]
          by_cases h5 : c < 0
          · rw [if_pos h5, if_neg (by omega)]
          · rw [if_neg h5]
            by_cases h6 : c > a
            · rw [if_pos h6, if_neg (by omega)]
            · rw [if_neg h6, wrap64_id (x := a + b) (by omega) (by omega), wrap64_id (x := a + b + c) (by omega) (by omega)]
              by_cases h7 : a + b + c > 64
              · rw [if_pos h7, if_neg (by omega)]
              · rw [if_neg h7, if_pos (by omega)]
theorem impl_codeFault (a b c : Int) : impl_CodeFault.f a b c = some (codeFaultOf a b c) := spec_codeFault a b c
theorem codeFault_zero {a b c : Int} (h : codeFaultOf a b c = 0) : 1 ≤ a ∧ a ≤ 32 ∧ 0 ≤ b ∧ b ≤ 16 ∧ 0 ≤ c ∧ c ≤ a ∧ a + b + c ≤ 64 := by
  unfold codeFaultOf at h
  by_cases hc : 1 ≤ a ∧ a ≤ 32 ∧ 0 ≤ b ∧ b ≤ 16 ∧ 0 ≤ c ∧ c ≤ a ∧ a + b + c ≤ 64
  · exact hc
  · rw [if_neg hc] at h; exact absurd h (by decide)

/-! The table's inverse is the field's. -/
theorem tabInv_field (a : Nat) (h : a < 256) : tabInv a = inv8 a := by
  have key : ∀ x : Fin 256, tabInv x.val = inv8 x.val := by decide +kernel
  exact key ⟨a, h⟩
theorem inv8_ev (m : Nat) (h : m < 256) : Ev (fun k => spec_Inv8.f k (m : Int)) ((inv8 m : Nat) : Int) := by
  have hinv := spec_inv8 (m : Int)
  unfold Inv8of at hinv
  rwa [if_pos ⟨by omega, by omega⟩, Int.toNat_natCast] at hinv
theorem xr_lt (i j : Nat) (hi : i < 64) (hj : j < 64) : xr i j < 64 := Nat.xor_lt_two_pow (n := 6) (by omega) (by omega)
theorem xr_bits (i j : Nat) (hi : i < 64) (hj : j < 64) : Go.bits .xor .i64 (i : Int) (j : Int) = ((xr i j : Nat) : Int) := bits_xor_i64 i j (by omega) (by omega)

/-- What CodeRow answers. -/
def codeRowOf (K M G i : Int) : List Int := if codeFaultOf K M G = 0 ∧ 0 ≤ i ∧ i < K + M + G then rowL K.toNat M.toNat G.toNat i.toNat else []
theorem codeRowOf_len (K M G i : Int) : (codeRowOf K M G i).length ≤ 32 := by
  unfold codeRowOf
  split
  · rename_i h
    have := codeFault_zero h.1
    rw [rowL_len]; omega
  · simp
def pre (L : List Int) (K j : Nat) : List Int := L.take j ++ List.replicate (K - j) 0
theorem pre_len (L : List Int) (K j : Nat) (hL : L.length = K) (hj : j ≤ K) : (pre L K j).length = K := by unfold pre; rw [List.length_append, List.length_take, List.length_replicate, hL]; omega
theorem pre_zero (L : List Int) (K : Nat) : pre L K 0 = List.replicate K 0 := by unfold pre; simp
theorem pre_full (L : List Int) (K : Nat) (hL : L.length = K) : pre L K K = L := by unfold pre; rw [Nat.sub_self, List.replicate_zero, List.append_nil, List.take_of_length_le (by omega)]
theorem pre_set (L : List Int) (K j : Nat) (hL : L.length = K) (hj : j < K) (x : Int) (hx : L[j]? = some x) : (pre L K j).set j x = pre L K (j + 1) := by
  have h := set_prefix_id (0 : Int) L j (by omega) x hx
  rw [hL] at h
  exact h
theorem pre_skip (L : List Int) (K j : Nat) (hL : L.length = K) (hj : j < K) (hx : L[j]? = some 0) : pre L K j = pre L K (j + 1) := by
  unfold pre
  rw [List.take_add_one, hx, show K - j = (K - (j + 1)) + 1 by omega, List.replicate_succ, List.append_assoc]
  rfl
section
variable (K M G i : Nat) (hK1 : 1 ≤ K) (hK : K ≤ 32) (hM : M ≤ 16) (hG : G ≤ 32)
include hK hM hG
theorem spec_row_l0 (h1 : ¬ i < K) (h2 : i < K + M) : ∀ (d j : Nat), K - j = d → j ≤ K → Ev (fun k => spec_CodeRow.l0 k (i : Int) (pre (rowL K M G i) K j) (j : Int) (K : Int) (M : Int) (G : Int)) (rowL K M G i) := by
  intro d
  induction d with
  | zero =>
    intro j hd hj
    have e : j = K := by omega
    subst e
    refine Ev.step (fun k => by rw [spec_CodeRow.l0, if_neg (by omega)]) (Ev.give ?_)
    exact pre_full _ _ (rowL_len _ _ _ _)
  | succ d ih =>
    intro j hd hj
    have hlt : j < K := by omega
    have hx : (rowL K M G i)[j]? = some ((inv8 (xr i j) : Nat) : Int) := by
      rw [rowL_get _ _ _ _ _ hlt]
      unfold rowC
      rw [if_neg h1, if_pos h2, tabInv_field _ (by have := xr_lt i j (by omega) (by omega); omega)]
    have hl := pre_len (rowL K M G i) K j (rowL_len _ _ _ _) hj
    refine Ev.step (fun k => by rw [spec_CodeRow.l0, if_pos (by omega), xr_bits i j (by omega) (by omega)]) ?_
    refine Ev.bind (inv8_ev _ (by have := xr_lt i j (by omega) (by omega); omega)) (Ev.pos (by omega) (Ev.pos (by omega) ?_))
    rw [Int.toNat_natCast, pre_set _ _ _ (rowL_len _ _ _ _) hlt _ hx, wrap64_id (x := (j : Int) + 1) (by omega) (by omega)]
    exact ih (j + 1) (by omega) (by omega)
theorem spec_row_l1 (h1 : ¬ i < K) (h2 : ¬ i < K + M) (h3 : i < K + M + G) : ∀ (d j : Nat), K - j = d → j ≤ K → Ev (fun k => spec_CodeRow.l1 k (i : Int) (pre (rowL K M G i) K j) (j : Int) (K : Int) (M : Int) (G : Int)) (rowL K M G i) := by
  intro d
  induction d with
  | zero =>
    intro j hd hj
    have e : j = K := by omega
    subst e
    refine Ev.step (fun k => by rw [spec_CodeRow.l1, if_neg (by omega)]) (Ev.give ?_)
    exact pre_full _ _ (rowL_len _ _ _ _)
  | succ d ih =>
    intro j hd hj
    have hlt : j < K := by omega
    have hx := rowL_get K M G i j hlt
    unfold rowC at hx
    rw [if_neg h1, if_neg h2] at hx
    have hl := pre_len (rowL K M G i) K j (rowL_len _ _ _ _) hj
    have hm : Int.tmod (j : Int) (G : Int) = ((j % G : Nat) : Int) := rfl
    have hw : wrap64 (wrap64 ((i : Int) - (K : Int)) - (M : Int)) = ((i - K - M : Nat) : Int) := by rw [wrap64_id (x := (i : Int) - (K : Int)) (by omega) (by omega), wrap64_id (by omega) (by omega)]; omega
    have h := ih (j + 1) (by omega) (by omega)
    refine Ev.step (fun k => by rw [spec_CodeRow.l1, if_pos (by omega), if_neg (by omega), hm, hw, wrap64_id (x := (j : Int) + 1) (by omega) (by omega)]) ?_
    by_cases e : j % G = i - K - M
    · rw [if_pos e] at hx
      refine Ev.pos (by omega) (Ev.pos (by omega) (Ev.pos (by omega) ?_))
      rw [Int.toNat_natCast, pre_set _ _ _ (rowL_len _ _ _ _) hlt _ hx]
      exact h
    · rw [if_neg e] at hx
      refine Ev.neg (by omega) ?_
      rw [pre_skip _ _ _ (rowL_len _ _ _ _) hlt hx]
      exact h
include hK1 in
theorem spec_row_j0 (h : i < K + M + G) : Ev (fun k => spec_CodeRow.j0 k (i : Int) false (K : Int) (M : Int) (G : Int)) (rowL K M G i) := by
  refine Ev.step (fun k => by rw [spec_CodeRow.j0, if_neg (by decide), if_pos (by omega), if_pos (by omega), Option.bind_some, Int.toNat_natCast, List.length_replicate]) ?_
  by_cases h1 : i < K
  · refine Ev.pos (by omega) (Ev.pos (by omega) (Ev.pos (by omega) (Ev.give ?_)))
    rw [Int.toNat_natCast]
    exact row_one K M G i h1
  · refine Ev.neg (by omega) ?_
    rw [wrap64_id (x := (K : Int) + (M : Int)) (by omega) (by omega), ← pre_zero (rowL K M G i) K]
    by_cases h2 : i < K + M
    · exact Ev.pos (by omega) (spec_row_l0 K M G i hK hM hG h1 h2 K 0 (by omega) (by omega))
    · exact Ev.neg (by omega) (spec_row_l1 K M G i hK hM hG h1 h2 h K 0 (by omega) (by omega))
end
theorem spec_codeRow (K M G i : Int) : Ev (fun k => spec_CodeRow.f k K M G i) (codeRowOf K M G i) := by
  refine Ev.congr (fun k => by rw [spec_CodeRow.f, spec_codeFault, Option.bind_some]) ?_
  unfold codeRowOf
  have none_ : Ev (fun k => spec_CodeRow.j0 k i true K M G) [] := Ev.step (fun k => by rw [spec_CodeRow.j0, if_pos rfl]) (Ev.now _)
  by_cases h0 : codeFaultOf K M G = 0
  · obtain ⟨b1, b2, b3, b4, b5, b6, b7⟩ := codeFault_zero h0
    refine Ev.pos h0 ?_
    by_cases h1 : i < 0
    · rw [if_neg (fun h => by omega)]
      exact Ev.pos h1 none_
    · refine Ev.neg h1 ?_
      rw [wrap64_id (x := K + M) (by omega) (by omega), wrap64_id (x := K + M + G) (by omega) (by omega)]
      by_cases h2 : i < K + M + G
      · rw [if_pos ⟨h0, by omega, h2⟩, show decide (i ≥ K + M + G) = false from decide_eq_false (by omega)]
        obtain ⟨K, rfl⟩ := Int.eq_ofNat_of_zero_le (show 0 ≤ K by omega)
        obtain ⟨M, rfl⟩ := Int.eq_ofNat_of_zero_le b3
        obtain ⟨G, rfl⟩ := Int.eq_ofNat_of_zero_le b5
        obtain ⟨i, rfl⟩ := Int.eq_ofNat_of_zero_le (show 0 ≤ i by omega)
        exact spec_row_j0 K M G i (by omega) (by omega) (by omega) (by omega) (by omega)
      · rw [if_neg (fun h => h2 h.2.2), show decide (i ≥ K + M + G) = true from decide_eq_true (by omega)]
        exact none_
  · rw [if_neg (fun h => h0 h.1)]
    exact Ev.neg h0 none_
theorem rowC_range (K M G i j : Nat) (hi : i < 64) (hj : j < 32) : 0 ≤ rowC K M G i j ∧ rowC K M G i j < 256 := by
  unfold rowC
  split
  · split <;> omega
  · split
    · rw [tabInv_field _ (by have := xr_lt i j hi (by omega); omega)]
      have := inv8_lt (xr i j) (by have := xr_lt i j hi (by omega); omega)
      omega
    · split <;> omega
theorem plant_of {K M G : Int} (h0 : codeFaultOf K M G = 0) : impl_newPlant.f K M G = some (plantNo K M G) ∧ pK (plantNo K M G) = K.toNat ∧ pM (plantNo K M G) = M.toNat ∧ pG (plantNo K M G) = G.toNat := by
  obtain ⟨b1, b2, b3, b4, b5, b6, b7⟩ := codeFault_zero h0
  refine ⟨?_, ?_⟩
  · unfold impl_newPlant.f
    rw [if_pos ⟨b1, b2, b3, b4, b5, by omega⟩]
  · obtain ⟨K, rfl⟩ := Int.eq_ofNat_of_zero_le (show 0 ≤ K by omega)
    obtain ⟨M, rfl⟩ := Int.eq_ofNat_of_zero_le b3
    obtain ⟨G, rfl⟩ := Int.eq_ofNat_of_zero_le b5
    exact plantNo_of K M G (by omega) (by omega) (by omega)
theorem plant_row {K M G i : Int} (h0 : codeFaultOf K M G = 0) (hi0 : 0 ≤ i) (hi : i < K + M + G) : impl_plant_row.f (plantNo K M G) i = some (rowL K.toNat M.toNat G.toNat i.toNat) := by
  obtain ⟨_, e1, e2, e3⟩ := plant_of h0
  obtain ⟨b1, b2, b3, b4, b5, b6, b7⟩ := codeFault_zero h0
  unfold impl_plant_row.f
  rw [e1, e2, e3, if_pos ⟨hi0, by omega⟩]

/-! The table's product is the field's. -/
def p2 : Nat → Nat
  | 0 => 1
  | n + 1 => mul8 (p2 n) 2
theorem p2_lt : ∀ n, p2 n < 256
  | 0 => by decide
  | n + 1 => mul8_lt _ _ (p2_lt n)
theorem p2_add (m : Nat) : ∀ n, mul8 (p2 m) (p2 n) = p2 (m + n)
  | 0 => mul8_one _ (p2_lt m)
  | n + 1 => by
    show mul8 (p2 m) (mul8 (p2 n) 2) = mul8 (p2 (m + n)) 2
    rw [← mul8_assoc _ _ _ (p2_lt m) (p2_lt n), p2_add m n]
theorem p2_ex : ∀ j, j < 255 → p2 j = ex j
  | 0, _ => by decide +kernel
  | j + 1, h => by
    show mul8 (p2 j) 2 = ex (j + 1)
    rw [p2_ex j (by omega)]
    have key : ∀ x : Fin 254, mul8 (ex x.val) 2 = ex (x.val + 1) := by decide +kernel
    exact key ⟨j, by omega⟩
theorem p2_255 : p2 255 = 1 := by
  show mul8 (p2 254) 2 = 1
  rw [p2_ex 254 (by omega)]
  decide +kernel
theorem lg_ex : ∀ a : Fin 256, lg a.val < 255 ∧ (a.val ≠ 0 → ex (lg a.val) = a.val) := by decide +kernel
theorem tabMul_field (a b : Nat) (ha : a < 256) (hb : b < 256) : tabMul a b = mul8 a b := by
  unfold tabMul
  by_cases h0 : a = 0
  · rw [if_pos h0, h0, zero_mul8 b hb]
  · rw [if_neg h0]
    by_cases h1 : b = 0
    · rw [if_pos h1, h1, mul8_zero]
    · rw [if_neg h1]
      obtain ⟨l0, e0⟩ := lg_ex ⟨a, ha⟩
      obtain ⟨l1, e1⟩ := lg_ex ⟨b, hb⟩
      simp only at l0 l1 e0 e1
      have f0 := e0 h0
      have f1 := e1 h1
      rw [← p2_ex _ l0] at f0
      rw [← p2_ex _ l1] at f1
      have e : mul8 a b = p2 (lg a + lg b) := by rw [← p2_add, f0, f1]
      rw [e]
      unfold tE
      by_cases h : lg a + lg b < 255
      · rw [if_pos h, p2_ex _ h]
      · rw [if_neg h, if_pos ⟨by omega, by omega⟩, ← p2_ex _ (by omega : lg a + lg b - 255 < 255)]
        have h2 : lg a + lg b = 255 + (lg a + lg b - 255) := by omega
        conv => rhs; rw [h2, ← p2_add, p2_255]
        rw [one_mul8 _ (p2_lt _)]

/-! The field of 256, and rows over it. -/
structure G where
  v : Nat
  h : v < 256
theorem G.ext_ : ∀ {a b : G}, a.v = b.v → a = b
  | ⟨_, _⟩, ⟨_, _⟩, rfl => rfl
instance : DecidableEq G := fun a b => if h : a.v = b.v then isTrue (G.ext_ h) else isFalse (fun e => h (by rw [e]))
instance : Add G := ⟨fun a b => ⟨a.v ^^^ b.v, Nat.xor_lt_two_pow (n := 8) a.h b.h⟩⟩
instance : Mul G := ⟨fun a b => ⟨mul8 a.v b.v, mul8_lt _ _ a.h⟩⟩
instance : Zero G := ⟨⟨0, by decide⟩⟩
instance : One G := ⟨⟨1, by decide⟩⟩
def G.inv (a : G) : G := ⟨inv8 a.v, inv8_lt _ a.h⟩
theorem G.add_v (a b : G) : (a + b).v = a.v ^^^ b.v := rfl
theorem G.mul_v (a b : G) : (a * b).v = mul8 a.v b.v := rfl
theorem G.zero_v : (0 : G).v = 0 := rfl
theorem G.one_v : (1 : G).v = 1 := rfl
theorem G.inv_v (a : G) : a.inv.v = inv8 a.v := rfl
theorem G.add_comm (a b : G) : a + b = b + a := G.ext_ (Nat.xor_comm _ _)
theorem G.add_assoc (a b c : G) : a + b + c = a + (b + c) := G.ext_ (Nat.xor_assoc _ _ _)
theorem G.add_zero (a : G) : a + 0 = a := G.ext_ (Nat.xor_zero _)
theorem G.zero_add (a : G) : 0 + a = a := G.ext_ (Nat.zero_xor _)
theorem G.add_self (a : G) : a + a = 0 := G.ext_ (Nat.xor_self _)
theorem G.mul_comm (a b : G) : a * b = b * a := G.ext_ (mul8_comm _ _ a.h b.h)
theorem G.mul_assoc (a b c : G) : a * b * c = a * (b * c) := G.ext_ (mul8_assoc _ _ _ a.h b.h)
theorem G.mul_add (a b c : G) : a * (b + c) = a * b + a * c := G.ext_ (mul8_xor _ _ _)
theorem G.add_mul (a b c : G) : (a + b) * c = a * c + b * c := by rw [G.mul_comm, G.mul_add, G.mul_comm c a, G.mul_comm c b]
theorem G.mul_zero (a : G) : a * 0 = 0 := G.ext_ (mul8_zero a.v)
theorem G.zero_mul (a : G) : 0 * a = 0 := by rw [G.mul_comm, G.mul_zero]
theorem G.mul_one (a : G) : a * 1 = a := G.ext_ (mul8_one _ a.h)
theorem G.one_mul (a : G) : 1 * a = a := by rw [G.mul_comm, G.mul_one]
theorem G.v_ne {a : G} (h : a ≠ 0) : a.v ≠ 0 := fun e => h (G.ext_ (b := 0) e)
theorem G.mul_inv {a : G} (h : a ≠ 0) : a * a.inv = 1 := G.ext_ (mul_inv8 _ a.h (G.v_ne h))
theorem G.add2 {a b c d : G} (h1 : a = c) (h2 : b = d) : a + b = c + d := by rw [h1, h2]
theorem G.one_ne : (1 : G) ≠ 0 := fun e => absurd (congrArg G.v e) (by decide)
theorem G.mul_eq_zero {a b : G} (h : a * b = 0) (ha : a ≠ 0) : b = 0 := by
  have h2 : a.inv * (a * b) = 0 := by rw [h, G.mul_zero]
  rwa [← G.mul_assoc, G.mul_comm a.inv, G.mul_inv ha, G.one_mul] at h2
theorem G.add_eq_zero {a b : G} (h : a + b = 0) : a = b := by
  have : a + b + b = b := by rw [h, G.zero_add]
  rwa [G.add_assoc, G.add_self, G.add_zero] at this
theorem G.add_add_self (a b : G) : a + b + b = a := by rw [G.add_assoc, G.add_self, G.add_zero]
theorem G.inv_ne {a : G} (h : a ≠ 0) : a.inv ≠ 0 := fun e => by
  have := G.mul_inv h
  rw [e, G.mul_zero] at this
  exact G.one_ne this.symm
instance : Std.Associative (α := G) (· + ·) := ⟨G.add_assoc⟩
instance : Std.Commutative (α := G) (· + ·) := ⟨G.add_comm⟩
instance : Std.Associative (α := G) (· * ·) := ⟨G.mul_assoc⟩
instance : Std.Commutative (α := G) (· * ·) := ⟨G.mul_comm⟩
/-- A sum. -/
def gs (f : Nat → G) : Nat → G
  | 0 => 0
  | n + 1 => gs f n + f n
theorem gs_congr {f g : Nat → G} : ∀ {n : Nat}, (∀ i, i < n → f i = g i) → gs f n = gs g n
  | 0, _ => rfl
  | n + 1, h => by rw [gs, gs, gs_congr (fun i hi => h i (by omega)), h n (by omega)]
theorem gs_zero {f : Nat → G} : ∀ {n : Nat}, (∀ i, i < n → f i = 0) → gs f n = 0
  | 0, _ => rfl
  | n + 1, h => by rw [gs, gs_zero (fun i hi => h i (by omega)), h n (by omega), G.add_zero]
theorem gs_add (f g : Nat → G) : ∀ n : Nat, gs (fun i => f i + g i) n = gs f n + gs g n
  | 0 => (G.add_zero _).symm
  | n + 1 => by rw [gs, gs, gs, gs_add f g n]; ac_rfl
theorem gs_mul (c : G) (f : Nat → G) : ∀ n : Nat, gs (fun i => c * f i) n = c * gs f n
  | 0 => (G.mul_zero _).symm
  | n + 1 => by rw [gs, gs, gs_mul c f n, G.mul_add]
theorem gs_split (f : Nat → G) : ∀ {n r : Nat}, r < n → gs f n = f r + gs (fun i => if i = r then 0 else f i) n
  | 0, r, h => by omega
  | n + 1, r, h => by
    by_cases e : r = n
    · subst e
      rw [gs, gs, if_pos rfl, G.add_zero, G.add_comm]
      congr 1
      exact gs_congr (fun i hi => by rw [if_neg (by omega)])
    · rw [gs, gs, gs_split f (show r < n by omega), if_neg (fun x => e x.symm)]
      ac_rfl
theorem gs_single (x : G) {n r : Nat} (h : r < n) (f : Nat → G) : gs (fun i => (if i = r then x else 0) * f i) n = x * f r := by
  rw [gs_split _ h, if_pos rfl, gs_zero, G.add_zero]
  intro i _
  by_cases e : i = r
  · simp only [if_pos e]
  · simp only [if_neg e, G.zero_mul]
theorem gs_comm (f : Nat → Nat → G) (m : Nat) : ∀ n : Nat, gs (fun i => gs (fun j => f i j) m) n = gs (fun j => gs (fun i => f i j) n) m
  | 0 => (gs_zero (fun _ _ => rfl)).symm
  | n + 1 => by
    rw [gs, gs_comm f m n, ← gs_add]
    rfl
def sw (a b i : Nat) : Nat := if i = a then b else if i = b then a else i
theorem sw_sw (a b i : Nat) : sw a b (sw a b i) = i := by
  unfold sw
  by_cases h1 : i = a
  · rw [if_pos h1]; by_cases h2 : b = a
    · rw [if_pos h2]; omega
    · rw [if_neg h2, if_pos rfl]; omega
  · rw [if_neg h1]; by_cases h2 : i = b
    · rw [if_pos h2, if_pos rfl]; omega
    · rw [if_neg h2, if_neg h1, if_neg h2]
theorem sw_lt {a b m i : Nat} (ha : a < m) (hb : b < m) (hi : i < m) : sw a b i < m := by unfold sw; split <;> (try split) <;> omega
theorem sw_a (a b : Nat) : sw a b a = b := by unfold sw; rw [if_pos rfl]
theorem sw_b (a b : Nat) : sw a b b = a := by unfold sw; split <;> simp_all
theorem sw_o {a b i : Nat} (h1 : i ≠ a) (h2 : i ≠ b) : sw a b i = i := by unfold sw; rw [if_neg h1, if_neg h2]
theorem gs_sw (f : Nat → G) {m a b : Nat} (ha : a < m) (hb : b < m) : gs (fun i => f (sw a b i)) m = gs f m := by
  by_cases e : a = b
  · subst e
    refine gs_congr (fun i _ => ?_)
    congr 1
    unfold sw; split <;> simp_all
  · have h2 : ∀ g : Nat → G, gs g m = g a + (g b + gs (fun i => if i = b then 0 else if i = a then 0 else g i) m) := fun g => by
      rw [gs_split g ha, gs_split _ hb, if_neg (fun x => e x.symm)]
    rw [h2 f, h2 (fun i => f (sw a b i))]
    simp only [sw_a, sw_b]
    rw [gs_congr (f := fun i => if i = b then 0 else if i = a then 0 else f (sw a b i)) (g := fun i => if i = b then 0 else if i = a then 0 else f i)]
    · ac_rfl
    · intro i _
      by_cases h1 : i = b
      · simp [h1]
      · by_cases h3 : i = a
        · simp [h3]
        · simp only [if_neg h1, if_neg h3, sw_o h3 h1]
/-- Rows that do not hang on one another. -/
def Indep (R : Nat → Nat → G) (m n : Nat) : Prop := ∀ c : Nat → G, (∀ j, j < n → gs (fun i => c i * R i j) m = 0) → ∀ i, i < m → c i = 0
theorem indep_congr {R R' : Nat → Nat → G} {m n : Nat} (h : ∀ i j, i < m → j < n → R i j = R' i j) (hI : Indep R m n) : Indep R' m n := by
  intro c hc
  refine hI c (fun j hj => ?_)
  rw [← hc j hj]
  exact gs_congr (fun i hi => by rw [h i j hi hj])
theorem indep_sw {R : Nat → Nat → G} {m n a b : Nat} (ha : a < m) (hb : b < m) (hI : Indep R m n) : Indep (fun i => R (sw a b i)) m n := by
  intro c hc i hi
  have h := hI (fun i => c (sw a b i)) (fun j hj => by
    rw [← hc j hj, ← gs_sw (fun i => c i * R (sw a b i) j) ha hb]
    exact gs_congr (fun i _ => by rw [sw_sw])) (sw a b i) (sw_lt ha hb hi)
  simpa [sw_sw] using h
/-- A row times a number that is not 0, and multiples of it added to the others. -/
def clr (R : Nat → Nat → G) (r : Nat) (f : G) (g : Nat → G) (i j : Nat) : G := if i = r then f * R r j else R i j + g i * (f * R r j)
/-- A combination's sum of multiples, but for the row itself. -/
def oth (g c : Nat → G) (r m : Nat) : G := gs (fun i => if i = r then 0 else c i * g i) m
theorem clr_sum (R : Nat → Nat → G) {m r : Nat} (hr : r < m) (f : G) (g c d : Nat → G) (hd : ∀ i, i ≠ r → d i = c i) (hdr : d r = f * (c r + oth g c r m)) (j : Nat) :
    gs (fun i => c i * clr R r f g i j) m = gs (fun i => d i * R i j) m := by
  rw [gs_split _ hr, gs_split (fun i => d i * R i j) hr, hdr]
  have e0 : clr R r f g r j = f * R r j := if_pos rfl
  rw [e0]
  have e : gs (fun i => if i = r then 0 else c i * clr R r f g i j) m = gs (fun i => if i = r then 0 else d i * R i j) m + (f * R r j) * oth g c r m := by
    unfold oth
    rw [← gs_mul, ← gs_add]
    refine gs_congr (fun i _ => ?_)
    by_cases h : i = r
    · simp only [if_pos h, G.mul_zero, G.add_zero]
    · simp only [if_neg h]
      unfold clr
      have e2 : f * R r j * (c i * g i) = c i * (g i * (f * R r j)) := by ac_rfl
      rw [if_neg h, G.mul_add, hd i h, e2]
  have e3 : f * R r j * oth g c r m = f * oth g c r m * R r j := by ac_rfl
  have e4 : f * c r * R r j = c r * (f * R r j) := by ac_rfl
  rw [e, G.mul_add, G.add_mul, e3, e4]
  ac_rfl
theorem oth_congr {g c d : Nat → G} {r m : Nat} (h : ∀ i, i ≠ r → d i = c i) : oth g d r m = oth g c r m := by
  unfold oth
  refine gs_congr (fun i _ => ?_)
  by_cases e : i = r
  · simp only [if_pos e]
  · simp only [if_neg e, h i e]
theorem oth_zero {g c : Nat → G} {r m : Nat} (h : ∀ i, i < m → i ≠ r → c i = 0) : oth g c r m = 0 := by
  unfold oth
  refine gs_zero (fun i hi => ?_)
  by_cases e : i = r
  · simp only [if_pos e]
  · simp only [if_neg e, h i hi e, G.zero_mul]
theorem indep_clr {R : Nat → Nat → G} {m n r : Nat} {f f' : G} (g : Nat → G) (hr : r < m) (hf : f * f' = 1) : Indep (clr R r f g) m n ↔ Indep R m n := by
  have hf0 : f ≠ 0 := fun e => by rw [e, G.zero_mul] at hf; exact G.one_ne hf.symm
  have hf0' : f' ≠ 0 := fun e => by rw [e, G.mul_zero] at hf; exact G.one_ne hf.symm
  constructor
  · intro hI c hc
    have ed : ∀ i, i ≠ r → (fun i => if i = r then f' * c r + oth g c r m else c i) i = c i := fun i h => if_neg h
    have h := hI (fun i => if i = r then f' * c r + oth g c r m else c i) (fun j hj => by
      rw [clr_sum R hr f g _ c (fun i h => (ed i h).symm) _ j]
      · exact hc j hj
      · rw [oth_congr ed, if_pos rfl, G.add_add_self, ← G.mul_assoc, hf, G.one_mul])
    have ho : ∀ i, i < m → i ≠ r → c i = 0 := fun i hi hne => by have h2 := h i hi; exact (ed i hne).symm.trans h2
    intro i hi
    by_cases e : i = r
    · subst e
      have := h i hi
      simp only [if_pos] at this
      rw [oth_zero ho, G.add_zero] at this
      exact G.mul_eq_zero this hf0'
    · exact ho i hi e
  · intro hI c hc
    have ed : ∀ i, i ≠ r → (fun i => if i = r then f * (c r + oth g c r m) else c i) i = c i := fun i h => if_neg h
    have h := hI (fun i => if i = r then f * (c r + oth g c r m) else c i) (fun j hj => by
      rw [← clr_sum R hr f g c _ ed (if_pos rfl) j]; exact hc j hj)
    have ho : ∀ i, i < m → i ≠ r → c i = 0 := fun i hi hne => by have h2 := h i hi; exact (ed i hne).symm.trans h2
    intro i hi
    by_cases e : i = r
    · subst e
      have := h i hi
      simp only [if_pos] at this
      rw [oth_zero ho, G.add_zero] at this
      exact G.mul_eq_zero this hf0
    · exact ho i hi e
/-- The state of an elimination: 'rank' columns cleared. -/
structure Elim (R : Nat → Nat → G) (m rank col : Nat) (piv : Nat → Nat) : Prop where
  le : rank ≤ m
  one : ∀ i r, i < m → r < rank → R i (piv r) = if i = r then 1 else 0
  lt : ∀ r, r < rank → piv r < col
  low : ∀ i j, rank ≤ i → i < m → j < col → R i j = 0
theorem Elim.start (R : Nat → Nat → G) (m : Nat) : Elim R m 0 0 (fun _ => 0) := ⟨Nat.zero_le _, fun _ _ _ h => by omega, fun _ h => by omega, fun _ _ _ _ h => by omega⟩
theorem Elim.skip {R : Nat → Nat → G} {m rank col : Nat} {piv : Nat → Nat} (h : Elim R m rank col piv) (h0 : ∀ i, rank ≤ i → i < m → R i col = 0) : Elim R m rank (col + 1) piv :=
  ⟨h.le, h.one, fun r hr => by have := h.lt r hr; omega, fun i j h1 h2 h3 => by
    by_cases e : j = col
    · subst e; exact h0 i h1 h2
    · exact h.low i j h1 h2 (by omega)⟩
theorem Elim.swap {R : Nat → Nat → G} {m rank col a : Nat} {piv : Nat → Nat} (h : Elim R m rank col piv) (ha : rank ≤ a) (hm : a < m) : Elim (fun i => R (sw a rank i)) m rank col piv := by
  have hs : ∀ i, i < m → sw a rank i < m := fun i hi => sw_lt hm (by omega) hi
  have hge : ∀ i, rank ≤ i → rank ≤ sw a rank i := fun i hi => by unfold sw; split <;> (try split) <;> omega
  have hlt : ∀ i, i < rank → sw a rank i = i := fun i hi => sw_o (by omega) (by omega)
  refine ⟨h.le, fun i r hi hr => ?_, h.lt, fun i j h1 h2 h3 => h.low _ j (hge i h1) (hs i h2) h3⟩
  rw [h.one _ r (hs i hi) hr]
  by_cases e : i = r
  · rw [if_pos e, if_pos (by rw [hlt i (by omega)]; exact e)]
  · rw [if_neg e, if_neg]
    intro e2
    by_cases hi2 : i < rank
    · rw [hlt i hi2] at e2; exact e e2
    · have := hge i (by omega); omega
theorem Elim.clear {R : Nat → Nat → G} {m rank col : Nat} {piv : Nat → Nat} (h : Elim R m rank col piv) (hm : rank < m) (hp : R rank col ≠ 0) :
    Elim (clr R rank (R rank col).inv (fun i => R i col)) m (rank + 1) (col + 1) (fun r => if r = rank then col else piv r) := by
  have z : ∀ r, r < rank → R rank (piv r) = 0 := fun r hr => by rw [h.one rank r hm hr, if_neg (by omega)]
  have u : (R rank col).inv * R rank col = 1 := by rw [G.mul_comm, G.mul_inv hp]
  refine ⟨hm, fun i r hi hr => ?_, fun r hr => ?_, fun i j h1 h2 h3 => ?_⟩
  · by_cases e : r = rank
    · subst e
      simp only [if_pos]
      unfold clr
      by_cases e2 : i = r
      · rw [if_pos e2, if_pos e2, u]
      · rw [if_neg e2, if_neg e2, u, G.mul_one, G.add_self]
    · simp only [if_neg e]
      unfold clr
      rw [z r (by omega), G.mul_zero, G.mul_zero, G.add_zero]
      by_cases e2 : i = rank
      · rw [if_pos e2, if_neg (by omega)]
      · rw [if_neg e2, h.one i r hi (by omega)]
  · by_cases e : r = rank
    · simp only [if_pos e]; omega
    · simp only [if_neg e]; have := h.lt r (by omega); omega
  · unfold clr
    rw [if_neg (by omega)]
    by_cases e : j = col
    · subst e; rw [u, G.mul_one, G.add_self]
    · rw [h.low i j (by omega) h2 (by omega), h.low rank j (by omega) hm (by omega), G.mul_zero, G.mul_zero, G.add_zero]
theorem Elim.full {R : Nat → Nat → G} {m n col : Nat} {piv : Nat → Nat} (h : Elim R m m col piv) (hn : col ≤ n) : Indep R m n := by
  intro c hc i hi
  have := hc (piv i) (by have := h.lt i hi; omega)
  rw [gs_congr (g := fun k => (if k = i then c i else 0) * (fun _ => (1 : G)) k), gs_single _ hi, G.mul_one] at this
  · exact this
  · intro k hk
    rw [h.one k i hk hi]
    by_cases e : k = i
    · rw [if_pos e, if_pos e, e]
    · rw [if_neg e, if_neg e, G.mul_zero, G.zero_mul]
theorem Elim.less {R : Nat → Nat → G} {m n rank : Nat} {piv : Nat → Nat} (h : Elim R m rank n piv) (hr : rank < m) : ¬ Indep R m n := by
  intro hI
  have := hI (fun i => if i = rank then 1 else 0) (fun j hj => by rw [gs_single 1 hr (fun i => R i j), h.low rank j (Nat.le_refl _) hr hj, G.mul_zero]) rank hr
  rw [if_pos rfl] at this
  exact G.one_ne this

/-! Rows taken one by one: what is left of a row behind the steps. -/
def Span (S : Nat → Nat → G) (m n : Nat) (v : Nat → G) : Prop := ∃ c : Nat → G, ∀ j, j < n → v j = gs (fun i => c i * S i j) m
theorem Span.add {S : Nat → Nat → G} {m n : Nat} {u v : Nat → G} (hu : Span S m n u) (hv : Span S m n v) : Span S m n (fun j => u j + v j) := by
  obtain ⟨c, hc⟩ := hu
  obtain ⟨d, hd⟩ := hv
  refine ⟨fun i => c i + d i, fun j hj => ?_⟩
  show u j + v j = _
  rw [hc j hj, hd j hj, ← gs_add]
  exact gs_congr (fun i _ => (G.add_mul _ _ _).symm)
theorem Span.mul {S : Nat → Nat → G} {m n : Nat} {u : Nat → G} (b : G) (hu : Span S m n u) : Span S m n (fun j => b * u j) := by
  obtain ⟨c, hc⟩ := hu
  refine ⟨fun i => b * c i, fun j hj => ?_⟩
  show b * u j = _
  rw [hc j hj, ← gs_mul]
  exact gs_congr (fun i _ => (G.mul_assoc _ _ _).symm)
theorem Span.row (S : Nat → Nat → G) {m n i : Nat} (hi : i < m) : Span S m n (S i) := ⟨fun k => if k = i then 1 else 0, fun j _ => by rw [gs_single 1 hi (fun i => S i j), G.one_mul]⟩
theorem Span.congr {S : Nat → Nat → G} {m n : Nat} {u v : Nat → G} (h : ∀ j, j < n → u j = v j) (hu : Span S m n u) : Span S m n v := by
  obtain ⟨c, hc⟩ := hu
  exact ⟨c, fun j hj => by rw [← h j hj, hc j hj]⟩
theorem Span.trans {S T : Nat → Nat → G} {m m' n : Nat} (h : ∀ i, i < m → Span T m' n (S i)) {v : Nat → G} (hv : Span S m n v) : Span T m' n v := by
  obtain ⟨c, hc⟩ := hv
  have : ∀ k, k ≤ m → Span T m' n (fun j => gs (fun i => c i * S i j) k) := fun k => by
    induction k with
    | zero => intro _; exact ⟨fun _ => 0, fun j _ => (gs_zero (fun _ _ => G.zero_mul _)).symm⟩
    | succ k ih => intro hk; exact Span.add (ih (by omega)) (Span.mul (c k) (h k (by omega)))
  exact Span.congr (fun j hj => (hc j hj).symm) (this m (Nat.le_refl _))
def snoc {α : Type} (T : Nat → α) (m : Nat) (r : α) (i : Nat) : α := if i = m then r else T i
theorem snoc_last {α : Type} (T : Nat → α) (m : Nat) (r : α) : snoc T m r m = r := if_pos rfl
theorem snoc_lt {α : Type} (T : Nat → α) {m i : Nat} (r : α) (h : i < m) : snoc T m r i = T i := if_neg (by omega)
theorem Span.more {T : Nat → Nat → G} {m n : Nat} (r : Nat → G) {v : Nat → G} (h : Span T m n v) : Span (snoc T m r) (m + 1) n v := by
  obtain ⟨c, hc⟩ := h
  refine ⟨fun i => if i = m then 0 else c i, fun j hj => ?_⟩
  rw [hc j hj, gs]
  simp only [if_pos, G.zero_mul, G.add_zero]
  exact gs_congr (fun i hi => by rw [snoc_lt T r hi, if_neg (by omega)])
theorem indep_snoc {T : Nat → Nat → G} {m n : Nat} {r : Nat → G} (hT : Indep T m n) (hr : ¬ Span T m n r) : Indep (snoc T m r) (m + 1) n := by
  intro c hc
  have e : ∀ j, j < n → gs (fun i => c i * T i j) m + c m * r j = 0 := fun j hj => by
    have := hc j hj
    rw [gs, snoc_last] at this
    rw [← this]
    exact G.add2 (gs_congr (fun i hi => by rw [snoc_lt T r hi])) rfl
  have h0 : c m = 0 := by
    refine Decidable.by_contra (fun hne => hr ⟨fun i => (c m).inv * c i, fun j hj => ?_⟩)
    have h1 := (G.add_eq_zero (e j hj)).symm
    have u := G.mul_inv hne
    have h2 : r j = (c m).inv * (c m * r j) := by rw [← G.mul_assoc, G.mul_comm _ (c m), u, G.one_mul]
    rw [h2, h1, ← gs_mul]
    exact gs_congr (fun i _ => (G.mul_assoc _ _ _).symm)
  intro i hi
  by_cases h : i = m
  · rw [h]; exact h0
  · exact hT c (fun j hj => by have := e j hj; rwa [h0, G.zero_mul, G.add_zero] at this) i (by omega)
theorem not_indep_snoc {T : Nat → Nat → G} {m n : Nat} {r : Nat → G} (hr : Span T m n r) : ¬ Indep (snoc T m r) (m + 1) n := by
  intro hI
  obtain ⟨c, hc⟩ := hr
  have := hI (fun i => if i = m then 1 else c i) (fun j hj => by
    rw [gs, snoc_last]
    simp only [if_pos, G.one_mul]
    rw [hc j hj]
    rw [gs_congr (g := fun i => c i * T i j) (fun i hi => by rw [snoc_lt T r hi, if_neg (by omega)]), G.add_self]) m (by omega)
  rw [if_pos rfl] at this
  exact G.one_ne this
theorem indep_of_snoc {T : Nat → Nat → G} {m n : Nat} {r : Nat → G} (h : Indep (snoc T m r) (m + 1) n) : Indep T m n := by
  intro c hc i hi
  have := h (fun i => if i = m then 0 else c i) (fun j hj => by
    rw [gs]
    simp only [if_pos, G.zero_mul, G.add_zero]
    rw [← hc j hj]
    exact gs_congr (fun i hi => by rw [snoc_lt T r hi, if_neg (by omega)])) i (by omega)
  rwa [if_neg (by omega)] at this
/-- The steps that stand for the taken rows. -/
structure Steps (T S : Nat → Nat → G) (L : Nat → Nat) (m n : Nat) : Prop where
  ind : Indep T m n
  st : ∀ i, i < m → Span T m n (S i)
  ts : ∀ i, i < m → Span S m n (T i)
  lt : ∀ k, k < m → L k < n
  one : ∀ k, k < m → S k (L k) = 1
  zero : ∀ k l, k < l → l < m → S l (L k) = 0
theorem Steps.start (T S : Nat → Nat → G) (L : Nat → Nat) (n : Nat) : Steps T S L 0 n := ⟨fun _ _ _ h => by omega, fun _ h => by omega, fun _ h => by omega, fun _ h => by omega, fun _ h => by omega, fun _ _ _ h => by omega⟩
/-- What is left of a row behind k steps. -/
def left (S : Nat → Nat → G) (L : Nat → Nat) (r : Nat → G) : Nat → Nat → G
  | 0 => r
  | k + 1 => fun j => left S L r k j + left S L r k (L k) * S k j
theorem left_span (S : Nat → Nat → G) (L : Nat → Nat) (r : Nat → G) (n : Nat) {m : Nat} : ∀ k, k ≤ m → Span S m n (fun j => r j + left S L r k j)
  | 0, _ => ⟨fun _ => 0, fun j _ => by
    show r j + r j = _
    rw [G.add_self, gs_zero (fun _ _ => G.zero_mul _)]⟩
  | k + 1, h => Span.congr (fun j _ => G.add_assoc _ _ _) (Span.add (left_span S L r n k (by omega)) (Span.mul (left S L r k (L k)) (Span.row S (show k < m by omega))))
theorem left_zero {T S : Nat → Nat → G} {L : Nat → Nat} {m n : Nat} (h : Steps T S L m n) (r : Nat → G) : ∀ k, k ≤ m → ∀ i, i < k → left S L r k (L i) = 0
  | 0, _, i, hi => by omega
  | k + 1, hk, i, hi => by
    show left S L r k (L i) + left S L r k (L k) * S k (L i) = 0
    by_cases e : i = k
    · rw [e, h.one k (by omega), G.mul_one, G.add_self]
    · rw [left_zero h r k (by omega) i (by omega), h.zero i k (by omega) (by omega), G.mul_zero, G.add_zero]
/-- A combination of the steps that is 0 at their leads is 0. -/
theorem steps_zero {T S : Nat → Nat → G} {L : Nat → Nat} {m n : Nat} (h : Steps T S L m n) {v : Nat → G} (hv : Span S m n v) (h0 : ∀ k, k < m → v (L k) = 0) : ∀ j, j < n → v j = 0 := by
  obtain ⟨c, hc⟩ := hv
  have hz : ∀ k, k ≤ m → ∀ i, i < k → c i = 0 := fun k => by
    induction k with
    | zero => intro _ i hi; omega
    | succ k ih =>
      intro hk i hi
      by_cases e : i = k
      · have h1 := hc (L k) (h.lt k (by omega))
        rw [h0 k (by omega)] at h1
        rw [gs_congr (g := fun i => (if i = k then c k else 0) * (fun _ => (1 : G)) i), gs_single _ (show k < m by omega), G.mul_one] at h1
        · rw [e]; exact h1.symm
        · intro l hl
          by_cases e2 : l = k
          · rw [e2, if_pos rfl, h.one k (by omega)]
          · rw [if_neg e2, G.zero_mul]
            by_cases e3 : l < k
            · rw [ih (by omega) l e3, G.zero_mul]
            · rw [h.zero k l (by omega) hl, G.mul_zero]
      · exact ih (by omega) i (by omega)
  intro j hj
  rw [hc j hj]
  exact gs_zero (fun i hi => by rw [hz m (Nat.le_refl _) i hi, G.zero_mul])
theorem steps_none {T S : Nat → Nat → G} {L : Nat → Nat} {m n : Nat} (h : Steps T S L m n) {r : Nat → G} (h0 : ∀ j, j < n → left S L r m j = 0) : ¬ Indep (snoc T m r) (m + 1) n := by
  refine not_indep_snoc (Span.trans h.st (Span.congr (fun j hj => ?_) (left_span S L r n m (Nat.le_refl _))))
  show r j + left S L r m j = r j
  rw [h0 j hj, G.add_zero]
theorem steps_more {T S : Nat → Nat → G} {L : Nat → Nat} {m n l : Nat} (h : Steps T S L m n) {r : Nat → G} (hl : l < n) (h0 : left S L r m l ≠ 0) :
    Steps (snoc T m r) (snoc S m (fun j => left S L r m j * (left S L r m l).inv)) (snoc L m l) (m + 1) n := by
  have hd := left_span S L r n m (Nat.le_refl _)
  have hns : ¬ Span T m n r := fun hr => by
    have hS : Span S m n r := Span.trans h.ts hr
    have hlS : Span S m n (left S L r m) := Span.congr (fun j _ => by
      show r j + (r j + left S L r m j) = _
      rw [← G.add_assoc, G.add_self, G.zero_add]) (Span.add hS hd)
    exact h0 (steps_zero h hlS (fun k hk => left_zero h r m (Nat.le_refl _) k hk) l hl)
  have u := G.mul_inv h0
  refine ⟨indep_snoc h.ind hns, fun i hi => ?_, fun i hi => ?_, fun k hk => ?_, fun k hk => ?_, fun k l2 hk hl2 => ?_⟩
  · by_cases e : i = m
    · rw [e, snoc_last]
      have h1 : Span (snoc T m r) (m + 1) n r := Span.congr (fun j _ => by rw [snoc_last]) (Span.row (snoc T m r) (show m < m + 1 by omega))
      have h2 : Span (snoc T m r) (m + 1) n (fun j => r j + left S L r m j) := Span.more r (Span.trans h.st hd)
      have h3 := Span.mul (left S L r m l).inv (Span.add h1 h2)
      exact Span.congr (fun j _ => by
        show (left S L r m l).inv * (r j + (r j + left S L r m j)) = _
        rw [← G.add_assoc, G.add_self, G.zero_add, G.mul_comm]) h3
    · rw [snoc_lt S _ (by omega)]; exact Span.more r (h.st i (by omega))
  · by_cases e : i = m
    · rw [e, snoc_last]
      have h1 := Span.mul (left S L r m l) (Span.row (snoc S m (fun j => left S L r m j * (left S L r m l).inv)) (n := n) (show m < m + 1 by omega))
      have h2 : Span (snoc S m (fun j => left S L r m j * (left S L r m l).inv)) (m + 1) n (fun j => r j + left S L r m j) := Span.more _ hd
      refine Span.congr (fun j _ => ?_) (Span.add h2 h1)
      show r j + left S L r m j + left S L r m l * snoc S m _ m j = r j
      rw [snoc_last, G.mul_comm (left S L r m j), ← G.mul_assoc, u, G.one_mul, G.add_add_self]
    · rw [snoc_lt T _ (by omega)]; exact Span.more _ (h.ts i (by omega))
  · by_cases e : k = m
    · rw [e, snoc_last]; exact hl
    · rw [snoc_lt L _ (by omega)]; exact h.lt k (by omega)
  · by_cases e : k = m
    · rw [e, snoc_last, snoc_last]; exact u
    · rw [snoc_lt L _ (by omega), snoc_lt S _ (by omega)]; exact h.one k (by omega)
  · rw [snoc_lt L _ (by omega)]
    by_cases e : l2 = m
    · rw [e, snoc_last, left_zero h r m (Nat.le_refl _) k (by omega), G.zero_mul]
    · rw [snoc_lt S _ (by omega)]; exact h.zero k l2 hk (by omega)

/-! A matrix of cells, flat, and the reference's rank of it. -/
def fl (R : Nat → Nat → G) (m K : Nat) : List Int := (List.range (m * K)).map fun t => ((R (t / K) (t % K)).v : Int)
theorem fl_len (R : Nat → Nat → G) (m K : Nat) : (fl R m K).length = m * K := by simp [fl]
theorem ix_lt {m K i j : Nat} (hi : i < m) (hj : j < K) : i * K + j < m * K := by
  have := Nat.mul_le_mul_right K (show i + 1 ≤ m by omega)
  rw [Nat.add_mul, Nat.one_mul] at this
  omega
theorem ix_div {K i j : Nat} (hj : j < K) : (i * K + j) / K = i := by
  rw [Nat.mul_comm, Nat.mul_add_div (by omega), Nat.div_eq_of_lt hj, Nat.add_zero]
theorem ix_mod {K i j : Nat} (hj : j < K) : (i * K + j) % K = j := by
  rw [Nat.mul_comm, Nat.mul_add_mod, Nat.mod_eq_of_lt hj]
theorem fl_congr {R R' : Nat → Nat → G} {m K : Nat} (h : ∀ i j, i < m → j < K → R i j = R' i j) : fl R m K = fl R' m K := by
  unfold fl
  refine List.map_congr_left (fun t ht => ?_)
  rw [List.mem_range] at ht
  have hK : 0 < K := Nat.pos_of_ne_zero (fun e => by rw [e, Nat.mul_zero] at ht; omega)
  rw [h (t / K) (t % K) (Nat.div_lt_of_lt_mul (by rw [Nat.mul_comm]; exact ht)) (Nat.mod_lt _ hK)]
theorem fl_rd (R : Nat → Nat → G) {m K i j : Nat} (hi : i < m) (hj : j < K) : rd (fl R m K) ((i * K + j : Nat) : Int) = ((R i j).v : Int) := by
  unfold rd fl
  rw [Int.toNat_natCast, List.getD_eq_getElem?_getD, List.getElem?_map, List.getElem?_range (ix_lt hi hj), Option.map_some, Option.getD_some, ix_div hj, ix_mod hj]
def up (R : Nat → Nat → G) (i j : Nat) (x : G) (a b : Nat) : G := if a = i ∧ b = j then x else R a b
theorem up_at (R : Nat → Nat → G) (i j : Nat) (x : G) : up R i j x i j = x := if_pos ⟨rfl, rfl⟩
theorem up_ne (R : Nat → Nat → G) {i j a b : Nat} {x : G} (h : ¬ (a = i ∧ b = j)) : up R i j x a b = R a b := if_neg h
theorem fl_set (R : Nat → Nat → G) {m K i j : Nat} (hj : j < K) (x : G) : (fl R m K).set (i * K + j) ((x.v : Nat) : Int) = fl (up R i j x) m K := by
  refine List.ext_getElem? (fun t => ?_)
  rw [List.getElem?_set]
  unfold fl
  simp only [List.length_map, List.length_range, List.getElem?_map]
  by_cases ht : t < m * K
  · rw [List.getElem?_range ht]
    by_cases e : i * K + j = t
    · rw [if_pos e, if_pos (by omega), ← e]
      simp only [Option.map_some]
      rw [ix_div hj, ix_mod hj]
      unfold up
      rw [if_pos ⟨rfl, rfl⟩]
    · rw [if_neg e]
      simp only [Option.map_some]
      unfold up
      rw [if_neg]
      rintro ⟨h1, h2⟩
      refine e ?_
      have := Nat.div_add_mod t K
      rw [h1, h2, Nat.mul_comm] at this
      exact this
  · rw [List.getElem?_eq_none (by simpa using ht)]
    by_cases e : i * K + j = t
    · rw [if_pos e, if_neg (by omega)]; rfl
    · rw [if_neg e]; rfl
theorem ixw {i K j : Nat} (hi : i ≤ 1000) (hK : K ≤ 1000) (hj : j ≤ 1000) : wrap64 (wrap64 ((i : Int) * (K : Int)) + (j : Int)) = ((i * K + j : Nat) : Int) := by
  have h := Nat.mul_le_mul hi hK
  rw [show (i : Int) * (K : Int) = ((i * K : Nat) : Int) by simp, wrap64_id (x := ((i * K : Nat) : Int)) (by omega) (by omega), wrap64_id (by omega) (by omega)]
  simp
theorem mulG (a b : G) : Ev (fun k => spec_Mul8.f k (a.v : Int) (b.v : Int)) (((a * b).v : Nat) : Int) := by
  have := spec_mul8 (a.v : Int) (b.v : Int)
  rwa [Mul8of_nat _ _ a.h b.h] at this
theorem invG (a : G) : Ev (fun k => spec_Inv8.f k (a.v : Int)) ((a.inv.v : Nat) : Int) := inv8_ev _ a.h
theorem vz (a : G) : ((a.v : Nat) : Int) = 0 ↔ a = 0 := by
  constructor
  · intro h; exact G.ext_ (by rw [G.zero_v]; omega)
  · intro h; rw [h, G.zero_v]; rfl
theorem xorG (a b : G) : Go.bits .xor .i64 (a.v : Int) (b.v : Int) = (((a + b).v : Nat) : Int) := bits_xor_i64 _ _ (by have := a.h; omega) (by have := b.h; omega)
def cP (R : Nat → Nat → G) (r : Nat) (f : G) (g : Nat → G) (i0 i j : Nat) : G := if i = r ∨ i < i0 then clr R r f g i j else R i j
theorem cP_r (R : Nat → Nat → G) (r : Nat) (f : G) (g : Nat → G) (i0 j : Nat) : cP R r f g i0 r j = f * R r j := by
  unfold cP clr; rw [if_pos (Or.inl rfl), if_pos rfl]
section
variable (m K : Nat) (hm : m ≤ 64) (hK : K ≤ 32)
include hm hK
theorem at_fl (R : Nat → Nat → G) {i j : Nat} (hi : i < m) (hj : j < K) : spec_l03At.f (m : Int) (K : Int) (fl R m K) (i : Int) (j : Int) = some ((R i j).v : Int) := by
  have := ix_lt hi hj
  have hl := fl_len R m K
  unfold spec_l03At.f
  rw [ixw (by omega) (by omega) (by omega), if_pos (by omega), if_pos (by omega), fl_rd R hi hj]
theorem swap_l0 (R : Nat → Nat → G) {a b : Nat} (ha : a < m) (hb : b < m) : ∀ (d j : Nat), K - j = d → j ≤ K →
    Ev (fun k => spec_l03Swap.l0 k (a : Int) (b : Int) (j : Int) (m : Int) (K : Int) (fl (fun x y => if y < j then R (sw b a x) y else R x y) m K)) (fl (fun x => R (sw b a x)) m K) := by
  intro d
  induction d with
  | zero =>
    intro j hd hj
    refine Ev.step (fun k => by rw [spec_l03Swap.l0, if_neg (by omega)]) (Ev.give ?_)
    exact fl_congr (fun x y hx hy => by rw [if_pos (by omega)])
  | succ d ih =>
    intro j hd hj
    have hlt : j < K := by omega
    have h1 := ix_lt ha hlt
    have h2 := ix_lt hb hlt
    have hl := fl_len (fun x y => if y < j then R (sw b a x) y else R x y) m K
    refine Ev.step (fun k => by rw [spec_l03Swap.l0, if_pos (by omega), at_fl m K hm hK _ ha hlt, at_fl m K hm hK _ hb hlt, ixw (i := a) (by omega) (by omega) (by omega), ixw (i := b) (by omega) (by omega) (by omega), Option.bind_some, Option.bind_some]) ?_
    refine Ev.pos (by omega) (Ev.pos (by omega) (Ev.pos (by omega) (Ev.pos (by omega) ?_)))
    rw [Int.toNat_natCast, Int.toNat_natCast, fl_set _ hlt, fl_set _ hlt, wrap64_id (x := (j : Int) + 1) (by omega) (by omega)]
    refine Ev.congr (fun k => ?_) (ih (j + 1) (by omega) (by omega))
    rw [fl_congr (m := m) (K := K)]
    · rfl
    · intro x y hx hy
      by_cases hy2 : y = j
      · subst hy2
        rw [if_pos (show y < y + 1 by omega)]
        by_cases e1 : x = b
        · subst e1
          rw [up_at]; try dsimp only
          rw [if_neg (show ¬ y < y by omega), sw_a]
        · rw [up_ne _ (fun q => e1 q.1)]
          by_cases e2 : x = a
          · subst e2
            rw [up_at]; try dsimp only
            rw [if_neg (show ¬ y < y by omega), sw_b]
          · rw [up_ne _ (fun q => e2 q.1)]; try dsimp only
            rw [if_neg (show ¬ y < y by omega), sw_o e1 e2]
      · rw [up_ne _ (fun q => hy2 q.2), up_ne _ (fun q => hy2 q.2)]; try dsimp only
        by_cases e : y < j
        · rw [if_pos e, if_pos (show y < j + 1 by omega)]
        · rw [if_neg e, if_neg (show ¬ y < j + 1 by omega)]
theorem swap_f (R : Nat → Nat → G) {a b : Nat} (ha : a < m) (hb : b < m) : Ev (fun k => spec_l03Swap.f k (m : Int) (K : Int) (fl R m K) (a : Int) (b : Int)) (fl (fun x => R (sw b a x)) m K) := by
  have h := swap_l0 m K hm hK R ha hb K 0 (by omega) (by omega)
  exact Ev.congr (fun k => rfl) h
theorem clear_l2 (R : Nat → Nat → G) {r col : Nat} (hr : r < m) (f : G) (g : Nat → G) (res : List Int) {i : Nat} (hi : i < m) (hne : i ≠ r)
    (hc : Ev (fun k => spec_l03Clear.l1 k (r : Int) (col : Int) ((i + 1 : Nat) : Int) (m : Int) (K : Int) (fl (cP R r f g (i + 1)) m K)) res) : ∀ (d j : Nat), K - j = d → j ≤ K →
    Ev (fun k => spec_l03Clear.l2 k (r : Int) (col : Int) (i : Int) ((g i).v : Int) (j : Int) (m : Int) (K : Int) (fl (fun x y => if x = i then (if y < j then clr R r f g i y else R i y) else cP R r f g i x y) m K)) res := by
  intro d
  induction d with
  | zero =>
    intro j hd hj
    refine Ev.step (fun k => by rw [spec_l03Clear.l2, if_neg (by omega), wrap64_id (x := (i : Int) + 1) (by omega) (by omega)]) ?_
    refine Ev.congr (fun k => ?_) hc
    rw [fl_congr (m := m) (K := K)]
    · rfl
    · intro x y hx hy
      by_cases e : x = i
      · subst e
        unfold cP
        rw [if_pos (show x = r ∨ x < x + 1 from Or.inr (by omega)), if_pos (show x = x from rfl), if_pos (show y < j by omega)]
      · rw [if_neg e]
        unfold cP
        by_cases e2 : x = r ∨ x < i
        · rw [if_pos e2, if_pos (show x = r ∨ x < i + 1 by omega)]
        · rw [if_neg e2, if_neg (show ¬ (x = r ∨ x < i + 1) by omega)]
  | succ d ih =>
    intro j hd hj
    have hlt : j < K := by omega
    have h1 := ix_lt hi hlt
    generalize hS : (fun x y => if x = i then (if y < j then clr R r f g i y else R i y) else cP R r f g i x y) = S
    have hSi : S i j = R i j := by rw [← hS]; simp only [if_pos]; rw [if_neg (show ¬ j < j by omega)]
    have hSr : S r j = f * R r j := by rw [← hS]; simp only; rw [if_neg (fun e => hne e.symm), cP_r]
    have hl := fl_len S m K
    refine Ev.step (fun k => by rw [spec_l03Clear.l2, if_pos (by omega), at_fl m K hm hK _ hi hlt, at_fl m K hm hK _ hr hlt, ixw (i := i) (by omega) (by omega) (by omega), Option.bind_some, Option.bind_some, hSi, hSr]) ?_
    refine Ev.bind (mulG _ _) (Ev.pos (by omega) (Ev.pos (by omega) ?_))
    rw [Int.toNat_natCast, xorG, fl_set _ hlt, wrap64_id (x := (j : Int) + 1) (by omega) (by omega)]
    refine Ev.congr (fun k => ?_) (ih (j + 1) (by omega) (by omega))
    rw [fl_congr (m := m) (K := K)]
    · rfl
    · intro x y hx hy
      by_cases e : x = i
      · subst e
        rw [if_pos (show x = x from rfl)]
        by_cases e2 : y = j
        · subst e2
          rw [if_pos (show y < y + 1 by omega), up_at]
          unfold clr
          rw [if_neg hne]
        · rw [up_ne _ (fun q => e2 q.2), ← hS]
          simp only [if_pos]
          by_cases e3 : y < j
          · rw [if_pos (show y < j + 1 by omega), if_pos e3]
          · rw [if_neg (show ¬ y < j + 1 by omega), if_neg e3]
      · rw [if_neg e, up_ne _ (fun q => e q.1), ← hS]
        simp only [if_neg e]
theorem clear_l1 (R : Nat → Nat → G) {r col : Nat} (hr : r < m) (hcol : col < K) (f : G) : ∀ (d i : Nat), m - i = d → i ≤ m →
    Ev (fun k => spec_l03Clear.l1 k (r : Int) (col : Int) (i : Int) (m : Int) (K : Int) (fl (cP R r f (fun i => R i col) i) m K)) (fl (clr R r f (fun i => R i col)) m K) := by
  intro d
  induction d with
  | zero =>
    intro i hd hi
    refine Ev.step (fun k => by rw [spec_l03Clear.l1, if_neg (by omega)]) (Ev.give ?_)
    exact fl_congr (fun x y hx hy => by unfold cP; rw [if_pos (Or.inr (by omega))])
  | succ d ih =>
    intro i hd hi
    have hlt : i < m := by omega
    refine Ev.step (fun k => by rw [spec_l03Clear.l1, if_pos (by omega), at_fl m K hm hK _ hlt hcol, Option.bind_some]) ?_
    have hnext := ih (i + 1) (by omega) (by omega)
    by_cases e : i = r
    · subst e
      refine Ev.pos rfl (Ev.step (fun k => by rw [spec_l03Clear.j2, if_pos rfl, wrap64_id (x := (i : Int) + 1) (by omega) (by omega)]) ?_)
      refine Ev.congr (fun k => ?_) hnext
      rw [fl_congr (m := m) (K := K)]
      · rfl
      · intro x y hx hy
        unfold cP
        by_cases e2 : x = i ∨ x < i
        · rw [if_pos e2, if_pos (show x = i ∨ x < i + 1 by omega)]
        · rw [if_neg e2, if_neg (show ¬ (x = i ∨ x < i + 1) by omega)]
    · refine Ev.neg (by omega) ?_
      have hc : cP R r f (fun i => R i col) i i col = R i col := by unfold cP; rw [if_neg (show ¬ (i = r ∨ i < i) by omega)]
      rw [hc]
      by_cases z : R i col = 0
      · refine Ev.step (fun k => by rw [spec_l03Clear.j2, if_pos (by rw [z, G.zero_v]; rfl), wrap64_id (x := (i : Int) + 1) (by omega) (by omega)]) ?_
        refine Ev.congr (fun k => ?_) hnext
        rw [fl_congr (m := m) (K := K)]
        · rfl
        · intro x y hx hy
          unfold cP
          by_cases e2 : x = r ∨ x < i
          · rw [if_pos e2, if_pos (show x = r ∨ x < i + 1 by omega)]
          · rw [if_neg e2]
            by_cases e3 : x = i
            · subst e3
              rw [if_pos (show x = r ∨ x < x + 1 from Or.inr (by omega))]
              unfold clr
              rw [if_neg e]
              show R x y = R x y + R x col * (f * R r y)
              rw [z, G.zero_mul, G.add_zero]
            · rw [if_neg (show ¬ (x = r ∨ x < i + 1) by omega)]
      · have hb : ((((R i col).v : Nat) : Int) == 0) = false := by
          rw [beq_eq_false_iff_ne]; exact fun q => z ((vz _).1 q)
        refine Ev.step (fun k => by rw [spec_l03Clear.j2, hb, if_neg (by decide)]) ?_
        have h2 := clear_l2 m K hm hK R (col := col) hr f (fun i => R i col) _ hlt e hnext K 0 (by omega) (by omega)
        refine Ev.congr (fun k => ?_) h2
        rw [fl_congr (m := m) (K := K)]
        · rfl
        · intro x y hx hy
          by_cases e3 : x = i
          · subst e3
            rw [if_pos (show x = x from rfl), if_neg (show ¬ y < 0 by omega)]
            unfold cP
            rw [if_neg (show ¬ (x = r ∨ x < x) by omega)]
          · rw [if_neg e3]
theorem clear_l0 (R : Nat → Nat → G) {r col : Nat} (hr : r < m) (hcol : col < K) (f : G) : ∀ (d j : Nat), K - j = d → j ≤ K →
    Ev (fun k => spec_l03Clear.l0 k (r : Int) (col : Int) (f.v : Int) (j : Int) (m : Int) (K : Int) (fl (fun x y => if x = r ∧ y < j then f * R r y else R x y) m K)) (fl (clr R r f (fun i => R i col)) m K) := by
  intro d
  induction d with
  | zero =>
    intro j hd hj
    refine Ev.step (fun k => by rw [spec_l03Clear.l0, if_neg (by omega)]) ?_
    refine Ev.congr (fun k => ?_) (clear_l1 m K hm hK R hr hcol f m 0 (by omega) (by omega))
    rw [fl_congr (m := m) (K := K)]
    · rfl
    · intro x y hx hy
      unfold cP clr
      by_cases e : x = r
      · rw [if_pos (show x = r ∧ y < j from ⟨e, by omega⟩), if_pos (show x = r ∨ x < 0 from Or.inl e), if_pos e]
      · rw [if_neg (show ¬ (x = r ∧ y < j) from fun q => e q.1), if_neg (show ¬ (x = r ∨ x < 0) by omega)]
  | succ d ih =>
    intro j hd hj
    have hlt : j < K := by omega
    have h1 := ix_lt hr hlt
    generalize hS : (fun x y => if x = r ∧ y < j then f * R r y else R x y) = S
    have hSr : S r j = R r j := by rw [← hS]; exact if_neg (fun q => by have := q.2; omega)
    have hl := fl_len S m K
    refine Ev.step (fun k => by rw [spec_l03Clear.l0, if_pos (by omega), at_fl m K hm hK _ hr hlt, ixw (i := r) (by omega) (by omega) (by omega), Option.bind_some, hSr]) ?_
    refine Ev.bind (mulG _ _) (Ev.pos (by omega) (Ev.pos (by omega) ?_))
    rw [Int.toNat_natCast, fl_set _ hlt, wrap64_id (x := (j : Int) + 1) (by omega) (by omega)]
    refine Ev.congr (fun k => ?_) (ih (j + 1) (by omega) (by omega))
    rw [fl_congr (m := m) (K := K)]
    · rfl
    · intro x y hx hy
      by_cases e : x = r
      · subst e
        by_cases e2 : y = j
        · subst e2
          rw [up_at, if_pos ⟨rfl, show y < y + 1 by omega⟩]
        · rw [up_ne _ (fun q => e2 q.2), ← hS]
          try dsimp only
          by_cases e3 : y < j
          · rw [if_pos ⟨rfl, e3⟩, if_pos ⟨rfl, show y < j + 1 by omega⟩]
          · rw [if_neg (fun q => e3 q.2), if_neg (fun q => by have := q.2; omega)]
      · rw [up_ne _ (fun q => e q.1), ← hS]
        try dsimp only
        rw [if_neg (fun q => e q.1), if_neg (fun q => e q.1)]
theorem clear_f (R : Nat → Nat → G) {r col : Nat} (hr : r < m) (hcol : col < K) : Ev (fun k => spec_l03Clear.f k (m : Int) (K : Int) (fl R m K) (r : Int) (col : Int)) (fl (clr R r (R r col).inv (fun i => R i col)) m K) := by
  refine Ev.congr (fun k => by rw [spec_l03Clear.f, at_fl m K hm hK _ hr hcol, Option.bind_some]) ?_
  refine Ev.bind (invG _) ?_
  have h := clear_l0 m K hm hK R hr hcol (R r col).inv K 0 (by omega) (by omega)
  refine Ev.congr (fun k => ?_) h
  rw [fl_congr (m := m) (K := K)]
  · rfl
  · intro x y hx hy
    rw [if_neg (show ¬ (x = r ∧ y < 0) by omega)]
/-- The rank answers whether the rows hang on one another. -/
def RankOk (f : Nat → Option Int) (R : Nat → Nat → G) (m K : Nat) : Prop := ∃ r : Nat, r ≤ m ∧ Ev f (r : Int) ∧ (r = m ↔ Indep R m K)
theorem rank_l1 (R : Nat → Nat → G) {rk col : Nat} (hrk : rk < m) (hcol : col < K)
    (hA : ∀ a, rk ≤ a → a < m → R a col ≠ 0 → RankOk (fun k => (spec_l03Swap.f k (m : Int) (K : Int) (fl R m K) (rk : Int) (a : Int)).bind fun t158 => ((spec_l03Clear.f k (m : Int) (K : Int) t158 (rk : Int) (col : Int)).bind fun t159 => (spec_l03Rank.l0 k (wrap64 ((rk : Int) + 1)) (wrap64 ((col : Int) + 1)) (m : Int) (K : Int) t159))) R m K)
    (hB : (∀ i, rk ≤ i → i < m → R i col = 0) → RankOk (fun k => spec_l03Rank.l0 k (rk : Int) ((col + 1 : Nat) : Int) (m : Int) (K : Int) (fl R m K)) R m K) :
    ∀ (d i : Nat) (c : Int), m - i = d → rk ≤ i → i ≤ m → ((c = -1 ∧ ∀ x, rk ≤ x → x < i → R x col = 0) ∨ ∃ a : Nat, c = (a : Int) ∧ rk ≤ a ∧ a < m ∧ R a col ≠ 0) →
    RankOk (fun k => spec_l03Rank.l1 k (rk : Int) (col : Int) c (i : Int) (m : Int) (K : Int) (fl R m K)) R m K := by
  intro d
  induction d with
  | zero =>
    intro i c hd hi hi2 hc
    rcases hc with ⟨rfl, hc⟩ | ⟨a, rfl, a1, a2, a3⟩
    · obtain ⟨r, h0, h1, h2⟩ := hB (fun x hx hx2 => hc x hx (by omega))
      refine ⟨r, h0, Ev.step (fun k => ?_) h1, h2⟩
      rw [spec_l03Rank.l1, if_neg (by omega), if_pos (by omega), wrap64_id (x := (col : Int) + 1) (by omega) (by omega)]
      rfl
    · obtain ⟨r, h0, h1, h2⟩ := hA a a1 a2 a3
      exact ⟨r, h0, Ev.step (fun k => by rw [spec_l03Rank.l1, if_neg (by omega), if_neg (by omega)]) h1, h2⟩
  | succ d ih =>
    intro i c hd hi hi2 hc
    have hlt : i < m := by omega
    have q1 : m - (i + 1) = d := by clear hc; omega
    have q2 : rk ≤ i + 1 := Nat.le_succ_of_le hi
    have q3 : i + 1 ≤ m := hlt
    by_cases z : R i col = 0
    · obtain ⟨r, h0, h1, h2⟩ := ih (i + 1) c q1 q2 q3 (by
        rcases hc with ⟨rfl, hc⟩ | hc
        · left
          refine ⟨rfl, fun x hx hx2 => ?_⟩
          by_cases e : x = i
          · rw [e]; exact z
          · exact hc x hx (by omega)
        · exact Or.inr hc)
      refine ⟨r, h0, Ev.step (fun k => ?_) h1, h2⟩
      rw [spec_l03Rank.l1, if_pos (by omega), at_fl m K hm hK _ hlt hcol, Option.bind_some, if_pos ((vz _).2 z), wrap64_id (x := (i : Int) + 1) (by omega) (by omega)]
      rfl
    · obtain ⟨r, h0, h1, h2⟩ := ih (i + 1) (i : Int) q1 q2 q3 (Or.inr ⟨i, rfl, hi, hlt, z⟩)
      refine ⟨r, h0, Ev.step (fun k => ?_) h1, h2⟩
      rw [spec_l03Rank.l1, if_pos (by omega), at_fl m K hm hK _ hlt hcol, Option.bind_some, if_neg (fun q => z ((vz _).1 q)), wrap64_id (x := (i : Int) + 1) (by omega) (by omega)]
      rfl
theorem rank_l0 : ∀ (d col : Nat) (R : Nat → Nat → G) (rk : Nat) (piv : Nat → Nat), K - col = d → col ≤ K → Elim R m rk col piv →
    RankOk (fun k => spec_l03Rank.l0 k (rk : Int) (col : Int) (m : Int) (K : Int) (fl R m K)) R m K := by
  intro d
  induction d with
  | zero =>
    intro col R rk piv hd hcol hE
    have e : col = K := by omega
    subst e
    refine ⟨rk, hE.le, Ev.step (fun k => by rw [spec_l03Rank.l0, if_neg (by omega)]) (Ev.step (fun k => by rw [spec_l03Rank.j1, if_neg (by decide)]) (Ev.now _)), ?_⟩
    constructor
    · intro e; subst e; exact hE.full (Nat.le_refl _)
    · intro hI
      have := hE.le
      exact Classical.byContradiction (fun hne => hE.less (by omega) hI)
  | succ d ih =>
    intro col R rk piv hd hcol hE
    have hlt : col < K := by omega
    have hle := hE.le
    by_cases hr : rk < m
    · have h1 := rank_l1 m K hm hK R hr hlt (fun a a1 a2 a3 => ?_) (fun hz => ?_) (m - rk) rk (-1) rfl (Nat.le_refl _) hle (Or.inl ⟨rfl, fun x _ _ => by omega⟩)
      · obtain ⟨r, h0, h1, h2⟩ := h1
        exact ⟨r, h0, Ev.step (fun k => by rw [spec_l03Rank.l0, if_pos (by omega)]) (Ev.step (fun k => by rw [spec_l03Rank.j1, if_pos (by rw [decide_eq_true_eq]; omega)]) h1), h2⟩
      · have hne : (fun x => R (sw a rk x)) rk col ≠ 0 := by simp only; rw [sw_b]; exact a3
        have hE2 := (hE.swap a1 a2).clear hr hne
        obtain ⟨r, h0, h1, h2⟩ := ih (col + 1) _ (rk + 1) _ (by omega) (by omega) hE2
        refine ⟨r, h0, ?_, ?_⟩
        · refine Ev.bind (swap_f m K hm hK R hr a2) (Ev.bind (clear_f m K hm hK _ hr hlt) ?_)
          rw [wrap64_id (x := (rk : Int) + 1) (by omega) (by omega), wrap64_id (x := (col : Int) + 1) (by omega) (by omega)]
          exact h1
        · rw [h2]
          rw [indep_clr _ hr (by rw [G.mul_comm]; exact G.mul_inv hne)]
          constructor
          · intro h
            have := indep_sw a2 hr h
            simpa [sw_sw] using this
          · exact indep_sw a2 hr
      · exact ih (col + 1) R rk piv (by omega) (by omega) (hE.skip hz)
    · have e : rk = m := by omega
      subst e
      refine ⟨rk, Nat.le_refl _, Ev.step (fun k => by rw [spec_l03Rank.l0, if_pos (by omega)]) (Ev.step (fun k => by rw [spec_l03Rank.j1, if_neg (by rw [decide_eq_true_eq]; omega)]) (Ev.now _)), ?_⟩
      exact ⟨fun _ => hE.full (by omega), fun _ => rfl⟩
theorem rank_f (R : Nat → Nat → G) : RankOk (fun k => spec_l03Rank.f k (m : Int) (K : Int) (fl R m K)) R m K := by
  obtain ⟨r, h0, h1, h2⟩ := rank_l0 m K hm hK K 0 R 0 _ (by omega) (by omega) (Elim.start R m)
  refine ⟨r, h0, ?_, h2⟩
  have hl := fl_len R m K
  have := Nat.mul_le_mul hm hK
  refine Ev.congr (fun k => by rw [spec_l03Rank.f, Option.bind_some, if_pos (by rw [List.length_nil]; omega), List.nil_append]) ?_
  exact h1
end

/-! The rows that the program takes one by one, and the reference's by rank. -/
def lst (r : Nat → G) (K : Nat) : List Int := (List.range K).map fun j => ((r j).v : Int)
theorem lst_len (r : Nat → G) (K : Nat) : (lst r K).length = K := by simp [lst]
theorem lst_congr {r s : Nat → G} {K : Nat} (h : ∀ j, j < K → r j = s j) : lst r K = lst s K := by
  unfold lst
  refine List.map_congr_left (fun t ht => ?_)
  rw [List.mem_range] at ht
  rw [h t ht]
theorem lst_rd (r : Nat → G) {K j : Nat} (hj : j < K) : rd (lst r K) (j : Int) = ((r j).v : Int) := by
  unfold rd lst
  rw [Int.toNat_natCast, List.getD_eq_getElem?_getD, List.getElem?_map, List.getElem?_range hj, Option.map_some, Option.getD_some]
theorem lst_set (r : Nat → G) {K j : Nat} (x : G) : (lst r K).set j ((x.v : Nat) : Int) = lst (fun y => if y = j then x else r y) K := by
  refine List.ext_getElem? (fun t => ?_)
  rw [List.getElem?_set]
  unfold lst
  simp only [List.length_map, List.length_range, List.getElem?_map]
  by_cases ht : t < K
  · rw [List.getElem?_range ht]
    by_cases e : j = t
    · rw [if_pos e, if_pos (by omega), ← e]
      simp
    · rw [if_neg e]
      simp only [Option.map_some]
      rw [if_neg (fun q => e q.symm)]
  · rw [List.getElem?_eq_none (by simpa using ht)]
    by_cases e : j = t
    · rw [if_pos e, if_neg (by omega)]; rfl
    · rw [if_neg e]; rfl
theorem fl_snoc (T : Nat → Nat → G) (r : Nat → G) (m K : Nat) : fl T m K ++ lst r K = fl (snoc T m r) (m + 1) K := by
  unfold fl lst
  rw [Nat.add_mul, Nat.one_mul, List.range_add, List.map_append, List.map_map]
  congr 1
  · refine List.map_congr_left (fun t ht => ?_)
    rw [List.mem_range] at ht
    rw [snoc_lt]
    exact Nat.div_lt_of_lt_mul (by rw [Nat.mul_comm]; exact ht)
  · refine List.map_congr_left (fun t ht => ?_)
    rw [List.mem_range] at ht
    show _ = (((snoc T m r ((m * K + t) / K) ((m * K + t) % K)).v : Nat) : Int)
    rw [ix_div ht, ix_mod ht, snoc_last]
def rowV (K M Gr i j : Nat) : G := ⟨(rowC K M Gr i j).toNat % 256, Nat.mod_lt _ (by decide)⟩
theorem rowL_lst (K M G i : Nat) (hi : i < 64) (hK : K ≤ 32) : rowL K M G i = lst (rowV K M G i) K := by
  unfold rowL lst
  refine List.map_congr_left (fun t ht => ?_)
  rw [List.mem_range] at ht
  have := rowC_range K M G i t hi (by omega)
  show _ = (((rowC K M G i t).toNat % 256 : Nat) : Int)
  omega
theorem mulT (p : Int) (a b : G) : impl_tables8_mul.f p (a.v : Int) (b.v : Int) = some (((a * b).v : Nat) : Int) := by
  have h1 := a.h
  have h2 := b.h
  unfold impl_tables8_mul.f
  rw [if_pos ⟨by omega, by omega, by omega, by omega⟩, Int.toNat_natCast, Int.toNat_natCast, tabMul_field _ _ h1 h2]
  rfl
theorem invT (p : Int) (a : G) : impl_tables8_inv.f p (a.v : Int) = some ((a.inv.v : Nat) : Int) := by
  have h1 := a.h
  unfold impl_tables8_inv.f
  rw [if_pos ⟨by omega, by omega⟩, Int.toNat_natCast, tabInv_field _ h1]
  rfl
theorem xor8G (a b : G) : Go.bits .xor .u8 (a.v : Int) (b.v : Int) = (((a + b).v : Nat) : Int) := bits_xor_u8 _ _ a.h b.h
def stp (S : Nat → Nat → G) (m K : Nat) : List (List Int) := (List.range m).map fun i => lst (S i) K
theorem stp_len (S : Nat → Nat → G) (m K : Nat) : (stp S m K).length = m := by simp [stp]
theorem stp_at (S : Nat → Nat → G) {m K i : Nat} (hi : i < m) : rowOf.f (stp S m K) (i : Int) = some (lst (S i) K) := by
  have hl := stp_len S m K
  unfold rowOf.f
  rw [if_pos ⟨by omega, by omega⟩, Int.toNat_natCast, List.getD_eq_getElem?_getD]
  unfold stp
  rw [List.getElem?_map, List.getElem?_range hi]
  rfl
theorem stp_snoc (S : Nat → Nat → G) (r : Nat → G) (m K : Nat) : stp S m K ++ [lst r K] = stp (snoc S m r) (m + 1) K := by
  unfold stp
  rw [List.range_succ, List.map_append]
  congr 1
  · refine List.map_congr_left (fun t ht => ?_)
    rw [List.mem_range] at ht
    rw [snoc_lt S _ ht]
  · simp only [List.map_cons, List.map_nil, snoc_last]
section
variable (K : Nat) (hK : K ≤ 32)
include hK
theorem lead_none {r : Nat → G} (h : ∀ j, j < K → r j = 0) : ∀ (d j : Nat), K - j = d → j ≤ K → Ev (fun k => impl_leadOf.l0 k (lst r K) (K : Int) (j : Int)) (-1) := by
  intro d
  induction d with
  | zero =>
    intro j hd hj
    exact Ev.step (fun k => by rw [impl_leadOf.l0, if_neg (by omega)]) (Ev.now _)
  | succ d ih =>
    intro j hd hj
    have hlt : j < K := by omega
    have hl := lst_len r K
    refine Ev.step (fun k => by rw [impl_leadOf.l0, if_pos (by omega), if_pos (by omega), if_pos (by omega), lst_rd r hlt, if_pos ((vz _).2 (h j hlt)), wrap64_id (x := (j : Int) + 1) (by omega) (by omega)]) ?_
    exact ih (j + 1) (by omega) (by omega)
theorem lead_some {r : Nat → G} {l : Nat} (hl : l < K) (h : ∀ j, j < l → r j = 0) (h1 : r l ≠ 0) : ∀ (d j : Nat), l - j = d → j ≤ l → Ev (fun k => impl_leadOf.l0 k (lst r K) (K : Int) (j : Int)) (l : Int) := by
  intro d
  induction d with
  | zero =>
    intro j hd hj
    have e : j = l := by omega
    subst e
    have hl2 := lst_len r K
    refine Ev.step (fun k => by rw [impl_leadOf.l0, if_pos (by omega), if_pos (by omega), if_pos (by omega), lst_rd r hl, if_neg (fun q => h1 ((vz _).1 q))]) (Ev.now _)
  | succ d ih =>
    intro j hd hj
    have hlt : j < l := by omega
    have hl2 := lst_len r K
    refine Ev.step (fun k => by rw [impl_leadOf.l0, if_pos (by omega), if_pos (by omega), if_pos (by omega), lst_rd r (show j < K by omega), if_pos ((vz _).2 (h j hlt)), wrap64_id (x := (j : Int) + 1) (by omega) (by omega)]) ?_
    exact ih (j + 1) (by omega) (by omega)
theorem leadOf_none {r : Nat → G} (h : ∀ j, j < K → r j = 0) : Ev (fun k => impl_leadOf.f k (lst r K)) (-1) :=
  Ev.congr (fun k => by rw [impl_leadOf.f, lst_len]; rfl) (lead_none K hK h K 0 (by omega) (by omega))
theorem leadOf_some {r : Nat → G} {l : Nat} (hl : l < K) (h : ∀ j, j < l → r j = 0) (h1 : r l ≠ 0) : Ev (fun k => impl_leadOf.f k (lst r K)) (l : Int) :=
  Ev.congr (fun k => by rw [impl_leadOf.f, lst_len]; rfl) (lead_some K hK hl h h1 l 0 (by omega) (by omega))
theorem basis_l2 (p x5 : Int) (tk : List Int) (sp : List (List Int)) (x8 : Int) (r s : Nat → G) (b : G) (hv : List Bool) (x27 x28 x45 : Int) (x44 : List (List Int)) (q : Nat) (hq : q ≤ 1000) (res : List Int)
    (hc : Ev (fun k => impl_plant_basis.l1 k p x5 tk sp x8 (lst (fun y => r y + b * s y) K) hv x27 x28 x44 x45 ((q + 1 : Nat) : Int)) res) : ∀ (d j : Nat), K - j = d → j ≤ K →
    Ev (fun k => impl_plant_basis.l2 k p x5 tk sp x8 (lst (fun y => if y < j then r y + b * s y else r y) K) (lst s K) (b.v : Int) hv x27 x28 x44 x45 (q : Int) (K : Int) (j : Int)) res := by
  intro d
  induction d with
  | zero =>
    intro j hd hj
    refine Ev.step (fun k => by rw [impl_plant_basis.l2, if_neg (by omega), wrap64_id (x := (q : Int) + 1) (by omega) (by omega)]) ?_
    refine Ev.congr (fun k => ?_) hc
    rw [lst_congr (K := K) (s := fun y => r y + b * s y)]
    · rfl
    · intro y hy
      rw [if_pos (show y < j by omega)]
  | succ d ih =>
    intro j hd hj
    have hlt : j < K := by omega
    generalize hS : (fun y => if y < j then r y + b * s y else r y) = S
    have hSj : S j = r j := by rw [← hS]; exact if_neg (by omega)
    have hl := lst_len S K
    have hl2 := lst_len s K
    refine Ev.step (fun k => by rw [impl_plant_basis.l2, if_pos (by omega), if_pos (by omega), if_pos (by omega), if_pos (by omega), lst_rd s hlt, lst_rd S hlt, mulT, Option.bind_some, hSj, xor8G, Int.toNat_natCast, lst_set, wrap64_id (x := (j : Int) + 1) (by omega) (by omega)]) ?_
    refine Ev.congr (fun k => ?_) (ih (j + 1) (by omega) (by omega))
    rw [lst_congr (K := K) (s := fun y => if y < j + 1 then r y + b * s y else r y)]
    · rfl
    · intro y hy
      by_cases e : y = j
      · subst e
        rw [if_pos rfl, if_pos (show y < y + 1 by omega)]
      · rw [if_neg e, ← hS]
        try dsimp only
        by_cases e2 : y < j
        · rw [if_pos e2, if_pos (show y < j + 1 by omega)]
        · rw [if_neg e2, if_neg (show ¬ y < j + 1 by omega)]
theorem basis_l3 (p x5 : Int) (tk : List Int) (sp : List (List Int)) (x8 : Int) (r : Nat → G) (b : G) (hv : List Bool) (x27 : Int) (i : Nat) (hi : i ≤ 1000) (hsp : sp.length ≤ 1000) (htk : tk.length ≤ 1000) (res : List Int)
    (hc : Ev (fun k => impl_plant_basis.l0 k p x5 (tk ++ [x8]) (sp ++ [lst (fun y => r y * b) K]) hv x27 ((i + 1 : Nat) : Int)) res) : ∀ (d j : Nat), K - j = d → j ≤ K →
    Ev (fun k => impl_plant_basis.l3 k p x5 tk sp x8 (lst (fun y => if y < j then r y * b else r y) K) (b.v : Int) hv x27 (i : Int) (K : Int) (j : Int)) res := by
  intro d
  induction d with
  | zero =>
    intro j hd hj
    refine Ev.step (fun k => by rw [impl_plant_basis.l3, if_neg (by omega), if_pos (by omega), if_pos (by omega), wrap64_id (x := (i : Int) + 1) (by omega) (by omega)]) ?_
    refine Ev.congr (fun k => ?_) hc
    rw [lst_congr (K := K) (s := fun y => r y * b)]
    · rfl
    · intro y hy
      rw [if_pos (show y < j by omega)]
  | succ d ih =>
    intro j hd hj
    have hlt : j < K := by omega
    generalize hS : (fun y => if y < j then r y * b else r y) = S
    have hSj : S j = r j := by rw [← hS]; exact if_neg (by omega)
    have hl := lst_len S K
    refine Ev.step (fun k => by rw [impl_plant_basis.l3, if_pos (by omega), if_pos (by omega), if_pos (by omega), lst_rd S hlt, mulT, Option.bind_some, hSj, Int.toNat_natCast, lst_set, wrap64_id (x := (j : Int) + 1) (by omega) (by omega)]) ?_
    refine Ev.congr (fun k => ?_) (ih (j + 1) (by omega) (by omega))
    rw [lst_congr (K := K) (s := fun y => if y < j + 1 then r y * b else r y)]
    · rfl
    · intro y hy
      by_cases e : y = j
      · subst e
        rw [if_pos rfl, if_pos (show y < y + 1 by omega)]
      · rw [if_neg e, ← hS]
        try dsimp only
        by_cases e2 : y < j
        · rw [if_pos e2, if_pos (show y < j + 1 by omega)]
        · rw [if_neg e2, if_neg (show ¬ y < j + 1 by omega)]
theorem basis_l1 (p x5 : Int) (tk : List Int) (x8 : Int) (hv : List Bool) (x27 x28 : Int) {T S : Nat → Nat → G} {L : Nat → Nat} {m : Nat} (hm : m ≤ 64) (hS : Steps T S L m K) (hF : ∀ k, k < m → ∀ j, j < L k → S k j = 0) (r : Nat → G) (res : List Int)
    (hc : Ev (fun k => impl_plant_basis.l1 k p x5 tk (stp S m K) x8 (lst (left S L r m) K) hv x27 x28 (stp S m K) (m : Int) (m : Int)) res) : ∀ (d q : Nat), m - q = d → q ≤ m →
    Ev (fun k => impl_plant_basis.l1 k p x5 tk (stp S m K) x8 (lst (left S L r q) K) hv x27 x28 (stp S m K) (m : Int) (q : Int)) res := by
  intro d
  induction d with
  | zero =>
    intro q hd hq
    have e : q = m := by omega
    rw [e]; exact hc
  | succ d ih =>
    intro q hd hq
    have hlt : q < m := by omega
    have hL := hS.lt q hlt
    have h1 := hS.one q hlt
    have hn := ih (q + 1) (by omega) (by omega)
    have hl := lst_len (left S L r q) K
    refine Ev.step (fun k => by rw [impl_plant_basis.l1, if_pos (by omega), stp_at S hlt, Option.bind_some]) ?_
    refine Ev.bind (leadOf_some K hK hL (hF q hlt) (by rw [h1]; exact G.one_ne)) (Ev.pos (by omega) (Ev.pos (by omega) ?_))
    rw [lst_rd _ hL]
    by_cases z : left S L r q (L q) = 0
    · refine Ev.pos ((vz _).2 z) ?_
      rw [wrap64_id (x := (q : Int) + 1) (by omega) (by omega)]
      refine Ev.congr (fun k => ?_) hn
      rw [lst_congr (K := K) (r := left S L r q) (s := left S L r (q + 1))]
      · rfl
      · intro y hy
        show left S L r q y = left S L r q y + left S L r q (L q) * S q y
        rw [z, G.zero_mul, G.add_zero]
    · refine Ev.neg (fun w => z ((vz _).1 w)) ?_
      rw [lst_len]
      have := basis_l2 K hK p x5 tk (stp S m K) x8 (left S L r q) (S q) (left S L r q (L q)) hv x27 x28 (m : Int) (stp S m K) q (by omega) res hn K 0 (by omega) (by omega)
      refine Ev.congr (fun k => ?_) this
      rw [lst_congr (K := K) (r := left S L r q) (s := fun y => if y < 0 then left S L r q y + left S L r q (L q) * S q y else left S L r q y)]
      · rfl
      · intro y hy
        rw [if_neg (show ¬ y < 0 by omega)]
theorem basis_none (p x5 : Int) (tk : List Int) (sp : List (List Int)) (x8 : Int) (hv : List Bool) (x27 : Int) (i : Nat) (hi : i ≤ 1000) (m : Nat) (x44 : List (List Int)) (r : Nat → G) (res : List Int) (hz : ∀ j, j < K → r j = 0)
    (hc : Ev (fun k => impl_plant_basis.l0 k p x5 tk sp hv x27 ((i + 1 : Nat) : Int)) res) : Ev (fun k => impl_plant_basis.l1 k p x5 tk sp x8 (lst r K) hv x27 (i : Int) x44 (m : Int) (m : Int)) res := by
  refine Ev.step (fun k => by rw [impl_plant_basis.l1, if_neg (by omega)]) ?_
  refine Ev.bind (leadOf_none K hK hz) (Ev.pos (by omega) ?_)
  rw [wrap64_id (x := (i : Int) + 1) (by omega) (by omega)]
  exact hc
theorem basis_more (p x5 : Int) (tk : List Int) (sp : List (List Int)) (x8 : Int) (hv : List Bool) (x27 : Int) (i : Nat) (hi : i ≤ 1000) (hsp : sp.length ≤ 1000) (htk : tk.length ≤ 1000) (m : Nat) (x44 : List (List Int)) (r : Nat → G) (res : List Int) {l : Nat} (hl : l < K) (h : ∀ j, j < l → r j = 0) (h1 : r l ≠ 0)
    (hc : Ev (fun k => impl_plant_basis.l0 k p x5 (tk ++ [x8]) (sp ++ [lst (fun y => r y * (r l).inv) K]) hv x27 ((i + 1 : Nat) : Int)) res) : Ev (fun k => impl_plant_basis.l1 k p x5 tk sp x8 (lst r K) hv x27 (i : Int) x44 (m : Int) (m : Int)) res := by
  have hl2 := lst_len r K
  refine Ev.step (fun k => by rw [impl_plant_basis.l1, if_neg (by omega)]) ?_
  refine Ev.bind (leadOf_some K hK hl h h1) (Ev.neg (by omega) (Ev.pos (by omega) (Ev.pos (by omega) ?_)))
  rw [lst_rd _ hl, invT]
  refine Ev.bindS rfl ?_
  rw [lst_len]
  have := basis_l3 K hK p x5 tk sp x8 r (r l).inv hv x27 i hi hsp htk res hc K 0 (by omega) (by omega)
  refine Ev.congr (fun k => ?_) this
  rw [lst_congr (K := K) (r := r) (s := fun y => if y < 0 then r y * (r l).inv else r y)]
  · rfl
  · intro y hy
    rw [if_neg (show ¬ y < 0 by omega)]
end
theorem codeRowOf_in {K M Gr i : Nat} (h0 : codeFaultOf (K : Int) (M : Int) (Gr : Int) = 0) (hi : i < K + M + Gr) : codeRowOf (K : Int) (M : Int) (Gr : Int) (i : Int) = lst (rowV K M Gr i) K := by
  have hb := codeFault_zero h0
  have hc : codeFaultOf (K : Int) (M : Int) (Gr : Int) = 0 ∧ 0 ≤ (i : Int) ∧ (i : Int) < (K : Int) + (M : Int) + (Gr : Int) := ⟨h0, by omega, by omega⟩
  unfold codeRowOf
  rw [if_pos hc, Int.toNat_natCast, Int.toNat_natCast, Int.toNat_natCast, Int.toNat_natCast]
  exact rowL_lst K M Gr i (by omega) (by omega)
theorem codeRow_in {K M Gr i : Nat} (h0 : codeFaultOf (K : Int) (M : Int) (Gr : Int) = 0) (hi : i < K + M + Gr) : Ev (fun k => spec_CodeRow.f k (K : Int) (M : Int) (Gr : Int) (i : Int)) (lst (rowV K M Gr i) K) :=
  codeRowOf_in h0 hi ▸ spec_codeRow (K : Int) (M : Int) (Gr : Int) (i : Int)
theorem wrapS (i : Nat) (h : i ≤ 1000) : wrap64 ((i : Int) + 1) = ((i + 1 : Nat) : Int) := by rw [wrap64_id (by omega) (by omega)]; rfl
theorem Ev.step2 {α : Type} {f g : Nat → Option α} {r : α} (h : ∀ k, f (k + 1 + 1) = g k) (e : Ev g r) : Ev f r := by
  have h2 : Ev (fun k => f (k + 1)) r := Ev.step (fun k => h k) e
  exact Ev.step (fun k => rfl) h2
theorem least {P : Nat → Prop} : ∀ (n : Nat), (∃ l, l < n ∧ P l) → ∃ l, l < n ∧ P l ∧ ∀ j, j < l → ¬ P j
  | 0, ⟨_, h, _⟩ => by omega
  | n + 1, ⟨l, h, hp⟩ => by
    by_cases hq : ∃ l, l < n ∧ P l
    · obtain ⟨a, h1, h2, h3⟩ := least n hq
      exact ⟨a, by omega, h2, h3⟩
    · refine ⟨l, h, hp, fun j hj hpj => hq ⟨j, by omega, hpj⟩⟩
theorem rdb_at (l : List Bool) (i : Nat) (h : i < l.length) : rdOf false l (i : Int) = l[i] := by
  unfold rdOf
  rw [Int.toNat_natCast, List.getD_eq_getElem?_getD, List.getElem?_eq_getElem h]; rfl
section
variable (K M Gr : Nat) (h0 : codeFaultOf (K : Int) (M : Int) (Gr : Int) = 0) (p : Int) (hpK : pK p = K) (hpM : pM p = M) (hpG : pG p = Gr) (hv : List Bool) (hn : hv.length = K + M + Gr)
include h0 hpK hpM hpG hn
theorem basis_full (tk : List Int) (sp : List (List Int)) (ht : tk.length = K) : ∀ (d i : Nat), hv.length - i = d → i ≤ hv.length → Ev (fun k => impl_plant_basis.l0 k p (K : Int) tk sp hv (hv.length : Int) (i : Int)) tk := by
  have hb := codeFault_zero h0
  intro d
  induction d with
  | zero =>
    intro i hd hi
    exact Ev.step (fun k => by rw [impl_plant_basis.l0, if_neg (by omega)]) (Ev.now _)
  | succ d ih =>
    intro i hd hi
    have hlt : i < hv.length := by omega
    have hnx := ih (i + 1) (by omega) (by omega)
    have ej : ∀ k, impl_plant_basis.j1 (k + 1) p (K : Int) tk sp (i : Int) hv (hv.length : Int) (i : Int) true = impl_plant_basis.l0 k p (K : Int) tk sp hv (hv.length : Int) ((i + 1 : Nat) : Int) := fun k => by
      rw [impl_plant_basis.j1, if_pos rfl, wrap64_id (x := (i : Int) + 1) (by omega) (by omega)]; rfl
    refine Ev.step (fun k => by rw [impl_plant_basis.l0, if_pos (by omega), if_pos (by omega), if_pos (by omega)]) ?_
    by_cases hb : rdOf false hv (i : Int) = true
    · refine Ev.pos hb (Ev.step (fun k => ?_) hnx)
      rw [show (((tk.length : Nat) : Int) == (K : Int)) = true by rw [beq_iff_eq]; omega]
      exact ej k
    · exact Ev.neg hb (Ev.step ej hnx)
theorem basis_take : ∀ (d i : Nat) (T S : Nat → Nat → G) (L : Nat → Nat) (m : Nat) (tk : List Int), hv.length - i = d → i ≤ hv.length → tk.length = m → m ≤ K → Steps T S L m K → (∀ k, k < m → ∀ j, j < L k → S k j = 0) →
    ∃ res : List Int, res.length ≤ K ∧ Ev (fun k => impl_plant_basis.l0 k p (K : Int) tk (stp S m K) hv (hv.length : Int) (i : Int)) res ∧
      Ev (fun k => spec_l04Take.l0 k hv tk (fl T m K) (i : Int) (K : Int) (M : Int) (Gr : Int)) (if res.length < K then [] else res) := by
  have hb := codeFault_zero h0
  intro d
  induction d with
  | zero =>
    intro i T S L m tk hd hi ht hm hS hF
    refine ⟨tk, by omega, Ev.step (fun k => by rw [impl_plant_basis.l0, if_neg (by omega)]) (Ev.now _), ?_⟩
    refine Ev.step (fun k => by rw [spec_l04Take.l0, if_neg (by omega)]) (Ev.step (fun k => by rw [spec_l04Take.j1, if_neg (by decide)]) ?_)
    by_cases e : tk.length < K
    · rw [if_pos e]; exact Ev.pos (by omega) (Ev.now _)
    · rw [if_neg e]; exact Ev.neg (by omega) (Ev.now _)
  | succ d ih =>
    intro i T S L m tk hd hi ht hm hS hF
    have hlt : i < hv.length := by omega
    by_cases hmK : m = K
    · refine ⟨tk, by omega, basis_full K M Gr h0 p hpK hpM hpG hv hn tk _ (by omega) _ i rfl hi, ?_⟩
      rw [if_neg (by omega)]
      refine Ev.step (fun k => by rw [spec_l04Take.l0, if_pos (by omega)]) (Ev.step (fun k => by rw [spec_l04Take.j1, if_neg (by rw [decide_eq_true_eq]; omega), if_neg (by omega)]) (Ev.now _))
    · have ej : ∀ k, impl_plant_basis.j1 (k + 1) p (K : Int) tk (stp S m K) (i : Int) hv (hv.length : Int) (i : Int) true = impl_plant_basis.l0 k p (K : Int) tk (stp S m K) hv (hv.length : Int) ((i + 1 : Nat) : Int) := fun k => by
        rw [impl_plant_basis.j1, if_pos rfl, wrap64_id (x := (i : Int) + 1) (by omega) (by omega)]; rfl
      have es : ∀ k, spec_l04Take.l0 (k + 1 + 1) hv tk (fl T m K) (i : Int) (K : Int) (M : Int) (Gr : Int) = (if rdOf false hv (i : Int) = true then ((some (([] : List Int) : List Int)).bind fun y171 => (if y171.length + (fl T m K).length < 17592186044416 then ((some (y171 ++ (fl T m K) : List Int)).bind fun y174 => ((spec_CodeRow.f k (K : Int) (M : Int) (Gr : Int) (i : Int)).bind fun t177 => (if y174.length + t177.length < 17592186044416 then ((some (y174 ++ t177 : List Int)).bind fun y180 => ((spec_l03Rank.f k (wrap64 ((tk.length : Int) + 1)) (K : Int) y180).bind fun t184 => (if t184 = (wrap64 ((tk.length : Int) + 1)) then (if tk.length < 17592186044416 then (spec_l04Take.l0 k hv (tk ++ [(i : Int)]) y180 (wrap64 ((i : Int) + 1)) (K : Int) (M : Int) (Gr : Int)) else (none)) else (spec_l04Take.l0 k hv tk (fl T m K) (wrap64 ((i : Int) + 1)) (K : Int) (M : Int) (Gr : Int))))) else (none)))) else (none))) else (spec_l04Take.l0 k hv tk (fl T m K) (wrap64 ((i : Int) + 1)) (K : Int) (M : Int) (Gr : Int))) := fun k => by
        rw [spec_l04Take.l0, if_pos (by omega), spec_l04Take.j1, if_pos (by rw [decide_eq_true_eq]; omega), if_pos (by omega), if_pos (by omega)]
      by_cases hh : rdOf false hv (i : Int) = true
      · -- the row
        have hrow : Ev (fun k => spec_CodeRow.f k (K : Int) (M : Int) (Gr : Int) (i : Int)) (lst (rowV K M Gr i) K) := codeRow_in h0 (by omega)
        have hprow : impl_plant_row.f p (i : Int) = some (lst (rowV K M Gr i) K) := by
          unfold impl_plant_row.f
          rw [hpK, hpM, hpG, if_pos ⟨by omega, by omega⟩, Int.toNat_natCast, rowL_lst K M Gr i (by omega) (by omega)]
        generalize rowV K M Gr i = r at hrow hprow
        obtain ⟨rk, hr0, hr1, hr2⟩ := rank_f (m + 1) K (by omega) (by omega) (snoc T m r)
        have hlen := fl_len T m K
        have hmul := Nat.mul_le_mul (show m ≤ 64 by omega) (show K ≤ 32 by omega)
        have hll := lst_len r K
        -- both go on
        have hspec : ∀ res, Ev (fun k => if ((rk : Nat) : Int) = ((m + 1 : Nat) : Int) then (if tk.length < 17592186044416 then (spec_l04Take.l0 k hv (tk ++ [(i : Int)]) (fl (snoc T m r) (m + 1) K) ((i + 1 : Nat) : Int) (K : Int) (M : Int) (Gr : Int)) else (none)) else (spec_l04Take.l0 k hv tk (fl T m K) ((i + 1 : Nat) : Int) (K : Int) (M : Int) (Gr : Int))) res →
            Ev (fun k => spec_l04Take.l0 k hv tk (fl T m K) (i : Int) (K : Int) (M : Int) (Gr : Int)) res := fun res h => by
          refine Ev.step2 es (Ev.pos hh (Ev.bindS rfl (Ev.pos (by rw [List.length_nil]; omega) (Ev.bindS rfl ?_))))
          rw [List.nil_append]
          refine Ev.bind hrow (Ev.pos (by omega) (Ev.bindS rfl ?_))
          rw [fl_snoc, (show wrap64 ((tk.length : Int) + 1) = ((m + 1 : Nat) : Int) by rw [ht]; exact wrapS m (by omega)), wrapS i (by omega)]
          exact Ev.bind hr1 h
        have himpl : ∀ res, Ev (fun k => impl_plant_basis.l1 k p (K : Int) tk (stp S m K) (i : Int) (lst (left S L r m) K) hv (hv.length : Int) (i : Int) (stp S m K) (m : Int) (m : Int)) res →
            Ev (fun k => impl_plant_basis.l0 k p (K : Int) tk (stp S m K) hv (hv.length : Int) (i : Int)) res := fun res h => by
          refine Ev.step (fun k => by rw [impl_plant_basis.l0, if_pos (by omega), if_pos (by omega), if_pos (by omega), if_pos hh, show (((tk.length : Nat) : Int) == (K : Int)) = false by rw [beq_eq_false_iff_ne]; omega]) ?_
          refine Ev.step (fun k => by rw [impl_plant_basis.j1, if_neg (by decide), hprow, Option.bind_some, stp_len]) ?_
          exact basis_l1 K (by omega) p (K : Int) tk (i : Int) hv (hv.length : Int) (i : Int) (by omega) hS hF r res h m 0 (by omega) (by omega)
        by_cases hz : ∃ l, l < K ∧ left S L r m l ≠ 0
        · obtain ⟨l, l1, l2, l3⟩ := least K hz
          have l3' : ∀ j, j < l → left S L r m j = 0 := fun j hj => Classical.byContradiction (l3 j hj)
          have hS2 := steps_more hS (r := r) l1 l2
          have hind := hr2.2 hS2.ind
          obtain ⟨res, e1, e2, e3⟩ := ih (i + 1) _ _ _ (m + 1) (tk ++ [(i : Int)]) (by omega) (by omega) (by rw [List.length_append, ht]; rfl) (by omega) hS2 (fun k hk j hj => by
            by_cases e : k = m
            · subst e
              rw [snoc_last] at hj ⊢
              show left S L r k j * _ = 0
              rw [l3' j hj, G.zero_mul]
            · rw [snoc_lt L _ (show k < m by omega)] at hj
              rw [snoc_lt S _ (show k < m by omega)]
              exact hF k (by omega) j hj)
          refine ⟨res, e1, himpl _ ?_, hspec _ (Ev.pos (by omega) (Ev.pos (by omega) e3))⟩
          have hsl := stp_len S m K
          refine basis_more K (by omega) p (K : Int) tk (stp S m K) (i : Int) hv (hv.length : Int) i (by omega) (by omega) (by omega) m _ (left S L r m) res l1 l3' l2 ?_
          rw [stp_snoc]
          exact e2
        · have hz' : ∀ j, j < K → left S L r m j = 0 := fun j hj => Classical.byContradiction (fun q => hz ⟨j, hj, q⟩)
          have hni := steps_none hS hz'
          have hne : rk ≠ m + 1 := fun e => hni (hr2.1 e)
          obtain ⟨res, e1, e2, e3⟩ := ih (i + 1) T S L m tk (by omega) (by omega) ht hm hS hF
          refine ⟨res, e1, himpl _ ?_, hspec _ (Ev.neg (by omega) e3)⟩
          exact basis_none K (by omega) p (K : Int) tk (stp S m K) (i : Int) hv (hv.length : Int) i (by omega) m _ (left S L r m) res hz' e2
      · obtain ⟨res, e1, e2, e3⟩ := ih (i + 1) T S L m tk (by omega) (by omega) ht hm hS hF
        refine ⟨res, e1, ?_, ?_⟩
        · refine Ev.step (fun k => by rw [impl_plant_basis.l0, if_pos (by omega), if_pos (by omega), if_pos (by omega), if_neg hh]) (Ev.step ej e2)
        · refine Ev.step2 es (Ev.neg hh ?_)
          rw [wrapS i (by omega)]
          exact e3
/-- The rows taken. -/
theorem take_both : ∃ res : List Int, res.length ≤ K ∧ Ev (fun k => impl_plant_basis.f k p hv) res ∧ Ev (fun k => spec_l04Take.f k (K : Int) (M : Int) (Gr : Int) hv) (if res.length < K then [] else res) := by
  obtain ⟨res, e1, e2, e3⟩ := basis_take K M Gr h0 p hpK hpM hpG hv hn hv.length 0 (fun _ _ => 0) (fun _ _ => 0) (fun _ => 0) 0 [] (by omega) (by omega) rfl (Nat.zero_le _) (Steps.start _ _ _ _) (fun k hk => by omega)
  refine ⟨res, e1, ?_, ?_⟩
  · refine Ev.congr (fun k => ?_) e2
    rw [impl_plant_basis.f]
    show (some ((pK p : Nat) : Int)).bind _ = _
    rw [Option.bind_some, hpK]
    rfl
  · refine Ev.congr (fun k => ?_) e3
    rw [spec_l04Take.f]
    have : fl (fun _ _ => 0) 0 K = [] := by unfold fl; rw [Nat.zero_mul]; rfl
    rw [this]
    rfl
end

/-! The repair plan: groups, the test whether all are at hand, and the whole. -/
theorem tmodN (a b : Nat) : Int.tmod (a : Int) (b : Int) = ((a % b : Nat) : Int) := rfl
theorem mod_gap {i x Gr g : Nat} (hi : i % Gr = g) (h1 : i + 1 ≤ x) (h2 : x < i + Gr) : x % Gr ≠ g := by
  intro e
  have h := Nat.sub_mod_eq_zero_of_mod_eq (e.trans hi.symm)
  rw [Nat.mod_eq_of_lt (by omega)] at h
  omega
section
variable (K M Gr lost g : Nat) (hK : K ≤ 32) (hM : M ≤ 16) (hG : Gr ≤ 32) (hG1 : 1 ≤ Gr) (hg : g < Gr) (hlost : lost ≤ 1000)
include hK hM hG hG1 hg hlost
theorem group_loop : ∀ (d i j : Nat) (acc : List Int), K - i = d → i ≤ K → i ≤ j → j ≤ i + Gr → j % Gr = g → (∀ x, i ≤ x → x < j → x % Gr ≠ g) → acc.length ≤ i → (∀ x ∈ acc, 0 ≤ x ∧ x < ((K + M + Gr : Nat) : Int)) →
    ∃ res : List Int, res.length ≤ 64 ∧ (∀ x ∈ res, 0 ≤ x ∧ x < ((K + M + Gr : Nat) : Int)) ∧ Ev (fun k => impl_plant_groupOf.l0 k (lost : Int) (K : Int) (Gr : Int) ((K + M : Nat) : Int) (g : Int) acc (j : Int)) res ∧
      Ev (fun k => spec_l04Group.l0 k (lost : Int) acc (g : Int) (i : Int) (K : Int) (M : Int) (Gr : Int)) res := by
  intro d
  induction d with
  | zero =>
    intro i j acc hd hi hij hj hm hx hl ha
    have e : i = K := by omega
    subst e
    by_cases h : lost < i
    · refine ⟨acc ++ [((i + M + g : Nat) : Int)], by rw [List.length_append, List.length_singleton]; omega, ?_, ?_, ?_⟩
      · intro x hx
        rw [List.mem_append, List.mem_singleton] at hx
        rcases hx with hx | rfl
        · exact ha x hx
        · omega
      · refine Ev.step (fun k => by rw [impl_plant_groupOf.l0, if_neg (by omega), if_pos (by omega), if_pos (by omega), wrap64_id (by omega) (by omega)]) (Ev.give ?_)
        rfl
      · refine Ev.step (fun k => by rw [spec_l04Group.l0, if_neg (by omega), if_pos (by omega), if_pos (by omega), wrap64_id (x := (i : Int) + (M : Int)) (by omega) (by omega), wrap64_id (by omega) (by omega)]) (Ev.give ?_)
        rfl
    · refine ⟨acc, by omega, ha, ?_, ?_⟩
      · exact Ev.step (fun k => by rw [impl_plant_groupOf.l0, if_neg (by omega), if_neg (by omega)]) (Ev.now _)
      · exact Ev.step (fun k => by rw [spec_l04Group.l0, if_neg (by omega), if_neg (by omega)]) (Ev.now _)
  | succ d ih =>
    intro i j acc hd hi hij hj hm hx hl ha
    have hlt : i < K := by omega
    by_cases e : i = j
    · subst e
      have hgap : ∀ x, i + 1 ≤ x → x < i + Gr → x % Gr ≠ g := fun x h1 h2 => mod_gap hm h1 h2
      have hm2 : (i + Gr) % Gr = g := by rw [Nat.add_mod_right]; exact hm
      by_cases e2 : i = lost
      · obtain ⟨res, r1, r2, r3, r4⟩ := ih (i + 1) (i + Gr) acc (by omega) (by omega) (by omega) (by omega) hm2 hgap (by omega) ha
        refine ⟨res, r1, r2, ?_, ?_⟩
        · refine Ev.step (fun k => ?_) r3
          rw [impl_plant_groupOf.l0, if_pos (by omega), if_pos (by omega), wrap64_id (x := (i : Int) + (Gr : Int)) (by omega) (by omega)]
          rfl
        · refine Ev.step (fun k => ?_) r4
          rw [spec_l04Group.l0, if_pos (by omega), if_neg (by omega), tmodN, hm, if_pos rfl, if_pos (by omega), wrap64_id (x := (i : Int) + 1) (by omega) (by omega)]
          rfl
      · obtain ⟨res, r1, r2, r3, r4⟩ := ih (i + 1) (i + Gr) (acc ++ [(i : Int)]) (by omega) (by omega) (by omega) (by omega) hm2 hgap (by rw [List.length_append, List.length_singleton]; omega) (by
          intro x hx
          rw [List.mem_append, List.mem_singleton] at hx
          rcases hx with hx | rfl
          · exact ha x hx
          · omega)
        refine ⟨res, r1, r2, ?_, ?_⟩
        · refine Ev.step (fun k => ?_) r3
          rw [impl_plant_groupOf.l0, if_pos (by omega), if_neg (by omega), if_pos (by omega), wrap64_id (x := (i : Int) + (Gr : Int)) (by omega) (by omega)]
          rfl
        · refine Ev.step (fun k => ?_) r4
          rw [spec_l04Group.l0, if_pos (by omega), if_neg (by omega), tmodN, hm, if_pos rfl, if_neg (by omega), if_pos (by omega), wrap64_id (x := (i : Int) + 1) (by omega) (by omega)]
          rfl
    · have hne := hx i (Nat.le_refl _) (by omega)
      obtain ⟨res, r1, r2, r3, r4⟩ := ih (i + 1) j acc (by omega) (by omega) (by omega) (by omega) hm (fun x h1 h2 => hx x (by omega) h2) (by omega) ha
      refine ⟨res, r1, r2, r3, ?_⟩
      refine Ev.step (fun k => ?_) r4
      rw [spec_l04Group.l0, if_pos (by omega), if_neg (by omega), tmodN, if_neg (fun q => hne (by omega)), wrap64_id (x := (i : Int) + 1) (by omega) (by omega)]
      rfl
theorem group_start : ∃ res : List Int, res.length ≤ 64 ∧ (∀ x ∈ res, 0 ≤ x ∧ x < ((K + M + Gr : Nat) : Int)) ∧ Ev (fun k => impl_plant_groupOf.j1 k (lost : Int) (K : Int) (Gr : Int) ((K + M : Nat) : Int) (g : Int)) res ∧
      Ev (fun k => spec_l04Group.j1 k (lost : Int) [] (g : Int) (K : Int) (M : Int) (Gr : Int)) res := by
  obtain ⟨res, r1, r2, r3, r4⟩ := group_loop K M Gr lost g hK hM hG hG1 hg hlost K 0 g [] (by omega) (by omega) (by omega) (by omega) (Nat.mod_eq_of_lt hg) (fun x _ h => by rw [Nat.mod_eq_of_lt (by omega)]; omega) (by simp) (by simp)
  exact ⟨res, r1, r2, Ev.step (fun k => by rw [impl_plant_groupOf.j1]) r3, Ev.step (fun k => by rw [spec_l04Group.j1]; rfl) r4⟩
end
theorem group_both (K M Gr lost : Nat) (h0 : codeFaultOf (K : Int) (M : Int) (Gr : Int) = 0) (p : Int) (hpK : pK p = K) (hpM : pM p = M) (hpG : pG p = Gr) (hl : lost < K + M + Gr) :
    ∃ res : List Int, res.length ≤ 64 ∧ (∀ x ∈ res, 0 ≤ x ∧ x < ((K + M + Gr : Nat) : Int)) ∧ Ev (fun k => impl_plant_groupOf.f k p (lost : Int)) res ∧ Ev (fun k => spec_l04Group.f k (K : Int) (M : Int) (Gr : Int) (lost : Int)) res := by
  have hb := codeFault_zero h0
  clear h0
  have ei : ∀ k, impl_plant_groupOf.f k p (lost : Int) = (if (Gr : Int) = 0 then (impl_plant_groupOf.j0 k (lost : Int) (K : Int) (Gr : Int) ((K + M : Nat) : Int) true) else (if (lost : Int) ≥ (K : Int) then (impl_plant_groupOf.j0 k (lost : Int) (K : Int) (Gr : Int) ((K + M : Nat) : Int) (decide ((lost : Int) < ((K + M : Nat) : Int)))) else (impl_plant_groupOf.j0 k (lost : Int) (K : Int) (Gr : Int) ((K + M : Nat) : Int) false))) := fun k => by
    rw [impl_plant_groupOf.f]
    show (if ((pG p : Nat) : Int) = 0 then _ else _) = _
    rw [hpG, hpK, hpM, wrap64_id (x := (K : Int) + (M : Int)) (by omega) (by omega)]
    rfl
  have es : ∀ k, spec_l04Group.f k (K : Int) (M : Int) (Gr : Int) (lost : Int) = (if (Gr : Int) = 0 then (spec_l04Group.j0 k (lost : Int) [] true (K : Int) (M : Int) (Gr : Int)) else (if (lost : Int) ≥ (K : Int) then (spec_l04Group.j0 k (lost : Int) [] (decide ((lost : Int) < ((K + M : Nat) : Int))) (K : Int) (M : Int) (Gr : Int)) else (spec_l04Group.j0 k (lost : Int) [] false (K : Int) (M : Int) (Gr : Int)))) := fun k => by
    rw [spec_l04Group.f, Option.bind_some, wrap64_id (x := (K : Int) + (M : Int)) (by omega) (by omega)]
    rfl
  by_cases hG : Gr = 0
  · refine ⟨[], by simp, by simp, Ev.congr ei (Ev.pos (by omega) (Ev.step (fun k => by rw [impl_plant_groupOf.j0, if_pos rfl]) (Ev.now _))), Ev.congr es (Ev.pos (by omega) (Ev.step (fun k => by rw [spec_l04Group.j0, if_pos rfl]) (Ev.now _)))⟩
  · by_cases hc : lost < K
    · obtain ⟨res, r1, r2, r3, r4⟩ := group_start K M Gr lost (lost % Gr) (by omega) (by omega) (by omega) (by omega) (Nat.mod_lt _ (by omega)) (by omega)
      refine ⟨res, r1, r2, Ev.congr ei (Ev.neg (by omega) (Ev.neg (by omega) (Ev.step (fun k => ?_) r3))), Ev.congr es (Ev.neg (by omega) (Ev.neg (by omega) (Ev.step (fun k => ?_) r4)))⟩
      · rw [impl_plant_groupOf.j0, if_neg (by decide), if_neg (by omega), if_neg (by omega), tmodN]
      · rw [spec_l04Group.j0, if_neg (by decide), if_neg (by omega), if_neg (by omega), tmodN]
    · by_cases hc2 : lost < K + M
      · refine ⟨[], by simp, by simp, Ev.congr ei (Ev.neg (by omega) (Ev.pos (by omega) (Ev.step (fun k => ?_) (Ev.now _)))), Ev.congr es (Ev.neg (by omega) (Ev.pos (by omega) (Ev.step (fun k => ?_) (Ev.now _))))⟩
        · rw [impl_plant_groupOf.j0, if_pos (by rw [decide_eq_true_eq]; omega)]
        · rw [spec_l04Group.j0, if_pos (by rw [decide_eq_true_eq]; omega)]
      · obtain ⟨res, r1, r2, r3, r4⟩ := group_start K M Gr lost (lost - K - M) (by omega) (by omega) (by omega) (by omega) (by omega) (by omega)
        refine ⟨res, r1, r2, Ev.congr ei (Ev.neg (by omega) (Ev.pos (by omega) (Ev.step (fun k => ?_) r3))), Ev.congr es (Ev.neg (by omega) (Ev.pos (by omega) (Ev.step (fun k => ?_) r4)))⟩
        · rw [impl_plant_groupOf.j0, if_neg (by rw [decide_eq_true_eq]; omega), if_neg (by omega), if_pos (by omega), wrap64_id (by omega) (by omega)]
          congr 1
          omega
        · rw [spec_l04Group.j0, if_neg (by rw [decide_eq_true_eq]; omega), if_neg (by omega), if_pos (by omega), wrap64_id (x := (lost : Int) - (K : Int)) (by omega) (by omega), wrap64_id (by omega) (by omega)]
          congr 1
          omega
theorem rd_in {l : List Int} {n : Int} (h : ∀ x ∈ l, 0 ≤ x ∧ x < n) {i : Nat} (hi : i < l.length) : 0 ≤ rd l (i : Int) ∧ rd l (i : Int) < n := by
  rw [rd_at l i hi]
  exact h _ (List.getElem_mem hi)
theorem all_loop (p : Int) (hv : List Bool) (lost : Int) (gr : List Int) (K M Gr : Int) (hgl : gr.length ≤ 64) (hg : ∀ x ∈ gr, 0 ≤ x ∧ x < (hv.length : Int)) : ∀ (d i : Nat) (b : Bool), gr.length - i = d → i ≤ gr.length →
    ∃ b' : Bool, (∀ r, Ev (fun k => spec_RepairPlan.l0 k hv lost gr b' (gr.length : Int) K M Gr) r → Ev (fun k => spec_RepairPlan.l0 k hv lost gr b (i : Int) K M Gr) r) ∧
      (∀ r, Ev (fun k => impl_plant_planOf.l0 k p hv lost gr b' gr (gr.length : Int) (gr.length : Int)) r → Ev (fun k => impl_plant_planOf.l0 k p hv lost gr b gr (gr.length : Int) (i : Int)) r) := by
  intro d
  induction d with
  | zero =>
    intro i b hd hi
    have e : i = gr.length := by omega
    subst e
    exact ⟨b, fun _ h => h, fun _ h => h⟩
  | succ d ih =>
    intro i b hd hi
    have hlt : i < gr.length := by omega
    have hr := rd_in hg hlt
    cases b with
    | true =>
      obtain ⟨b', h1, h2⟩ := ih (i + 1) (rdOf false hv (rd gr (i : Int))) (by omega) (by omega)
      refine ⟨b', fun r h => Ev.step (fun k => ?_) (h1 r h), fun r h => Ev.step (fun k => ?_) (h2 r h)⟩
      · rw [spec_RepairPlan.l0, if_pos (by omega), if_pos rfl, if_pos (by omega), if_pos hr.1, if_pos hr.2, wrapS i (by omega)]
      · rw [impl_plant_planOf.l0, if_pos (by omega), if_pos (by omega), if_pos (by omega), if_pos rfl, if_pos hr.1, if_pos hr.2, wrapS i (by omega)]
    | false =>
      obtain ⟨b', h1, h2⟩ := ih (i + 1) false (by omega) (by omega)
      refine ⟨b', fun r h => Ev.step (fun k => ?_) (h1 r h), fun r h => Ev.step (fun k => ?_) (h2 r h)⟩
      · rw [spec_RepairPlan.l0, if_pos (by omega), if_neg (by decide), wrapS i (by omega)]
      · rw [impl_plant_planOf.l0, if_pos (by omega), if_pos (by omega), if_pos (by omega), if_neg (by decide), wrapS i (by omega)]
theorem take_rd (l : List Int) {i : Nat} (h : i < l.length) : l.take i ++ [rd l (i : Int)] = l.take (i + 1) := by
  rw [rd_at l i h, List.take_add_one, List.getElem?_eq_getElem h]; rfl
theorem copy_loop (l : List Int) (hl : l.length ≤ 64) : ∀ (d i : Nat), l.length - i = d → i ≤ l.length → Ev (fun k => impl_RepairPlan.l0 k l (l.length : Int) (i : Int) 0 (l.take i)) ((0 : Int), l) := by
  intro d
  induction d with
  | zero =>
    intro i hd hi
    have e : i = l.length := by omega
    subst e
    refine Ev.step (fun k => by rw [impl_RepairPlan.l0, if_neg (by omega)]) (Ev.give ?_)
    rw [List.take_length]
  | succ d ih =>
    intro i hd hi
    have hlt : i < l.length := by omega
    refine Ev.step (fun k => ?_) (ih (i + 1) (by omega) (by omega))
    rw [impl_RepairPlan.l0, if_pos (by omega), if_pos (by omega), if_pos (by omega), if_pos (by rw [List.length_take]; omega), take_rd l hlt, wrapS i (by omega)]
theorem copy_all (l : List Int) (hl : l.length ≤ 64) : Ev (fun k => impl_RepairPlan.l0 k l (l.length : Int) 0 0 ([] : List Int)) ((0 : Int), l) := copy_loop l hl l.length 0 (by omega) (by omega)
theorem plan_in (K M Gr lost : Nat) (h0 : codeFaultOf (K : Int) (M : Int) (Gr : Int) = 0) (hv : List Bool) (hn : hv.length = K + M + Gr) (hl : lost < K + M + Gr) :
    ∃ (c : Int) (res : List Int), res.length ≤ 64 ∧ Ev (fun k => spec_RepairPlan.j0 k hv (lost : Int) false (K : Int) (M : Int) (Gr : Int)) (c, res) ∧ Ev (fun k => impl_RepairPlan.j0 k hv (lost : Int) false (K : Int) (M : Int) (Gr : Int)) (c, res) := by
  have hb := codeFault_zero h0
  obtain ⟨pn, pk, pm, pg⟩ := plant_of h0
  generalize plantNo (K : Int) (M : Int) (Gr : Int) = p at pn pk pm pg
  rw [Int.toNat_natCast] at pk pm pg
  obtain ⟨gr, g1, g2, g3, g4⟩ := group_both K M Gr lost h0 p pk pm pg hl
  obtain ⟨b', a1, a2⟩ := all_loop p hv (lost : Int) gr (K : Int) (M : Int) (Gr : Int) g1 (fun x hx => by rw [hn]; exact g2 x hx) gr.length 0 (decide ((gr.length : Int) > 0)) (by omega) (by omega)
  have hs : ∀ r, Ev (fun k => spec_RepairPlan.l0 k hv (lost : Int) gr b' (gr.length : Int) (K : Int) (M : Int) (Gr : Int)) r → Ev (fun k => spec_RepairPlan.j0 k hv (lost : Int) false (K : Int) (M : Int) (Gr : Int)) r := fun r h =>
    Ev.step (fun k => by rw [spec_RepairPlan.j0, if_neg (by decide)]) (Ev.bind g4 (a1 r h))
  have hi : ∀ (r : List Int × Bool × Bool) (s : Int × List Int), Ev (fun k => impl_plant_planOf.l0 k p hv (lost : Int) gr b' gr (gr.length : Int) (gr.length : Int)) r → Ev (fun k => (if r.2.2 = true then (impl_RepairPlan.l0 k r.1 (r.1.length : Int) 0 0 ([] : List Int)) else (some (8, ([] : List Int))))) s → Ev (fun k => impl_RepairPlan.j0 k hv (lost : Int) false (K : Int) (M : Int) (Gr : Int)) s := fun r s h h2 => by
    refine Ev.step (fun k => by rw [impl_RepairPlan.j0, if_neg (by decide), pn, Option.bind_some]) ?_
    refine Ev.bind (a := r) ?_ h2
    exact Ev.congr (fun k => by rw [impl_plant_planOf.f]) (Ev.bind g3 (a2 r h))
  cases b' with
  | true =>
    refine ⟨0, gr, g1, hs _ ?_, hi (gr, true, true) _ ?_ ?_⟩
    · exact Ev.step (fun k => by rw [spec_RepairPlan.l0, if_neg (by omega), if_pos rfl]) (Ev.now _)
    · exact Ev.step (fun k => by rw [impl_plant_planOf.l0, if_neg (by omega), if_pos rfl]) (Ev.now _)
    · exact Ev.pos rfl (copy_all gr g1)
  | false =>
    obtain ⟨res, t1, t2, t3⟩ := take_both K M Gr h0 p pk pm pg (hv.set lost false) (by rw [List.length_set]; exact hn)
    have hsp : ∀ s, Ev (fun k => if ((if res.length < K then [] else res : List Int).length : Int) = 0 then some ((8 : Int), ([] : List Int)) else some (0, (if res.length < K then [] else res : List Int))) s → Ev (fun k => spec_RepairPlan.l0 k hv (lost : Int) gr false (gr.length : Int) (K : Int) (M : Int) (Gr : Int)) s := fun s h => by
      refine Ev.step (fun k => by rw [spec_RepairPlan.l0, if_neg (by omega), if_neg (by decide), Option.bind_some, if_pos (show ([] : List Bool).length + hv.length < 140737488355328 by rw [List.length_nil]; omega), Option.bind_some, List.nil_append, if_pos (by omega), if_pos (by omega), Int.toNat_natCast]) ?_
      exact Ev.bind t3 h
    have him : Ev (fun k => impl_plant_planOf.l0 k p hv (lost : Int) gr false gr (gr.length : Int) (gr.length : Int)) (res, false, ((res.length : Int) == (K : Int))) := by
      refine Ev.step (fun k => by rw [impl_plant_planOf.l0, if_neg (by omega), if_neg (by decide), Option.bind_some, if_pos (show ([] : List Bool).length + hv.length < 140737488355328 by rw [List.length_nil]; omega), Option.bind_some, List.nil_append, if_pos (by omega), if_pos (by omega), Int.toNat_natCast]) ?_
      refine Ev.bind t2 (Ev.bindS (a := ((K : Nat) : Int)) ?_ (Ev.now _))
      unfold plantK.f
      rw [pk]
    by_cases e : res.length < K
    · rw [if_pos e] at hsp
      refine ⟨8, [], by simp, hs _ (hsp _ (Ev.pos rfl (Ev.now _))), hi _ _ him ?_⟩
      have : (((res.length : Nat) : Int) == (K : Int)) = false := by rw [beq_eq_false_iff_ne]; omega
      exact Ev.neg (fun q => absurd (this.symm.trans q) (by decide)) (Ev.now _)
    · rw [if_neg e] at hsp
      refine ⟨0, res, by omega, hs _ (hsp _ (Ev.neg (by omega) (Ev.now _))), hi _ _ him ?_⟩
      have : (((res.length : Nat) : Int) == (K : Int)) = true := by rw [beq_iff_eq]; omega
      exact Ev.pos this (copy_all res (by omega))
theorem plan_both (K M Gr lost : Int) (hv : List Bool) (hn : hv.length ≤ 1048576) :
    ∃ (c : Int) (res : List Int), res.length ≤ 64 ∧ Ev (fun k => spec_RepairPlan.f k K M Gr hv lost) (c, res) ∧ Ev (fun k => impl_RepairPlan.f k K M Gr hv lost) (c, res) := by
  have hsT : Ev (fun k => spec_RepairPlan.j0 k hv lost true K M Gr) ((1 : Int), ([] : List Int)) := Ev.step (fun k => by rw [spec_RepairPlan.j0, if_pos rfl]) (Ev.now _)
  have hiT : Ev (fun k => impl_RepairPlan.j0 k hv lost true K M Gr) ((1 : Int), ([] : List Int)) := Ev.step (fun k => by rw [impl_RepairPlan.j0, if_pos rfl]) (Ev.now _)
  by_cases h0 : codeFaultOf K M Gr = 0
  · have hb := codeFault_zero h0
    have hsz : spec_CodeSize.f K M Gr = some (K + M + Gr) := by
      unfold spec_CodeSize.f
      rw [spec_codeFault, Option.bind_some, if_pos h0, wrap64_id (x := K + M) (by omega) (by omega), wrap64_id (by omega) (by omega)]
    have hsz2 : impl_CodeSize.f K M Gr = some (K + M + Gr) := hsz
    have es : ∀ k, spec_RepairPlan.f k K M Gr hv lost = (if (hv.length : Int) = K + M + Gr then (if lost < 0 then (spec_RepairPlan.j0 k hv lost true K M Gr) else (spec_RepairPlan.j0 k hv lost (decide (lost ≥ K + M + Gr)) K M Gr)) else (spec_RepairPlan.j0 k hv lost true K M Gr)) := fun k => by
      rw [spec_RepairPlan.f, spec_codeFault, Option.bind_some, if_pos h0, hsz, Option.bind_some, Option.bind_some]
    have ei : ∀ k, impl_RepairPlan.f k K M Gr hv lost = (if (hv.length : Int) = K + M + Gr then (if lost < 0 then (impl_RepairPlan.j0 k hv lost true K M Gr) else (impl_RepairPlan.j0 k hv lost (decide (lost ≥ K + M + Gr)) K M Gr)) else (impl_RepairPlan.j0 k hv lost true K M Gr)) := fun k => by
      rw [impl_RepairPlan.f, impl_codeFault, Option.bind_some, if_pos h0, hsz2, Option.bind_some, Option.bind_some]
    by_cases h1 : (hv.length : Int) = K + M + Gr
    · by_cases h2 : lost < 0
      · exact ⟨1, [], by simp, Ev.congr es (Ev.pos h1 (Ev.pos h2 hsT)), Ev.congr ei (Ev.pos h1 (Ev.pos h2 hiT))⟩
      · by_cases h3 : lost ≥ K + M + Gr
        · rw [decide_eq_true h3] at es ei
          exact ⟨1, [], by simp, Ev.congr es (Ev.pos h1 (Ev.neg h2 hsT)), Ev.congr ei (Ev.pos h1 (Ev.neg h2 hiT))⟩
        · rw [decide_eq_false h3] at es ei
          obtain ⟨K', rfl⟩ := Int.eq_ofNat_of_zero_le (show 0 ≤ K by omega)
          obtain ⟨M', rfl⟩ := Int.eq_ofNat_of_zero_le (show 0 ≤ M by omega)
          obtain ⟨G', rfl⟩ := Int.eq_ofNat_of_zero_le (show 0 ≤ Gr by omega)
          obtain ⟨l', rfl⟩ := Int.eq_ofNat_of_zero_le (show 0 ≤ lost by omega)
          obtain ⟨c, res, r1, r2, r3⟩ := plan_in K' M' G' l' h0 hv (by omega) (by omega)
          exact ⟨c, res, r1, Ev.congr es (Ev.pos h1 (Ev.neg h2 r2)), Ev.congr ei (Ev.pos h1 (Ev.neg h2 r3))⟩
    · exact ⟨1, [], by simp, Ev.congr es (Ev.neg h1 hsT), Ev.congr ei (Ev.neg h1 hiT)⟩
  · refine ⟨1, [], by simp, Ev.congr (fun k => ?_) hsT, Ev.congr (fun k => ?_) hiT⟩
    · rw [spec_RepairPlan.f, spec_codeFault, Option.bind_some, if_neg h0]
    · rw [impl_RepairPlan.f, impl_codeFault, Option.bind_some, if_neg h0]

theorem toBool_l0 (l : List Bool) (hl : l.length ≤ 1048576) : ∀ (d i : Nat), l.length - i = d → i ≤ l.length → Ev (fun k => laws_toBoolS.l0 k l (l.take i ++ List.replicate (l.length - i) false) (i : Int)) l := by
  intro d
  induction d with
  | zero =>
    intro i hd hi
    have e : i = l.length := by omega
    subst e
    refine Ev.step (fun k => by rw [laws_toBoolS.l0, if_neg (by omega)]) (Ev.give ?_)
    rw [List.take_length, Nat.sub_self, List.replicate_zero, List.append_nil]
  | succ d ih =>
    intro i hd hi
    have hlt : i < l.length := by omega
    have hg : l[i]? = some (rdOf false l (i : Int)) := by rw [rdb_at l i hlt, List.getElem?_eq_getElem hlt]
    have hlen : (l.take i ++ List.replicate (l.length - i) false).length = l.length := by rw [List.length_append, List.length_take, List.length_replicate]; omega
    refine Ev.step (fun k => ?_) (ih (i + 1) (by omega) (by omega))
    rw [laws_toBoolS.l0, if_pos (by omega), if_pos (by omega), if_pos (by omega), Int.toNat_natCast, set_prefix_id false l i hlt _ hg, wrap64_id (x := (i : Int) + 1) (by omega) (by omega)]
    rfl
theorem toBool (l : List Bool) (hl : l.length ≤ 1048576) : Ev (fun k => laws_toBoolS.f k l) l := by
  refine Ev.congr (fun k => by rw [laws_toBoolS.f, if_pos (by omega), if_pos (by omega), Int.toNat_natCast]) ?_
  have := toBool_l0 l hl l.length 0 (by omega) (by omega)
  exact this
theorem eqBool_l0 (l : List Bool) (hl : l.length ≤ 1048576) : ∀ (d i : Nat), l.length - i = d → i ≤ l.length → Ev (fun k => laws_eqBoolS.l0 k l l (i : Int)) true := by
  intro d
  induction d with
  | zero =>
    intro i hd hi
    exact Ev.step (fun k => by rw [laws_eqBoolS.l0, if_neg (by omega)]) (Ev.now _)
  | succ d ih =>
    intro i hd hi
    have hlt : i < l.length := by omega
    refine Ev.step (fun k => ?_) (ih (i + 1) (by omega) (by omega))
    rw [laws_eqBoolS.l0, if_pos (by omega), if_pos (by omega), if_pos (by omega), if_neg (by simp), wrap64_id (x := (i : Int) + 1) (by omega) (by omega)]
    rfl
theorem eqBool (l : List Bool) (hl : l.length ≤ 1048576) : Ev (fun k => laws_eqBoolS.f k l l) true := by
  refine Ev.congr (fun k => by rw [laws_eqBoolS.f, if_pos rfl]) ?_
  exact eqBool_l0 l hl l.length 0 (by omega) (by omega)
theorem markBool_l0 (n : Nat) (hn : n ≤ 1048576) : ∀ (d i : Nat) (l : List Bool), l.length = n → n - i = d → i ≤ n → ∃ r, Ev (fun k => laws_markBoolS.l0 k l ((1 + i : Nat) : Int) (i : Int)) (((1 + n : Nat) : Int), r) := by
  intro d
  induction d with
  | zero =>
    intro i l hl hd hi
    have e : i = n := by omega
    subst e
    exact ⟨l, Ev.step (fun k => by rw [laws_markBoolS.l0, if_neg (by omega)]) (Ev.now _)⟩
  | succ d ih =>
    intro i l hl hd hi
    obtain ⟨r, h⟩ := ih (i + 1) (l.set ((i : Int)).toNat ((Int.tmod ((1 + i : Nat) : Int) 3) == 0)) (by rw [List.length_set]; exact hl) (by omega) (by omega)
    refine ⟨r, Ev.step (fun k => ?_) h⟩
    rw [laws_markBoolS.l0, if_pos (by omega), if_pos (by omega), wrap64_id (x := (i : Int) + 1) (by omega) (by omega), wrap64_id (x := ((1 + i : Nat) : Int) + 1) (by omega) (by omega)]
    rfl
theorem markBool (l : List Bool) (hl : l.length ≤ 1048576) : ∃ r, Ev (fun k => laws_markBoolS.f k l 1) (((1 + l.length : Nat) : Int), r) := by
  obtain ⟨r, h⟩ := markBool_l0 l.length hl l.length 0 l rfl (by omega) (by omega)
  exact ⟨r, Ev.congr (fun k => by rw [laws_markBoolS.f]; rfl) h⟩
theorem FnExactRepairPlan : laws_FnExactRepairPlan.Wants := by
  intro K M Gr hv lost _ _ _ _ _
  refine Ev.rounds ?_
  by_cases hbig : (hv.length : Int) > 1048576
  · exact Ev.congr (fun k => by rw [laws_FnExactRepairPlan.f]) (Ev.pos hbig (Ev.now _))
  · refine Ev.congr (fun k => by rw [laws_FnExactRepairPlan.f]) (Ev.neg hbig ?_)
    have hl : hv.length ≤ 1048576 := by omega
    obtain ⟨c, res, r1, hs, hi⟩ := plan_both K M Gr lost hv hl
    have ht := toBool hv hl
    have hto : laws_toCode.f K M Gr = some (K, M, Gr) := rfl
    obtain ⟨mr, hm⟩ := markBool hv hl
    have heq : Ev (fun k => laws_eqPlan.f k c res c res) true := Ev.congr (fun k => by rw [laws_eqPlan.f, if_pos rfl]) (Ev.bind (eqInt64S res (by omega)) (Ev.pos rfl (Ev.now _)))
    have hmark : Ev (fun k => laws_markPlan.f k c res 1) (1 + (res.length : Int), markL 1 res.length) := by
      refine Ev.congr (fun k => by rw [laws_markPlan.f]) ?_
      exact Ev.bind (markInt64S res (by omega) 1 (by omega)) (Ev.now _)
    have hheld : Ev (fun k => laws_heldPlan.f k c (markL 1 res.length) 1) (1 + (res.length : Int)) := by
      refine Ev.congr (fun k => by rw [laws_heldPlan.f]) ?_
      exact Ev.bind (heldInt64S res.length (by omega) 1 (by omega)) (Ev.neg (by omega) (Ev.now _))
    refine Ev.bindS hto (Ev.bind ht (Ev.bind hs (Ev.bind ht (Ev.bindS hto (Ev.bind hi (Ev.bind heq (Ev.pos rfl (Ev.bind ht (Ev.bind (eqBool hv hl) (Ev.pos rfl (Ev.bind hm (Ev.neg (by omega) (Ev.bind heq ?_)))))))))))))
    refine Ev.step (fun k => by rw [laws_FnExactRepairPlan.j0, if_neg (by decide)]) ?_
    refine Ev.bind hmark (Ev.bind hheld (Ev.neg (by omega) (Ev.pos rfl ?_)))
    exact Ev.bindS hto (Ev.bind ht (Ev.bind hi (Ev.bind heq (Ev.pos rfl (Ev.bind hheld (Ev.neg (by omega) (Ev.pos rfl (Ev.now true))))))))

end Go.Proofs.Yteflpfkfmohenaa.Pure
