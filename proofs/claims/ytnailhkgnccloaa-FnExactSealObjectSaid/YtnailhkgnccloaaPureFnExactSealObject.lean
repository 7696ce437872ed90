/- The statement FnExactSealObject over numbers and lists alone: the program's SealObject and the reference's answer the same, field by field. No condition. -/
import Derived.Test.YtnailhkgnccloaaQFnExactSealObjectx3
import Derived.Laws.BitsAllLaws
import Derived.Laws.Bits64
set_option linter.all false
namespace Go.Proofs.Ytnailhkgnccloaa.Pure
open Go.RowKit Go.Proofs.Ytnailhkgnccloaa.QFnExactSealObject Go.Proofs.YtnailhkgnccloaaW.PrintWords Go.Proofs.YtnailhkgnccloaaW.PrintLast Go.Proofs.YtnailhkgnccloaaW.PrintMore

/-! Small lemmas on wraps, rounds and lists. -/
theorem wrap64_id {x : Int} (h0 : -9223372036854775808 ≤ x) (h1 : x < 9223372036854775808) : wrap64 x = x := by unfold wrap64; omega
theorem u64_id {x : Int} (h0 : 0 ≤ x) (h1 : x < 18446744073709551616) : IntKind.u64.wrap x = x := by rw [IntKind.wrap_u64]; omega
theorem Ev.pos {α : Type} {c : Prop} [Decidable c] {f g : Nat → Option α} {r : α} (h : c) (e : Ev f r) : Ev (fun k => if c then f k else g k) r := by simpa [h] using e
theorem Ev.neg {α : Type} {c : Prop} [Decidable c] {f g : Nat → Option α} {r : α} (h : ¬ c) (e : Ev g r) : Ev (fun k => if c then f k else g k) r := by simpa [h] using e
theorem Ev.bindS {α β : Type} {g : Option α} {f : Nat → α → Option β} {a : α} {r : β} (h : g = some a) (e : Ev (fun k => f k a) r) : Ev (fun k => g.bind (f k)) r := by subst h; simpa using e
theorem Ev.give {α : Type} {r s : α} (h : s = r) : Ev (fun _ => some s) r := by subst h; exact Ev.now _
theorem bt_drop (s : ByteArray) (i : Nat) (h : i < s.size) : ∃ c : UInt8, s.data.toList.drop i = c :: s.data.toList.drop (i + 1) ∧ bt s (i : Int) = (c.toNat : Int) := by
  have hl : i < s.data.toList.length := by simpa using h
  refine ⟨s.data.toList[i], List.drop_eq_getElem_cons hl, ?_⟩
  unfold bt
  rw [dif_pos (by simpa using h)]
  simp [ByteArray.getElem_eq_getElem_data]
theorem drop_end (s : ByteArray) (i : Nat) (h : s.size ≤ i) : s.data.toList.drop i = [] := List.drop_eq_nil_of_le (by simpa using h)
theorem size_strOfNums (l : List Int) : (strOfNums l).size = l.length := by
  show (strOfNums l).data.size = l.length
  simp [strOfNums]
theorem i64_range {n : Int} (h : (Lit.int .i64 n).wf = true) : -9223372036854775808 ≤ n ∧ n < 9223372036854775808 := by
  simp only [Lit.wf, IntKind.min, IntKind.max, IntKind.signed, IntKind.bits, Bool.and_eq_true, decide_eq_true_eq, if_true] at h; omega
theorem byte_eq_int (c d : UInt8) : ((c.toNat : Int) = (d.toNat : Int)) ↔ c = d := by
  constructor
  · intro h; exact UInt8.toNat_inj.1 (by omega)
  · rintro rfl; rfl
theorem byte_eq_lit (c : UInt8) (n : Nat) (hn : n < 256) : ((c.toNat : Int) = (n : Int)) ↔ c = UInt8.ofNat n := by
  rw [← byte_eq_int]
  have : (UInt8.ofNat n).toNat = n := by simp [UInt8.toNat_ofNat']; omega
  rw [this]
theorem bt_get (s : ByteArray) (i : Nat) (h : i < s.size) : ∃ c : UInt8, s.data.toList[i]? = some c ∧ bt s (i : Int) = (c.toNat : Int) := by
  obtain ⟨c, e, hb⟩ := bt_drop s i h
  refine ⟨c, ?_, hb⟩
  have : (s.data.toList.drop i)[0]? = some c := by rw [e]; rfl
  simpa using this

/-! Go's bits at numbers from 0 on. -/
theorem bits_xor_i64 (a b : Nat) (ha : a < 9223372036854775808) (hb : b < 9223372036854775808) : Go.bits .xor .i64 (a : Int) (b : Int) = ((a ^^^ b : Nat) : Int) := by
  have hx : a ^^^ b < 2 ^ 63 := Nat.xor_lt_two_pow (by simpa using ha) (by simpa using hb)
  show IntKind.i64.wrap (((BitVec.ofInt 64 (a : Int)) ^^^ (BitVec.ofInt 64 (b : Int))).toNat : Int) = _
  rw [BitVec.toNat_xor, BitVec.ofInt_natCast, BitVec.ofInt_natCast, BitVec.toNat_ofNat, BitVec.toNat_ofNat, Nat.mod_eq_of_lt (by omega : a < 2 ^ 64), Nat.mod_eq_of_lt (by omega : b < 2 ^ 64), IntKind.wrap_i64]
  omega
theorem bits_and_i64 (a b : Nat) (ha : a < 9223372036854775808) (hb : b < 9223372036854775808) : Go.bits .and .i64 (a : Int) (b : Int) = ((a &&& b : Nat) : Int) := by
  have hx : a &&& b < 2 ^ 63 := Nat.and_lt_two_pow _ (by simpa using hb)
  show IntKind.i64.wrap (((BitVec.ofInt 64 (a : Int)) &&& (BitVec.ofInt 64 (b : Int))).toNat : Int) = _
  rw [BitVec.toNat_and, BitVec.ofInt_natCast, BitVec.ofInt_natCast, BitVec.toNat_ofNat, BitVec.toNat_ofNat, Nat.mod_eq_of_lt (by omega : a < 2 ^ 64), Nat.mod_eq_of_lt (by omega : b < 2 ^ 64), IntKind.wrap_i64]
  omega
theorem bits_xor_u8 (a b : Nat) (ha : a < 256) (hb : b < 256) : Go.bits .xor .u8 (a : Int) (b : Int) = ((a ^^^ b : Nat) : Int) := by
  have hx : a ^^^ b < 2 ^ 8 := Nat.xor_lt_two_pow (by simpa using ha) (by simpa using hb)
  show IntKind.u8.wrap (((BitVec.ofInt 8 (a : Int)) ^^^ (BitVec.ofInt 8 (b : Int))).toNat : Int) = _
  rw [BitVec.toNat_xor, BitVec.ofInt_natCast, BitVec.ofInt_natCast, BitVec.toNat_ofNat, BitVec.toNat_ofNat, Nat.mod_eq_of_lt (by omega : a < 2 ^ 8), Nat.mod_eq_of_lt (by omega : b < 2 ^ 8), IntKind.wrap_u8]
  omega
theorem bits_and_u8 (a b : Nat) (ha : a < 256) (hb : b < 256) : Go.bits .and .u8 (a : Int) (b : Int) = ((a &&& b : Nat) : Int) := by
  have hx : a &&& b < 2 ^ 8 := Nat.and_lt_two_pow _ (by simpa using hb)
  show IntKind.u8.wrap (((BitVec.ofInt 8 (a : Int)) &&& (BitVec.ofInt 8 (b : Int))).toNat : Int) = _
  rw [BitVec.toNat_and, BitVec.ofInt_natCast, BitVec.ofInt_natCast, BitVec.toNat_ofNat, BitVec.toNat_ofNat, Nat.mod_eq_of_lt (by omega : a < 2 ^ 8), Nat.mod_eq_of_lt (by omega : b < 2 ^ 8), IntKind.wrap_u8]
  omega
theorem bits_xor_u16 (a b : Nat) (ha : a < 65536) (hb : b < 65536) : Go.bits .xor .u16 (a : Int) (b : Int) = ((a ^^^ b : Nat) : Int) := by
  have hx : a ^^^ b < 2 ^ 16 := Nat.xor_lt_two_pow (by simpa using ha) (by simpa using hb)
  show IntKind.u16.wrap (((BitVec.ofInt 16 (a : Int)) ^^^ (BitVec.ofInt 16 (b : Int))).toNat : Int) = _
  rw [BitVec.toNat_xor, BitVec.ofInt_natCast, BitVec.ofInt_natCast, BitVec.toNat_ofNat, BitVec.toNat_ofNat, Nat.mod_eq_of_lt (by omega : a < 2 ^ 16), Nat.mod_eq_of_lt (by omega : b < 2 ^ 16), IntKind.wrap_u16]
  omega
theorem bits_and_u16 (a b : Nat) (ha : a < 65536) (hb : b < 65536) : Go.bits .and .u16 (a : Int) (b : Int) = ((a &&& b : Nat) : Int) := by
  have hx : a &&& b < 2 ^ 16 := Nat.and_lt_two_pow _ (by simpa using hb)
  show IntKind.u16.wrap (((BitVec.ofInt 16 (a : Int)) &&& (BitVec.ofInt 16 (b : Int))).toNat : Int) = _
  rw [BitVec.toNat_and, BitVec.ofInt_natCast, BitVec.ofInt_natCast, BitVec.toNat_ofNat, BitVec.toNat_ofNat, Nat.mod_eq_of_lt (by omega : a < 2 ^ 16), Nat.mod_eq_of_lt (by omega : b < 2 ^ 16), IntKind.wrap_u16]
  omega
theorem and_top (w a : Nat) (h : a < 2 ^ (w + 1)) : a &&& 2 ^ w = 0 ↔ a < 2 ^ w := by
  have hp : 0 < 2 ^ w := Nat.two_pow_pos w
  have ht : a.testBit w = decide (2 ^ w ≤ a) := by
    rw [Nat.testBit_eq_decide_div_mod_eq]
    have h2 : a / 2 ^ w < 2 := Nat.div_lt_of_lt_mul (by rw [Nat.pow_succ] at h; exact h)
    by_cases hc : 2 ^ w ≤ a
    · have : 1 ≤ a / 2 ^ w := (Nat.le_div_iff_mul_le hp).2 (by omega)
      have e : a / 2 ^ w = 1 := by omega
      simp [e, hc]
    · have e : a / 2 ^ w = 0 := Nat.div_eq_of_lt (by omega)
      simp [e, hc]
  constructor
  · intro h0
    have hb : (a &&& 2 ^ w).testBit w = false := by rw [h0]; simp
    rw [Nat.testBit_and, Nat.testBit_two_pow_self, Bool.and_true, ht] at hb
    simpa using hb
  · intro hl
    apply Nat.eq_of_testBit_eq
    intro i
    rw [Nat.testBit_and, Nat.zero_testBit, Nat.testBit_two_pow]
    by_cases hi : w = i
    · subst hi
      rw [ht]; simp; omega
    · simp [hi]

/-! The bytes of a number, seven bits a byte. -/
def vb (n : Nat) : List Int := if _h : n < 128 then [(n : Int)] else ((128 + n % 128 : Nat) : Int) :: vb (n / 128)
  termination_by n
  decreasing_by omega
theorem vb_small {n : Nat} (h : n < 128) : vb n = [(n : Int)] := by rw [vb, dif_pos h]
theorem vb_big {n : Nat} (h : ¬ n < 128) : vb n = ((128 + n % 128 : Nat) : Int) :: vb (n / 128) := by rw [vb, dif_neg h]
theorem vb_len : ∀ (d n : Nat), n < 128 ^ (d + 1) → (vb n).length ≤ d + 1 := by
  intro d
  induction d with
  | zero => intro n h; rw [vb_small (by omega)]; simp
  | succ d ih =>
    intro n h
    by_cases hn : n < 128
    · rw [vb_small hn]; simp
    · rw [vb_big hn, List.length_cons]
      have := ih (n / 128) (by rw [Nat.pow_succ] at h; exact Nat.div_lt_of_lt_mul (by omega))
      omega
theorem vb_len64 {n : Nat} (h : n < 9223372036854775808) : (vb n).length ≤ 9 := vb_len 8 n (by simp only [Nat.reduceAdd, Nat.reducePow]; omega)
theorem or128 (x : Int) (h0 : 0 ≤ x) (h1 : x < 256) : Go.bits .or .u8 x 128 = 128 + x % 128 := by
  obtain ⟨n, rfl⟩ := Int.eq_ofNat_of_zero_le h0
  have hn : n < 256 := by omega
  have key : ∀ m : Fin 256, Go.bits .or .u8 (m.val : Int) 128 = 128 + (m.val : Int) % 128 := by decide +kernel
  exact key ⟨n, hn⟩

theorem spec_putNum_l0 : ∀ (d n : Nat) (xs : List Int), n < 128 ^ (d + 1) → n < 9223372036854775808 → xs.length + (d + 1) < 1000000 → Ev (fun k => spec_PutNum.l0 k (n : Int) xs) (strOfNums (xs ++ vb n)) := by
  intro d
  induction d with
  | zero =>
    intro n xs h h64 hl
    have hn : n < 128 := by omega
    refine Ev.step (fun k => by rw [spec_PutNum.l0, if_neg (by omega), if_pos (by omega)]) (Ev.give ?_)
    rw [vb_small hn]
    congr 3; omega
  | succ d ih =>
    intro n xs h h64 hl
    by_cases hn : n < 128
    · refine Ev.step (fun k => by rw [spec_PutNum.l0, if_neg (by omega), if_pos (by omega)]) (Ev.give ?_)
      rw [vb_small hn]
      congr 3; omega
    · refine Ev.step (fun k => by rw [spec_PutNum.l0, if_pos (by omega), if_pos (by omega)]) ?_
      have h1 : wrap64 (Int.tdiv (n : Int) 128) = ((n / 128 : Nat) : Int) := by
        rw [Int.tdiv_eq_ediv_of_nonneg (by omega), wrap64_id (by omega) (by omega)]; rfl
      have h2 : wrap64 (128 + Int.tmod (n : Int) 128) % 256 = ((128 + n % 128 : Nat) : Int) := by
        rw [Int.tmod_eq_emod_of_nonneg (by omega), wrap64_id (by omega) (by omega)]; omega
      rw [h1, h2, vb_big hn]
      have := ih (n / 128) (xs ++ [((128 + n % 128 : Nat) : Int)]) (by rw [Nat.pow_succ] at h; exact Nat.div_lt_of_lt_mul (by omega)) (by omega) (by simp; omega)
      simpa using this
theorem impl_putNum_l0 : ∀ (d n : Nat) (xs : List Int), n < 128 ^ (d + 1) → n < 9223372036854775808 → xs.length + (d + 1) < 1000000 → Ev (fun k => impl_PutNum.l0 k xs (n : Int)) (strOfNums (xs ++ vb n)) := by
  intro d
  induction d with
  | zero =>
    intro n xs h h64 hl
    have hn : n < 128 := by omega
    refine Ev.step (fun k => by rw [impl_PutNum.l0, if_neg (by omega), if_pos (by omega)]) (Ev.give ?_)
    rw [vb_small hn]
    congr 3; omega
  | succ d ih =>
    intro n xs h h64 hl
    by_cases hn : n < 128
    · refine Ev.step (fun k => by rw [impl_PutNum.l0, if_neg (by omega), if_pos (by omega)]) (Ev.give ?_)
      rw [vb_small hn]
      congr 3; omega
    · refine Ev.step (fun k => by rw [impl_PutNum.l0, if_pos (by omega), if_pos (by omega)]) ?_
      have h1 : (n : Int) / 128 = ((n / 128 : Nat) : Int) := rfl
      have h2 : Go.bits .or .u8 ((n : Int) % 256) 128 = ((128 + n % 128 : Nat) : Int) := by
        rw [or128 _ (by omega) (by omega)]; omega
      rw [h1, h2, vb_big hn]
      have := ih (n / 128) (xs ++ [((128 + n % 128 : Nat) : Int)]) (by rw [Nat.pow_succ] at h; exact Nat.div_lt_of_lt_mul (by omega)) (by omega) (by simp; omega)
      simpa using this
/-- What PutNum writes. -/
def putNum (n : Int) : ByteArray := if n < 0 then ⟨#[]⟩ else strOfNums (vb n.toNat)
theorem spec_putNum (n : Int) (h : n < 9223372036854775808) : Ev (fun k => spec_PutNum.f k n) (putNum n) := by
  unfold putNum
  by_cases h0 : n < 0
  · rw [if_pos h0]; exact Ev.congr (fun k => by rw [spec_PutNum.f, if_pos h0]) (Ev.now _)
  · rw [if_neg h0]
    refine Ev.congr (fun k => by rw [spec_PutNum.f, if_neg h0]) ?_
    obtain ⟨m, rfl⟩ := Int.eq_ofNat_of_zero_le (by omega : 0 ≤ n)
    exact spec_putNum_l0 8 m [] (by simp; omega) (by omega) (by simp)
theorem impl_putNum (n : Int) (h : n < 9223372036854775808) : Ev (fun k => impl_PutNum.f k n) (putNum n) := by
  unfold putNum
  by_cases h0 : n < 0
  · rw [if_pos h0]; exact Ev.congr (fun k => by rw [impl_PutNum.f, if_pos h0]) (Ev.now _)
  · rw [if_neg h0]
    refine Ev.congr (fun k => by rw [impl_PutNum.f, if_neg h0]) ?_
    obtain ⟨m, rfl⟩ := Int.eq_ofNat_of_zero_le (by omega : 0 ≤ n)
    rw [u64_id (by omega) (by omega)]
    exact impl_putNum_l0 8 m [] (by simp; omega) (by omega) (by simp)
theorem putNum_size (n : Int) (h : n < 9223372036854775808) : (putNum n).size ≤ 9 := by
  unfold putNum
  split
  · decide
  · rw [size_strOfNums]; exact vb_len64 (by omega)

/-- What PutText writes. -/
def putText (s : ByteArray) : ByteArray := if (s.size : Int) > 100000 then ⟨#[]⟩ else putNum (s.size : Int) ++ s
theorem spec_putText (s : ByteArray) (h : s.size ≤ 140737488351232) : Ev (fun k => spec_PutText.f k s) (putText s) := by
  unfold putText
  by_cases h0 : (s.size : Int) > 100000
  · rw [if_pos h0]; exact Ev.congr (fun k => by rw [spec_PutText.f, if_pos h0]) (Ev.now _)
  · rw [if_neg h0]
    refine Ev.congr (fun k => by rw [spec_PutText.f, if_neg h0]) ?_
    have := putNum_size (s.size : Int) (by omega)
    exact Ev.bind (spec_putNum _ (by omega)) (Ev.pos (by omega) (Ev.now _))
theorem impl_putText (s : ByteArray) (h : s.size ≤ 140737488351232) : Ev (fun k => impl_PutText.f k s) (putText s) := by
  unfold putText
  by_cases h0 : (s.size : Int) > 100000
  · rw [if_pos h0]; exact Ev.congr (fun k => by rw [impl_PutText.f, if_pos h0]) (Ev.now _)
  · rw [if_neg h0]
    refine Ev.congr (fun k => by rw [impl_PutText.f, if_neg h0]) ?_
    have := putNum_size (s.size : Int) (by omega)
    exact Ev.bind (impl_putNum _ (by omega)) (Ev.pos (by omega) (Ev.now _))

def sumStep (x d : Nat) : Nat := (x * 65539 + d + 1) % 2147483647
def sumL (l : List UInt8) (x : Nat) : Nat := l.foldl (fun x c => sumStep x c.toNat) x
/-- What SumOf answers. -/
def sumOf (s : ByteArray) (seed : Int) : Int := if seed < 0 then 0 else if (s.size : Int) > 400000 then 0 else ((sumL s.data.toList (seed.toNat % 2147483647 + 1) : Nat) : Int)
theorem sumL_lt (l : List UInt8) : ∀ x, x ≤ 2147483647 → sumL l x ≤ 2147483647 := by
  induction l with
  | nil => intro x h; exact h
  | cons c l ih => intro x h; show sumL l (sumStep x c.toNat) ≤ _; exact ih _ (by unfold sumStep; omega)
theorem sumOf_range (s : ByteArray) (seed : Int) : 0 ≤ sumOf s seed ∧ sumOf s seed ≤ 2147483647 := by
  unfold sumOf
  split
  · omega
  · split
    · omega
    · have := sumL_lt s.data.toList (seed.toNat % 2147483647 + 1) (by omega); omega
theorem step_sum (x : Nat) (hx : x ≤ 2147483647) (c : UInt8) : Int.tmod (wrap64 ((wrap64 ((wrap64 ((x : Int) * 65539)) + (wrap64 (c.toNat : Int)))) + 1)) 2147483647 = ((sumStep x c.toNat : Nat) : Int) := by
  have hc := c.toNat_lt
  rw [wrap64_id (x := (x : Int) * 65539) (by omega) (by omega), wrap64_id (x := (c.toNat : Int)) (by omega) (by omega), wrap64_id (x := (x : Int) * 65539 + (c.toNat : Int)) (by omega) (by omega), wrap64_id (by omega) (by omega), Int.tmod_eq_emod_of_nonneg (by omega)]
  rfl

theorem spec_sumOf_l0 (s : ByteArray) (hs : s.size ≤ 140737488351232) : ∀ (d i x : Nat), s.size - i = d → i ≤ s.size → x ≤ 2147483647 → Ev (fun k => spec_SumOf.l0 k s (x : Int) (i : Int)) ((sumL (s.data.toList.drop i) x : Nat) : Int) := by
  intro d
  induction d with
  | zero =>
    intro i x hd hi hx
    rw [drop_end s i (by omega)]
    refine Ev.step (fun k => by rw [spec_SumOf.l0, if_neg (by omega)]) (Ev.give ?_)
    rfl
  | succ d ih =>
    intro i x hd hi hx
    obtain ⟨c, e, hb⟩ := bt_drop s i (by omega)
    rw [e]
    refine Ev.step (fun k => by rw [spec_SumOf.l0, if_pos (by omega), if_pos (by omega), hb, step_sum x hx c, wrap64_id (x := (i : Int) + 1) (by omega) (by omega)]) ?_
    exact ih (i + 1) (sumStep x c.toNat) (by omega) (by omega) (by unfold sumStep; omega)
theorem impl_sumOf_l0 (s : ByteArray) (hs : s.size ≤ 140737488351232) : ∀ (d i x : Nat), s.size - i = d → i ≤ s.size → x ≤ 2147483647 → Ev (fun k => impl_SumOf.l0 k s (x : Int) (s.size : Int) (i : Int)) ((sumL (s.data.toList.drop i) x : Nat) : Int) := by
  intro d
  induction d with
  | zero =>
    intro i x hd hi hx
    rw [drop_end s i (by omega)]
    refine Ev.step (fun k => by rw [impl_SumOf.l0, if_neg (by omega)]) (Ev.give ?_)
    rfl
  | succ d ih =>
    intro i x hd hi hx
    obtain ⟨c, e, hb⟩ := bt_drop s i (by omega)
    rw [e]
    refine Ev.step (fun k => by rw [impl_SumOf.l0, if_pos (by omega), if_pos (by omega), if_pos (by omega), hb, step_sum x hx c, wrap64_id (x := (i : Int) + 1) (by omega) (by omega)]) ?_
    exact ih (i + 1) (sumStep x c.toNat) (by omega) (by omega) (by unfold sumStep; omega)
theorem seed_start {seed : Int} (h0 : ¬ seed < 0) : wrap64 (Int.tmod seed 2147483647 + 1) = ((seed.toNat % 2147483647 + 1 : Nat) : Int) := by
  obtain ⟨m, rfl⟩ := Int.eq_ofNat_of_zero_le (by omega : 0 ≤ seed)
  rw [Int.tmod_eq_emod_of_nonneg (by omega), wrap64_id (by omega) (by omega)]; rfl
theorem spec_sumOf (s : ByteArray) (hs : s.size ≤ 140737488351232) (seed : Int) : Ev (fun k => spec_SumOf.f k s seed) (sumOf s seed) := by
  unfold sumOf
  by_cases h0 : seed < 0
  · rw [if_pos h0]
    refine Ev.congr (fun k => by rw [spec_SumOf.f, if_pos h0]) ?_
    exact Ev.step (fun k => by rw [spec_SumOf.j0, if_pos rfl]) (Ev.now _)
  · rw [if_neg h0]
    refine Ev.congr (fun k => by rw [spec_SumOf.f, if_neg h0]) ?_
    by_cases h1 : (s.size : Int) > 400000
    · rw [if_pos h1]
      exact Ev.step (fun k => by rw [spec_SumOf.j0, if_pos (by simpa using h1)]) (Ev.now _)
    · rw [if_neg h1]
      refine Ev.step (fun k => by rw [spec_SumOf.j0, if_neg (by simpa using h1), seed_start h0]) ?_
      exact spec_sumOf_l0 s hs s.size 0 _ (by omega) (by omega) (by omega)
theorem impl_sumOf (s : ByteArray) (hs : s.size ≤ 140737488351232) (seed : Int) : Ev (fun k => impl_SumOf.f k s seed) (sumOf s seed) := by
  unfold sumOf
  by_cases h0 : seed < 0
  · rw [if_pos h0]
    refine Ev.congr (fun k => by rw [impl_SumOf.f, if_pos h0]) ?_
    exact Ev.step (fun k => by rw [impl_SumOf.j0, if_pos rfl]) (Ev.now _)
  · rw [if_neg h0]
    refine Ev.congr (fun k => by rw [impl_SumOf.f, if_neg h0]) ?_
    by_cases h1 : (s.size : Int) > 400000
    · rw [if_pos h1]
      exact Ev.step (fun k => by rw [impl_SumOf.j0, if_pos (by simpa using h1)]) (Ev.now _)
    · rw [if_neg h1]
      refine Ev.step (fun k => by rw [impl_SumOf.j0, if_neg (by simpa using h1), seed_start h0]) ?_
      exact impl_sumOf_l0 s hs s.size 0 _ (by omega) (by omega) (by omega)

/-! The stream of a key, and a text under it. -/
theorem cvNext_range (x : Int) (h : 0 ≤ x ∧ x ≤ 2147483647) : 0 ≤ cvNext x ∧ cvNext x ≤ 2147483647 := by
  unfold cvNext
  rw [wrap64_id (by omega) (by omega), Int.tmod_eq_emod_of_nonneg (by omega)]
  omega
theorem cvAt_range (x : Int) (h : 0 ≤ x ∧ x ≤ 2147483647) : ∀ i : Nat, 0 ≤ cvAt x i ∧ cvAt x i ≤ 2147483647 := by
  intro i
  induction i with
  | zero => exact h
  | succ i ih => exact cvNext_range _ ih
theorem cvByte_range (y : Int) : 0 ≤ cvByte y ∧ cvByte y < 256 := by unfold cvByte; omega
theorem cvByte_spec (y : Int) (h : 0 ≤ y ∧ y ≤ 2147483647) : (Int.tmod (wrap64 (Int.tdiv y 256)) 256) % 256 = cvByte y := by
  unfold cvByte
  rw [Int.tdiv_eq_ediv_of_nonneg h.1, wrap64_id (by omega) (by omega), Int.tmod_eq_emod_of_nonneg (by omega)]
  omega
def strmL (x : Int) (n : Nat) : List Int := (List.range n).map fun i => cvByte (cvAt x (i + 1))
theorem strmL_succ (x : Int) (n : Nat) : strmL x (n + 1) = strmL x n ++ [cvByte (cvAt x (n + 1))] := by unfold strmL; rw [List.range_succ, List.map_append]; rfl
theorem strmL_length (x : Int) (n : Nat) : (strmL x n).length = n := by simp [strmL]
theorem bt_strOf (l : List Int) (j : Nat) (v : Int) (h : l[j]? = some v) (hv : 0 ≤ v ∧ v < 256) : bt (strOfNums l) (j : Int) = v := by
  obtain ⟨hj, e⟩ := List.getElem?_eq_some_iff.1 h
  unfold bt
  rw [dif_pos (by simpa [strOfNums_size] using hj)]
  have : ((strOfNums l)[(j : Int).toNat]'(by simpa [strOfNums_size] using hj)) = UInt8.ofNat v.toNat := by
    simp [ByteArray.getElem_eq_getElem_data, strOfNums, e]
  rw [this, UInt8.toNat_ofNat']
  omega
theorem bt_strm (x : Int) (n j : Nat) (h : j < n) : bt (strOfNums (strmL x n)) (j : Int) = cvByte (cvAt x (j + 1)) := by
  refine bt_strOf _ _ _ ?_ (cvByte_range _)
  unfold strmL
  rw [List.getElem?_map, List.getElem?_range h]
  rfl
theorem cvText_zero (x : Int) (n : Nat) : cvText (strOfNums (List.replicate n 0)) x = strOfNums (strmL x n) := by
  unfold cvText strmL
  rw [strOfNums_size, List.length_replicate]
  congr 1
  apply List.map_congr_left
  intro j hj
  have hj := List.mem_range.1 hj
  unfold cvOut
  rw [bt_strOf (List.replicate n 0) j 0 (by rw [List.getElem?_replicate, if_pos hj]) (by omega)]
  have hr := cvByte_range (cvAt x (j + 1))
  obtain ⟨m, hm⟩ := Int.eq_ofNat_of_zero_le hr.1
  rw [hm]
  have h2 := bits_xor_u8 0 m (by omega) (by omega)
  rw [Nat.zero_xor] at h2
  exact h2
def keyOk (key : ByteArray) : Bool := decide (1 ≤ key.size ∧ key.size ≤ 200)
theorem spec_key (key : ByteArray) : spec_l11Key.f key = some (keyOk key) := by
  unfold spec_l11Key.f keyOk
  by_cases h : (key.size : Int) ≥ 1
  · rw [if_pos h]
    congr 1
    exact decide_eq_decide.2 ⟨fun h2 => ⟨by omega, by omega⟩, fun h2 => by omega⟩
  · rw [if_neg h]
    congr 1
    exact (decide_eq_false (by omega)).symm
theorem impl_key (key : ByteArray) : impl_isKey.f key = some (keyOk key) := spec_key key
theorem spec_stream_l0 (n : Nat) (hn : n ≤ 200000) (x : Int) (hx : 0 ≤ x ∧ x ≤ 2147483647) : ∀ (d i : Nat), n - i = d → i ≤ n → Ev (fun k => spec_StreamOf.l0 k (n : Int) (cvAt x i) (strmL x i) (i : Int)) (strOfNums (strmL x n)) := by
  intro d
  induction d with
  | zero =>
    intro i hd hi
    have e : i = n := by omega
    subst e
    exact Ev.step (fun k => by rw [spec_StreamOf.l0, if_neg (by omega)]) (Ev.now _)
  | succ d ih =>
    intro i hd hi
    have hr := cvAt_range x hx (i + 1)
    refine Ev.step (fun k => by rw [spec_StreamOf.l0, if_pos (by omega), if_pos (by rw [strmL_length]; omega), show Int.tmod (wrap64 (cvAt x i * 48271)) 2147483647 = cvAt x (i + 1) from rfl, cvByte_spec _ hr, ← strmL_succ, wrap64_id (x := (i : Int) + 1) (by omega) (by omega)]) ?_
    exact ih (i + 1) (by omega) (by omega)
/-- The number with which the stream begins. -/
def streamX (key : ByteArray) (nonce : Int) : Int := sumOf (key ++ putNum nonce) 7
theorem streamX_range (key : ByteArray) (nonce : Int) : 0 ≤ streamX key nonce ∧ streamX key nonce ≤ 2147483647 := sumOf_range _ _
theorem spec_stream (key : ByteArray) (nonce : Int) (n : Nat) (hk : keyOk key = true) (h0 : 0 ≤ nonce) (h1 : nonce < 9223372036854775808) (hn : n ≤ 200000) : Ev (fun k => spec_StreamOf.f k key nonce (n : Int)) (strOfNums (strmL (streamX key nonce) n)) := by
  have hks : key.size ≤ 200 := by unfold keyOk at hk; exact (of_decide_eq_true hk).2
  refine Ev.congr (fun k => by rw [spec_StreamOf.f, spec_key, Option.bind_some, hk, if_pos rfl, if_neg (by omega), if_neg (by omega), show decide ((n : Int) > 200000) = false from decide_eq_false (by omega)]) ?_
  refine Ev.step (fun k => by rw [spec_StreamOf.j0, if_neg (by decide)]) ?_
  have p1 := putNum_size nonce h1
  refine Ev.bind (spec_putNum nonce h1) (Ev.pos (by omega) ?_)
  refine Ev.bind (spec_sumOf _ (by rw [ByteArray.size_append]; omega) 7) ?_
  exact spec_stream_l0 n hn (streamX key nonce) (streamX_range key nonce) n 0 (by omega) (by omega)
theorem impl_stream_ev (key : ByteArray) (nonce : Int) (hk : key.size ≤ 200) (h1 : nonce < 9223372036854775808) : Ev (fun k => impl_stream.f k key nonce) (streamX key nonce) := by
  have p1 := putNum_size nonce h1
  refine Ev.congr (fun k => by rw [impl_stream.f]) ?_
  refine Ev.bind (impl_putNum nonce h1) (Ev.pos (by omega) ?_)
  exact impl_sumOf _ (by rw [ByteArray.size_append]; omega) 7
theorem impl_covered_ev (s key : ByteArray) (nonce : Int) (hs : s.size ≤ 140737488351232) (hk : key.size ≤ 200) (h1 : nonce < 9223372036854775808) : Ev (fun k => impl_covered.f k s key nonce) (cvText s (streamX key nonce)) := by
  refine Ev.congr (fun k => by rw [impl_covered.f]) ?_
  exact Ev.bind (impl_stream_ev key nonce hk h1) (Ev.pos (by omega) (Ev.now _))

/-! SealObject. -/
def sealFour (x : Int) : ByteArray := strOfNums (([(x / 16777216) % 256, (x / 65536) % 256, (x / 256) % 256, x % 256] : List Int))
theorem seal_spec_four (x : Int) (h0 : 0 ≤ x) (h1 : x ≤ 2147483647) : spec_l07Four.f x = some (sealFour x) := by
  unfold spec_l07Four.f sealFour
  rw [Int.tdiv_eq_ediv_of_nonneg h0, Int.tdiv_eq_ediv_of_nonneg h0, Int.tdiv_eq_ediv_of_nonneg h0, wrap64_id (x := x / 16777216) (by omega) (by omega), wrap64_id (x := x / 65536) (by omega) (by omega), wrap64_id (x := x / 256) (by omega) (by omega),
    Int.tmod_eq_emod_of_nonneg (by omega), Int.tmod_eq_emod_of_nonneg (by omega), Int.tmod_eq_emod_of_nonneg h0, Int.emod_emod, Int.emod_emod, Int.emod_emod]
theorem seal_impl_four (x : Int) : impl_sumBytes.f x = some (sealFour x) := rfl
theorem sealFour_size (x : Int) : (sealFour x).size = 4 := by unfold sealFour; rw [strOfNums_size]; rfl
/-- The text under the stream, as the reference makes it. -/
theorem spec_xor_l0 (s : ByteArray) (hs : s.size ≤ 200000) (x : Int) : ∀ (d i : Nat), s.size - i = d → i ≤ s.size → Ev (fun k => spec_l11Xor.l0 k s (strOfNums (strmL x s.size)) ((List.range i).map (cvOut s x)) (i : Int)) (cvText s x) := by
  intro d
  induction d with
  | zero =>
    intro i hd hi
    have e : i = s.size := by omega
    subst e
    exact Ev.step (fun k => by rw [spec_l11Xor.l0, if_neg (by omega)]; rfl) (Ev.now _)
  | succ d ih =>
    intro i hd hi
    have hb := bt_strm x s.size i (by omega)
    have hl : (strOfNums (strmL x s.size)).size = s.size := by rw [strOfNums_size, strmL_length]
    have hn : (List.range i).map (cvOut s x) ++ [Go.bits .xor .u8 (bt s (i : Int)) (cvByte (cvAt x (i + 1)))] = (List.range (i + 1)).map (cvOut s x) := by rw [List.range_succ, List.map_append]; rfl
    refine Ev.step (fun k => by rw [spec_l11Xor.l0, if_pos (by omega), if_pos (by omega), if_pos (by rw [hl]; omega), if_pos (by rw [List.length_map, List.length_range]; omega), hb, hn, wrap64_id (x := (i : Int) + 1) (by omega) (by omega)]) ?_
    exact ih (i + 1) (by omega) (by omega)
theorem spec_xor (s key : ByteArray) (nonce : Int) (hs : s.size ≤ 200000) (hk : keyOk key = true) (h0 : 0 ≤ nonce) (h1 : nonce < 9223372036854775808) : Ev (fun k => spec_l11Xor.f k s key nonce) (cvText s (streamX key nonce)) := by
  refine Ev.congr (fun k => by rw [spec_l11Xor.f]) ?_
  refine Ev.bind (spec_stream key nonce s.size hk h0 h1 hs) ?_
  exact spec_xor_l0 s hs (streamX key nonce) s.size 0 (by omega) (by omega)
theorem keyOk_size {key : ByteArray} (hk : keyOk key = true) : key.size ≤ 200 := by unfold keyOk at hk; exact (of_decide_eq_true hk).2
theorem putText_key {key : ByteArray} (hk : keyOk key = true) : (putText key).size ≤ 209 := by
  have := keyOk_size hk
  have := putNum_size (key.size : Int) (by omega)
  unfold putText
  rw [if_neg (by omega), ByteArray.size_append]
  omega
def wrapOf (master key : ByteArray) (nonce : Int) : ByteArray := cvText (putText key ++ sealFour (sumOf (putText key) 8)) (streamX master nonce)
theorem spec_wrap (master key : ByteArray) (nonce : Int) (hm : keyOk master = true) (hk : keyOk key = true) (h0 : 0 ≤ nonce) (h1 : nonce < 9223372036854775808) : Ev (fun k => spec_l11Wrap.f k master key nonce) (wrapOf master key nonce) := by
  have hks := keyOk_size hk
  have hp := putText_key hk
  have hf := sealFour_size (sumOf (putText key) 8)
  have hr := sumOf_range (putText key) 8
  refine Ev.congr (fun k => by rw [spec_l11Wrap.f]) ?_
  refine Ev.bind (spec_putText key (by omega)) (Ev.bind (spec_sumOf _ (by omega) 8) (Ev.bindS (seal_spec_four _ hr.1 hr.2) (Ev.pos (by omega) ?_)))
  exact Ev.bind (spec_xor _ master nonce (by rw [ByteArray.size_append]; omega) hm h0 h1) (Ev.now _)
theorem impl_wrap_ev (master key : ByteArray) (nonce : Int) (hm : keyOk master = true) (hk : keyOk key = true) (h1 : nonce < 9223372036854775808) : Ev (fun k => impl_wrap.f k master key nonce) (wrapOf master key nonce) := by
  have hks := keyOk_size hk
  have hp := putText_key hk
  have hf := sealFour_size (sumOf (putText key) 8)
  refine Ev.congr (fun k => by rw [impl_wrap.f]) ?_
  refine Ev.bind (impl_putText key (by omega)) (Ev.bind (impl_sumOf _ (by omega) 8) (Ev.bindS (seal_impl_four _) (Ev.pos (by omega) ?_)))
  exact Ev.bind (impl_covered_ev _ master nonce (by rw [ByteArray.size_append]; omega) (keyOk_size hm) h1) (Ev.now _)
/-- What SealObject answers. -/
def sealOf (master key : ByteArray) (nonce : Int) (data : ByteArray) : Int × ByteArray × ByteArray :=
  if keyOk master = true ∧ keyOk key = true ∧ 0 ≤ nonce then
    (if (data.size : Int) > 100000 then (2, ⟨#[]⟩, ⟨#[]⟩) else (0, wrapOf master key nonce, cvText (data ++ sealFour (sumOf (key ++ data) 6)) (streamX key nonce)))
  else (1, ⟨#[]⟩, ⟨#[]⟩)
theorem spec_sealOf (master key : ByteArray) (nonce : Int) (data : ByteArray) (h1 : nonce < 9223372036854775808) (hd : data.size ≤ 140737488351232) : Ev (fun k => spec_SealObject.f k master key nonce data) (sealOf master key nonce data) := by
  have out : ¬ (keyOk master = true ∧ keyOk key = true ∧ 0 ≤ nonce) → Ev (fun k => spec_SealObject.j0 k master key nonce data true) (sealOf master key nonce data) := fun h => by
    unfold sealOf
    rw [if_neg h]
    exact Ev.step (fun k => by rw [spec_SealObject.j0, if_pos rfl]) (Ev.now _)
  refine Ev.congr (fun k => by rw [spec_SealObject.f, spec_key, Option.bind_some]) ?_
  by_cases hm : keyOk master = true
  · refine Ev.pos hm (Ev.bindS (spec_key key) ?_)
    by_cases hk : keyOk key = true
    · refine Ev.pos hk ?_
      by_cases hn : nonce < 0
      · rw [show decide (nonce < 0) = true from decide_eq_true hn]
        exact out (fun h => by omega)
      · rw [show decide (nonce < 0) = false from decide_eq_false hn]
        refine Ev.step (fun k => by rw [spec_SealObject.j0, if_neg (by decide)]) ?_
        unfold sealOf
        rw [if_pos ⟨hm, hk, by omega⟩]
        have hks := keyOk_size hk
        by_cases hb : (data.size : Int) > 100000
        · rw [if_pos hb]; exact Ev.pos hb (Ev.now _)
        · rw [if_neg hb]
          have hr := sumOf_range (key ++ data) 6
          have hf := sealFour_size (sumOf (key ++ data) 6)
          refine Ev.neg hb (Ev.bind (spec_wrap master key nonce hm hk (by omega) h1) (Ev.pos (by omega) ?_))
          refine Ev.bind (spec_sumOf _ (by rw [ByteArray.size_append]; omega) 6) (Ev.bindS (seal_spec_four _ hr.1 hr.2) (Ev.pos (by omega) ?_))
          exact Ev.bind (spec_xor _ key nonce (by rw [ByteArray.size_append]; omega) hk (by omega) h1) (Ev.now _)
    · exact Ev.neg hk (out (fun h => hk h.2.1))
  · exact Ev.neg hm (out (fun h => hm h.1))
theorem impl_sealOf (master key : ByteArray) (nonce : Int) (data : ByteArray) (h1 : nonce < 9223372036854775808) (hd : data.size ≤ 140737488351232) : Ev (fun k => impl_SealObject.f k master key nonce data) (sealOf master key nonce data) := by
  have out : ¬ (keyOk master = true ∧ keyOk key = true ∧ 0 ≤ nonce) → Ev (fun k => impl_SealObject.j0 k master key nonce data true) (sealOf master key nonce data) := fun h => by
    unfold sealOf
    rw [if_neg h]
    exact Ev.step (fun k => by rw [impl_SealObject.j0, if_pos rfl]) (Ev.now _)
  refine Ev.congr (fun k => by rw [impl_SealObject.f, impl_key, Option.bind_some]) ?_
  by_cases hm : keyOk master = true
  · refine Ev.pos hm (Ev.bindS (impl_key key) ?_)
    by_cases hk : keyOk key = true
    · refine Ev.pos hk ?_
      by_cases hn : nonce < 0
      · rw [show decide (nonce < 0) = true from decide_eq_true hn]
        exact out (fun h => by omega)
      · rw [show decide (nonce < 0) = false from decide_eq_false hn]
        refine Ev.step (fun k => by rw [impl_SealObject.j0, if_neg (by decide)]) ?_
        unfold sealOf
        rw [if_pos ⟨hm, hk, by omega⟩]
        have hks := keyOk_size hk
        by_cases hb : (data.size : Int) > 100000
        · rw [if_pos hb]; exact Ev.pos hb (Ev.now _)
        · rw [if_neg hb]
          have hf := sealFour_size (sumOf (key ++ data) 6)
          refine Ev.neg hb (Ev.pos (by omega) ?_)
          refine Ev.bind (impl_sumOf _ (by rw [ByteArray.size_append]; omega) 6) (Ev.bindS (seal_impl_four _) (Ev.bind (impl_wrap_ev master key nonce hm hk h1) (Ev.pos (by omega) ?_)))
          exact Ev.bind (impl_covered_ev _ key nonce (by rw [ByteArray.size_append]; omega) hks h1) (Ev.now _)
    · exact Ev.neg hk (out (fun h => hk h.2.1))
  · exact Ev.neg hm (out (fun h => hm h.1))

theorem FnExactSealObject : laws_FnExactSealObject.Pure := by
  intro master key nonce data _ _ hn hd
  refine Ev.rounds (Ev.congr (fun k => by rw [laws_FnExactSealObject.f]) ?_)
  have h1 := (i64_range hn).2
  by_cases h0 : (master.size : Int) > 1048576
  · exact Ev.pos h0 (Ev.now _)
  · refine Ev.neg h0 ?_
    by_cases h2 : (key.size : Int) > 1048576
    · exact Ev.pos h2 (Ev.now _)
    · refine Ev.neg h2 ?_
      by_cases h3 : (data.size : Int) > 1048576
      · exact Ev.pos h3 (Ev.now _)
      · refine Ev.neg h3 ?_
        refine Ev.bind (spec_sealOf master key nonce data h1 hd) (Ev.bind (impl_sealOf master key nonce data h1 hd) ?_)
        refine Ev.bindS (a := true) ?_ (Ev.pos rfl (Ev.now true))
        unfold laws_eqSealed.f
        simp

end Go.Proofs.Ytnailhkgnccloaa.Pure
