/- The statement FnExactDiskScore over numbers and lists alone: the program's DiskScore and the reference's answer the same number, the argument unchanged. No condition. -/
import Derived.Test.YtimfdodgecehgaaQFnExactDiskScorex3
import Derived.Laws.BitsAllLaws
import Derived.Laws.Bits64
import Derived.Test.YtimfdodgecehgaaGoodFnExactDiskScore
set_option linter.all false
namespace Go.Proofs.Ytimfdodgecehgaa.Pure
open Go.RowKit Go.Proofs.Ytimfdodgecehgaa.QFnExactDiskScore Go.Proofs.YtimfdodgecehgaaW.PrintWords Go.Proofs.YtimfdodgecehgaaW.PrintLast Go.Proofs.YtimfdodgecehgaaW.PrintMore

/-! Small lemmas on wraps, rounds and lists. -/
theorem wrap64_id {x : Int} (h0 : -9223372036854775808 ≤ x) (h1 : x < 9223372036854775808) : wrap64 x = x := by unfold wrap64; omega
theorem u64_id {x : Int} (h0 : 0 ≤ x) (h1 : x < 18446744073709551616) : IntKind.u64.wrap x = x := by rw [IntKind.wrap_u64]; omega
theorem Ev.pos {α : Type} {c : Prop} [Decidable c] {f g : Nat → Option α} {r : α} (h : c) (e : Ev f r) : Ev (fun k => if c then f k else g k) r := by simpa [h] using e
theorem Ev.neg {α : Type} {c : Prop} [Decidable c] {f g : Nat → Option α} {r : α} (h : ¬ c) (e : Ev g r) : Ev (fun k => if c then f k else g k) r := by simpa [h] using e
theorem Ev.bindS {α β : Type} {g : Option α} {f : Nat → α → Option β} {a : α} {r : β} (h : g = some a) (e : Ev (fun k => f k a) r) : Ev (fun k => g.bind (f k)) r := by subst h; simpa using e
theorem Ev.give {α : Type} {r s : α} (h : s = r) : Ev (fun _ => some s) r := by subst h; exact Ev.now _
theorem bt_drop (s : ByteArray) (i : Nat) (h : i < s.size) : ∃ c : UInt8, s.data.toList.drop i = c :: s.data.toList.drop (i + 1) ∧ bt s (i : Int) = (c.toNat : Int) := by
  have hl : i < s.data.toList.length := by simpa using h
  refine ⟨s.data.toList[i], List.drop_eq_getElem_cons hl, ?_⟩
  unfold bt
  rw [dif_pos (by simpa using h)]
  simp [ByteArray.getElem_eq_getElem_data]
theorem drop_end (s : ByteArray) (i : Nat) (h : s.size ≤ i) : s.data.toList.drop i = [] := List.drop_eq_nil_of_le (by simpa using h)
theorem size_strOfNums (l : List Int) : (strOfNums l).size = l.length := by
  show (strOfNums l).data.size = l.length
  simp [strOfNums]
theorem i64_range {n : Int} (h : (Lit.int .i64 n).wf = true) : -9223372036854775808 ≤ n ∧ n < 9223372036854775808 := by
  simp only [Lit.wf, IntKind.min, IntKind.max, IntKind.signed, IntKind.bits, Bool.and_eq_true, decide_eq_true_eq, if_true] at h; omega
theorem byte_eq_int (c d : UInt8) : ((c.toNat : Int) = (d.toNat : Int)) ↔ c = d := by
  constructor
  · intro h; exact UInt8.toNat_inj.1 (by omega)
  · rintro rfl; rfl
theorem byte_eq_lit (c : UInt8) (n : Nat) (hn : n < 256) : ((c.toNat : Int) = (n : Int)) ↔ c = UInt8.ofNat n := by
  rw [← byte_eq_int]
  have : (UInt8.ofNat n).toNat = n := by simp [UInt8.toNat_ofNat']; omega
  rw [this]
theorem bt_get (s : ByteArray) (i : Nat) (h : i < s.size) : ∃ c : UInt8, s.data.toList[i]? = some c ∧ bt s (i : Int) = (c.toNat : Int) := by
  obtain ⟨c, e, hb⟩ := bt_drop s i h
  refine ⟨c, ?_, hb⟩
  have : (s.data.toList.drop i)[0]? = some c := by rw [e]; rfl
  simpa using this

/-! Go's bits at numbers from 0 on. -/
theorem bits_xor_i64 (a b : Nat) (ha : a < 9223372036854775808) (hb : b < 9223372036854775808) : Go.bits .xor .i64 (a : Int) (b : Int) = ((a ^^^ b : Nat) : Int) := by
  have hx : a ^^^ b < 2 ^ 63 := Nat.xor_lt_two_pow (by simpa using ha) (by simpa using hb)
  show IntKind.i64.wrap (((BitVec.ofInt 64 (a : Int)) ^^^ (BitVec.ofInt 64 (b : Int))).toNat : Int) = _
  rw [BitVec.toNat_xor, BitVec.ofInt_natCast, BitVec.ofInt_natCast, BitVec.toNat_ofNat, BitVec.toNat_ofNat, Nat.mod_eq_of_lt (by omega : a < 2 ^ 64), Nat.mod_eq_of_lt (by omega : b < 2 ^ 64), IntKind.wrap_i64]
  omega
theorem bits_and_i64 (a b : Nat) (ha : a < 9223372036854775808) (hb : b < 9223372036854775808) : Go.bits .and .i64 (a : Int) (b : Int) = ((a &&& b : Nat) : Int) := by
  have hx : a &&& b < 2 ^ 63 := Nat.and_lt_two_pow _ (by simpa using hb)
  show IntKind.i64.wrap (((BitVec.ofInt 64 (a : Int)) &&& (BitVec.ofInt 64 (b : Int))).toNat : Int) = _
  rw [BitVec.toNat_and, BitVec.ofInt_natCast, BitVec.ofInt_natCast, BitVec.toNat_ofNat, BitVec.toNat_ofNat, Nat.mod_eq_of_lt (by omega : a < 2 ^ 64), Nat.mod_eq_of_lt (by omega : b < 2 ^ 64), IntKind.wrap_i64]
  omega
theorem bits_xor_u8 (a b : Nat) (ha : a < 256) (hb : b < 256) : Go.bits .xor .u8 (a : Int) (b : Int) = ((a ^^^ b : Nat) : Int) := by
  have hx : a ^^^ b < 2 ^ 8 := Nat.xor_lt_two_pow (by simpa using ha) (by simpa using hb)
  show IntKind.u8.wrap (((BitVec.ofInt 8 (a : Int)) ^^^ (BitVec.ofInt 8 (b : Int))).toNat : Int) = _
  rw [BitVec.toNat_xor, BitVec.ofInt_natCast, BitVec.ofInt_natCast, BitVec.toNat_ofNat, BitVec.toNat_ofNat, Nat.mod_eq_of_lt (by omega : a < 2 ^ 8), Nat.mod_eq_of_lt (by omega : b < 2 ^ 8), IntKind.wrap_u8]
  omega
theorem bits_and_u8 (a b : Nat) (ha : a < 256) (hb : b < 256) : Go.bits .and .u8 (a : Int) (b : Int) = ((a &&& b : Nat) : Int) := by
  have hx : a &&& b < 2 ^ 8 := Nat.and_lt_two_pow _ (by simpa using hb)
  show IntKind.u8.wrap (((BitVec.ofInt 8 (a : Int)) &&& (BitVec.ofInt 8 (b : Int))).toNat : Int) = _
  rw [BitVec.toNat_and, BitVec.ofInt_natCast, BitVec.ofInt_natCast, BitVec.toNat_ofNat, BitVec.toNat_ofNat, Nat.mod_eq_of_lt (by omega : a < 2 ^ 8), Nat.mod_eq_of_lt (by omega : b < 2 ^ 8), IntKind.wrap_u8]
  omega
theorem bits_xor_u16 (a b : Nat) (ha : a < 65536) (hb : b < 65536) : Go.bits .xor .u16 (a : Int) (b : Int) = ((a ^^^ b : Nat) : Int) := by
  have hx : a ^^^ b < 2 ^ 16 := Nat.xor_lt_two_pow (by simpa using ha) (by simpa using hb)
  show IntKind.u16.wrap (((BitVec.ofInt 16 (a : Int)) ^^^ (BitVec.ofInt 16 (b : Int))).toNat : Int) = _
  rw [BitVec.toNat_xor, BitVec.ofInt_natCast, BitVec.ofInt_natCast, BitVec.toNat_ofNat, BitVec.toNat_ofNat, Nat.mod_eq_of_lt (by omega : a < 2 ^ 16), Nat.mod_eq_of_lt (by omega : b < 2 ^ 16), IntKind.wrap_u16]
  omega
theorem bits_and_u16 (a b : Nat) (ha : a < 65536) (hb : b < 65536) : Go.bits .and .u16 (a : Int) (b : Int) = ((a &&& b : Nat) : Int) := by
  have hx : a &&& b < 2 ^ 16 := Nat.and_lt_two_pow _ (by simpa using hb)
  show IntKind.u16.wrap (((BitVec.ofInt 16 (a : Int)) &&& (BitVec.ofInt 16 (b : Int))).toNat : Int) = _
  rw [BitVec.toNat_and, BitVec.ofInt_natCast, BitVec.ofInt_natCast, BitVec.toNat_ofNat, BitVec.toNat_ofNat, Nat.mod_eq_of_lt (by omega : a < 2 ^ 16), Nat.mod_eq_of_lt (by omega : b < 2 ^ 16), IntKind.wrap_u16]
  omega
theorem and_top (w a : Nat) (h : a < 2 ^ (w + 1)) : a &&& 2 ^ w = 0 ↔ a < 2 ^ w := by
  have hp : 0 < 2 ^ w := Nat.two_pow_pos w
  have ht : a.testBit w = decide (2 ^ w ≤ a) := by
    rw [Nat.testBit_eq_decide_div_mod_eq]
    have h2 : a / 2 ^ w < 2 := Nat.div_lt_of_lt_mul (by rw [Nat.pow_succ] at h; exact h)
    by_cases hc : 2 ^ w ≤ a
    · have : 1 ≤ a / 2 ^ w := (Nat.le_div_iff_mul_le hp).2 (by omega)
      have e : a / 2 ^ w = 1 := by omega
      simp [e, hc]
    · have e : a / 2 ^ w = 0 := Nat.div_eq_of_lt (by omega)
      simp [e, hc]
  constructor
  · intro h0
    have hb : (a &&& 2 ^ w).testBit w = false := by rw [h0]; simp
    rw [Nat.testBit_and, Nat.testBit_two_pow_self, Bool.and_true, ht] at hb
    simpa using hb
  · intro hl
    apply Nat.eq_of_testBit_eq
    intro i
    rw [Nat.testBit_and, Nat.zero_testBit, Nat.testBit_two_pow]
    by_cases hi : w = i
    · subst hi
      rw [ht]; simp; omega
    · simp [hi]

/-! The bytes of a number, seven bits a byte. -/
def vb (n : Nat) : List Int := if _h : n < 128 then [(n : Int)] else ((128 + n % 128 : Nat) : Int) :: vb (n / 128)
  termination_by n
  decreasing_by omega
theorem vb_small {n : Nat} (h : n < 128) : vb n = [(n : Int)] := by rw [vb, dif_pos h]
theorem vb_big {n : Nat} (h : ¬ n < 128) : vb n = ((128 + n % 128 : Nat) : Int) :: vb (n / 128) := by rw [vb, dif_neg h]
theorem vb_len : ∀ (d n : Nat), n < 128 ^ (d + 1) → (vb n).length ≤ d + 1 := by
  intro d
  induction d with
  | zero => intro n h; rw [vb_small (by omega)]; simp
  | succ d ih =>
    intro n h
    by_cases hn : n < 128
    · rw [vb_small hn]; simp
    · rw [vb_big hn, List.length_cons]
      have := ih (n / 128) (by rw [Nat.pow_succ] at h; exact Nat.div_lt_of_lt_mul (by omega))
      omega
theorem vb_len64 {n : Nat} (h : n < 9223372036854775808) : (vb n).length ≤ 9 := vb_len 8 n (by simp only [Nat.reduceAdd, Nat.reducePow]; omega)
theorem or128 (x : Int) (h0 : 0 ≤ x) (h1 : x < 256) : Go.bits .or .u8 x 128 = 128 + x % 128 := by
  obtain ⟨n, rfl⟩ := Int.eq_ofNat_of_zero_le h0
  have hn : n < 256 := by omega
  have key : ∀ m : Fin 256, Go.bits .or .u8 (m.val : Int) 128 = 128 + (m.val : Int) % 128 := by decide +kernel
  exact key ⟨n, hn⟩

theorem spec_putNum_l0 : ∀ (d n : Nat) (xs : List Int), n < 128 ^ (d + 1) → n < 9223372036854775808 → xs.length + (d + 1) < 1000000 → Ev (fun k => spec_PutNum.l0 k (n : Int) xs) (strOfNums (xs ++ vb n)) := by
  intro d
  induction d with
  | zero =>
    intro n xs h h64 hl
    have hn : n < 128 := by omega
    refine Ev.step (fun k => by rw [spec_PutNum.l0, if_neg (by omega), if_pos (by omega)]) (Ev.give ?_)
    rw [vb_small hn]
    congr 3; omega
  | succ d ih =>
    intro n xs h h64 hl
    by_cases hn : n < 128
    · refine Ev.step (fun k => by rw [spec_PutNum.l0, if_neg (by omega), if_pos (by omega)]) (Ev.give ?_)
      rw [vb_small hn]
      congr 3; omega
    · refine Ev.step (fun k => by rw [spec_PutNum.l0, if_pos (by omega), if_pos (by omega)]) ?_
      have h1 : wrap64 (Int.tdiv (n : Int) 128) = ((n / 128 : Nat) : Int) := by
        rw [Int.tdiv_eq_ediv_of_nonneg (by omega), wrap64_id (by omega) (by omega)]; rfl
      have h2 : wrap64 (128 + Int.tmod (n : Int) 128) % 256 = ((128 + n % 128 : Nat) : Int) := by
        rw [Int.tmod_eq_emod_of_nonneg (by omega), wrap64_id (by omega) (by omega)]; omega
      rw [h1, h2, vb_big hn]
      have := ih (n / 128) (xs ++ [((128 + n % 128 : Nat) : Int)]) (by rw [Nat.pow_succ] at h; exact Nat.div_lt_of_lt_mul (by omega)) (by omega) (by simp; omega)
      simpa using this
theorem impl_putNum_l0 : ∀ (d n : Nat) (xs : List Int), n < 128 ^ (d + 1) → n < 9223372036854775808 → xs.length + (d + 1) < 1000000 → Ev (fun k => impl_PutNum.l0 k xs (n : Int)) (strOfNums (xs ++ vb n)) := by
  intro d
  induction d with
  | zero =>
    intro n xs h h64 hl
    have hn : n < 128 := by omega
    refine Ev.step (fun k => by rw [impl_PutNum.l0, if_neg (by omega), if_pos (by omega)]) (Ev.give ?_)
    rw [vb_small hn]
    congr 3; omega
  | succ d ih =>
    intro n xs h h64 hl
    by_cases hn : n < 128
    · refine Ev.step (fun k => by rw [impl_PutNum.l0, if_neg (by omega), if_pos (by omega)]) (Ev.give ?_)
      rw [vb_small hn]
      congr 3; omega
    · refine Ev.step (fun k => by rw [impl_PutNum.l0, if_pos (by omega), if_pos (by omega)]) ?_
      have h1 : (n : Int) / 128 = ((n / 128 : Nat) : Int) := rfl
      have h2 : Go.bits .or .u8 ((n : Int) % 256) 128 = ((128 + n % 128 : Nat) : Int) := by
        rw [or128 _ (by omega) (by omega)]; omega
      rw [h1, h2, vb_big hn]
      have := ih (n / 128) (xs ++ [((128 + n % 128 : Nat) : Int)]) (by rw [Nat.pow_succ] at h; exact Nat.div_lt_of_lt_mul (by omega)) (by omega) (by simp; omega)
      simpa using this
/-- What PutNum writes. -/
def putNum (n : Int) : ByteArray := if n < 0 then ⟨#[]⟩ else strOfNums (vb n.toNat)
theorem spec_putNum (n : Int) (h : n < 9223372036854775808) : Ev (fun k => spec_PutNum.f k n) (putNum n) := by
  unfold putNum
  by_cases h0 : n < 0
  · rw [if_pos h0]; exact Ev.congr (fun k => by rw [spec_PutNum.f, if_pos h0]) (Ev.now _)
  · rw [if_neg h0]
    refine Ev.congr (fun k => by rw [spec_PutNum.f, if_neg h0]) ?_
    obtain ⟨m, rfl⟩ := Int.eq_ofNat_of_zero_le (by omega : 0 ≤ n)
    exact spec_putNum_l0 8 m [] (by simp; omega) (by omega) (by simp)
theorem impl_putNum (n : Int) (h : n < 9223372036854775808) : Ev (fun k => impl_PutNum.f k n) (putNum n) := by
  unfold putNum
  by_cases h0 : n < 0
  · rw [if_pos h0]; exact Ev.congr (fun k => by rw [impl_PutNum.f, if_pos h0]) (Ev.now _)
  · rw [if_neg h0]
    refine Ev.congr (fun k => by rw [impl_PutNum.f, if_neg h0]) ?_
    obtain ⟨m, rfl⟩ := Int.eq_ofNat_of_zero_le (by omega : 0 ≤ n)
    rw [u64_id (by omega) (by omega)]
    exact impl_putNum_l0 8 m [] (by simp; omega) (by omega) (by simp)
theorem putNum_size (n : Int) (h : n < 9223372036854775808) : (putNum n).size ≤ 9 := by
  unfold putNum
  split
  · decide
  · rw [size_strOfNums]; exact vb_len64 (by omega)

def sumStep (x d : Nat) : Nat := (x * 65539 + d + 1) % 2147483647
def sumL (l : List UInt8) (x : Nat) : Nat := l.foldl (fun x c => sumStep x c.toNat) x
/-- What SumOf answers. -/
def sumOf (s : ByteArray) (seed : Int) : Int := if seed < 0 then 0 else if (s.size : Int) > 400000 then 0 else ((sumL s.data.toList (seed.toNat % 2147483647 + 1) : Nat) : Int)
theorem sumL_lt (l : List UInt8) : ∀ x, x ≤ 2147483647 → sumL l x ≤ 2147483647 := by
  induction l with
  | nil => intro x h; exact h
  | cons c l ih => intro x h; show sumL l (sumStep x c.toNat) ≤ _; exact ih _ (by unfold sumStep; omega)
theorem sumOf_range (s : ByteArray) (seed : Int) : 0 ≤ sumOf s seed ∧ sumOf s seed ≤ 2147483647 := by
  unfold sumOf
  split
  · omega
  · split
    · omega
    · have := sumL_lt s.data.toList (seed.toNat % 2147483647 + 1) (by omega); omega
theorem step_sum (x : Nat) (hx : x ≤ 2147483647) (c : UInt8) : Int.tmod (wrap64 ((wrap64 ((wrap64 ((x : Int) * 65539)) + (wrap64 (c.toNat : Int)))) + 1)) 2147483647 = ((sumStep x c.toNat : Nat) : Int) := by
  have hc := c.toNat_lt
  rw [wrap64_id (x := (x : Int) * 65539) (by omega) (by omega), wrap64_id (x := (c.toNat : Int)) (by omega) (by omega), wrap64_id (x := (x : Int) * 65539 + (c.toNat : Int)) (by omega) (by omega), wrap64_id (by omega) (by omega), Int.tmod_eq_emod_of_nonneg (by omega)]
  rfl

theorem spec_sumOf_l0 (s : ByteArray) (hs : s.size ≤ 140737488351232) : ∀ (d i x : Nat), s.size - i = d → i ≤ s.size → x ≤ 2147483647 → Ev (fun k => spec_SumOf.l0 k s (x : Int) (i : Int)) ((sumL (s.data.toList.drop i) x : Nat) : Int) := by
  intro d
  induction d with
  | zero =>
    intro i x hd hi hx
    rw [drop_end s i (by omega)]
    refine Ev.step (fun k => by rw [spec_SumOf.l0, if_neg (by omega)]) (Ev.give ?_)
    rfl
  | succ d ih =>
    intro i x hd hi hx
    obtain ⟨c, e, hb⟩ := bt_drop s i (by omega)
    rw [e]
    refine Ev.step (fun k => by rw [spec_SumOf.l0, if_pos (by omega), if_pos (by omega), hb, step_sum x hx c, wrap64_id (x := (i : Int) + 1) (by omega) (by omega)]) ?_
    exact ih (i + 1) (sumStep x c.toNat) (by omega) (by omega) (by unfold sumStep; omega)
theorem impl_sumOf_l0 (s : ByteArray) (hs : s.size ≤ 140737488351232) : ∀ (d i x : Nat), s.size - i = d → i ≤ s.size → x ≤ 2147483647 → Ev (fun k => impl_SumOf.l0 k s (x : Int) (s.size : Int) (i : Int)) ((sumL (s.data.toList.drop i) x : Nat) : Int) := by
  intro d
  induction d with
  | zero =>
    intro i x hd hi hx
    rw [drop_end s i (by omega)]
    refine Ev.step (fun k => by rw [impl_SumOf.l0, if_neg (by omega)]) (Ev.give ?_)
    rfl
  | succ d ih =>
    intro i x hd hi hx
    obtain ⟨c, e, hb⟩ := bt_drop s i (by omega)
    rw [e]
    refine Ev.step (fun k => by rw [impl_SumOf.l0, if_pos (by omega), if_pos (by omega), if_pos (by omega), hb, step_sum x hx c, wrap64_id (x := (i : Int) + 1) (by omega) (by omega)]) ?_
    exact ih (i + 1) (sumStep x c.toNat) (by omega) (by omega) (by unfold sumStep; omega)
theorem seed_start {seed : Int} (h0 : ¬ seed < 0) : wrap64 (Int.tmod seed 2147483647 + 1) = ((seed.toNat % 2147483647 + 1 : Nat) : Int) := by
  obtain ⟨m, rfl⟩ := Int.eq_ofNat_of_zero_le (by omega : 0 ≤ seed)
  rw [Int.tmod_eq_emod_of_nonneg (by omega), wrap64_id (by omega) (by omega)]; rfl
theorem spec_sumOf (s : ByteArray) (hs : s.size ≤ 140737488351232) (seed : Int) : Ev (fun k => spec_SumOf.f k s seed) (sumOf s seed) := by
  unfold sumOf
  by_cases h0 : seed < 0
  · rw [if_pos h0]
    refine Ev.congr (fun k => by rw [spec_SumOf.f, if_pos h0]) ?_
    exact Ev.step (fun k => by rw [spec_SumOf.j0, if_pos rfl]) (Ev.now _)
  · rw [if_neg h0]
    refine Ev.congr (fun k => by rw [spec_SumOf.f, if_neg h0]) ?_
    by_cases h1 : (s.size : Int) > 400000
    · rw [if_pos h1]
      exact Ev.step (fun k => by rw [spec_SumOf.j0, if_pos (by simpa using h1)]) (Ev.now _)
    · rw [if_neg h1]
      refine Ev.step (fun k => by rw [spec_SumOf.j0, if_neg (by simpa using h1), seed_start h0]) ?_
      exact spec_sumOf_l0 s hs s.size 0 _ (by omega) (by omega) (by omega)
theorem impl_sumOf (s : ByteArray) (hs : s.size ≤ 140737488351232) (seed : Int) : Ev (fun k => impl_SumOf.f k s seed) (sumOf s seed) := by
  unfold sumOf
  by_cases h0 : seed < 0
  · rw [if_pos h0]
    refine Ev.congr (fun k => by rw [impl_SumOf.f, if_pos h0]) ?_
    exact Ev.step (fun k => by rw [impl_SumOf.j0, if_pos rfl]) (Ev.now _)
  · rw [if_neg h0]
    refine Ev.congr (fun k => by rw [impl_SumOf.f, if_neg h0]) ?_
    by_cases h1 : (s.size : Int) > 400000
    · rw [if_pos h1]
      exact Ev.step (fun k => by rw [impl_SumOf.j0, if_pos (by simpa using h1)]) (Ev.now _)
    · rw [if_neg h1]
      refine Ev.step (fun k => by rw [impl_SumOf.j0, if_neg (by simpa using h1), seed_start h0]) ?_
      exact impl_sumOf_l0 s hs s.size 0 _ (by omega) (by omega) (by omega)

/-- What is made of a sum. -/
def mixN (x : Nat) : Nat := (x * 48271 % 2147483647) ^^^ (x * 48271 % 2147483647 / 65536)
/-- What MixOf answers. -/
def mixOf (key : ByteArray) (node turn : Int) : Int := if node < 0 then -1 else if turn < 0 then -1 else if (key.size : Int) > 1000 then -1 else ((mixN (sumOf (key ++ putNum node ++ putNum turn) 17).toNat : Nat) : Int)
theorem mixN_lt (x : Nat) : mixN x < 2147483648 := by
  unfold mixN
  exact Nat.xor_lt_two_pow (n := 31) (by omega) (by omega)
theorem mix_last (x : Int) (h0 : 0 ≤ x) (h1 : x ≤ 2147483647) : Go.bits .xor .i64 (Int.tmod (wrap64 (x * 48271)) 2147483647) (wrap64 (Int.tdiv (Int.tmod (wrap64 (x * 48271)) 2147483647) 65536)) = ((mixN x.toNat : Nat) : Int) := by
  obtain ⟨m, rfl⟩ := Int.eq_ofNat_of_zero_le h0
  rw [wrap64_id (x := (m : Int) * 48271) (by omega) (by omega), Int.tmod_eq_emod_of_nonneg (by omega), Int.tdiv_eq_ediv_of_nonneg (by omega), wrap64_id (by omega) (by omega)]
  have e1 : (m : Int) * 48271 % 2147483647 = ((m * 48271 % 2147483647 : Nat) : Int) := by omega
  have e2 : (m : Int) * 48271 % 2147483647 / 65536 = ((m * 48271 % 2147483647 / 65536 : Nat) : Int) := by omega
  rw [e2, e1, bits_xor_i64 _ _ (by omega) (by omega)]
  rfl

theorem spec_mixOf (key : ByteArray) (node turn : Int) (hk : key.size ≤ 140737488351232) (hn : node < 9223372036854775808) (ht : turn < 9223372036854775808) : Ev (fun k => spec_MixOf.f k key node turn) (mixOf key node turn) := by
  unfold mixOf
  by_cases h0 : node < 0
  · rw [if_pos h0]
    refine Ev.congr (fun k => by rw [spec_MixOf.f, if_pos h0]) ?_
    exact Ev.step (fun k => by rw [spec_MixOf.j0, if_pos rfl]) (Ev.now _)
  · rw [if_neg h0]
    refine Ev.congr (fun k => by rw [spec_MixOf.f, if_neg h0]) ?_
    by_cases h1 : turn < 0
    · rw [if_pos h1]
      refine Ev.pos h1 ?_
      exact Ev.step (fun k => by rw [spec_MixOf.j0, if_pos rfl]) (Ev.now _)
    · rw [if_neg h1]
      refine Ev.neg h1 ?_
      by_cases h2 : (key.size : Int) > 1000
      · rw [if_pos h2]
        exact Ev.step (fun k => by rw [spec_MixOf.j0, if_pos (by simpa using h2)]) (Ev.now _)
      · rw [if_neg h2]
        have p1 := putNum_size node hn
        have p2 := putNum_size turn ht
        refine Ev.step (fun k => by rw [spec_MixOf.j0, if_neg (by simpa using h2)]) ?_
        refine Ev.bind (spec_putNum node hn) (Ev.pos (by omega) (Ev.bind (spec_putNum turn ht) (Ev.pos (by rw [ByteArray.size_append]; omega) ?_)))
        have hs : ((key ++ putNum node) ++ putNum turn).size ≤ 140737488351232 := by rw [ByteArray.size_append, ByteArray.size_append]; omega
        have hr := sumOf_range ((key ++ putNum node) ++ putNum turn) 17
        exact Ev.bind (spec_sumOf _ hs 17) (Ev.give (mix_last _ hr.1 hr.2))
theorem impl_mixOf (key : ByteArray) (node turn : Int) (hk : key.size ≤ 140737488351232) (hn : node < 9223372036854775808) (ht : turn < 9223372036854775808) : Ev (fun k => impl_MixOf.f k key node turn) (mixOf key node turn) := by
  unfold mixOf
  by_cases h0 : node < 0
  · rw [if_pos h0]
    refine Ev.congr (fun k => by rw [impl_MixOf.f, if_pos h0]) ?_
    exact Ev.step (fun k => by rw [impl_MixOf.j0, if_pos rfl]) (Ev.now _)
  · rw [if_neg h0]
    refine Ev.congr (fun k => by rw [impl_MixOf.f, if_neg h0]) ?_
    by_cases h1 : turn < 0
    · rw [if_pos h1]
      refine Ev.pos h1 ?_
      exact Ev.step (fun k => by rw [impl_MixOf.j0, if_pos rfl]) (Ev.now _)
    · rw [if_neg h1]
      refine Ev.neg h1 ?_
      by_cases h2 : (key.size : Int) > 1000
      · rw [if_pos h2]
        exact Ev.step (fun k => by rw [impl_MixOf.j0, if_pos (by simpa using h2)]) (Ev.now _)
      · rw [if_neg h2]
        have p1 := putNum_size node hn
        have p2 := putNum_size turn ht
        refine Ev.step (fun k => by rw [impl_MixOf.j0, if_neg (by simpa using h2)]) ?_
        refine Ev.bind (impl_putNum node hn) (Ev.pos (by omega) (Ev.bind (impl_putNum turn ht) (Ev.pos (by rw [ByteArray.size_append]; omega) ?_)))
        have hs : ((key ++ putNum node) ++ putNum turn).size ≤ 140737488351232 := by rw [ByteArray.size_append, ByteArray.size_append]; omega
        have hr := sumOf_range ((key ++ putNum node) ++ putNum turn) 17
        exact Ev.bind (impl_sumOf _ hs 17) (Ev.give (mix_last _ hr.1 hr.2))

/-! The copies that a statement makes of its argument, and how it holds them against one another: lists of nodes. -/
theorem wf_i64 {x : Int} (h : good2 x) : -9223372036854775808 ≤ x ∧ x < 9223372036854775808 := i64_range h
/-- A node of the statement as one of the program. -/
def nodeOf (x : S123) : S121 := ⟨x.f0, x.f1⟩
theorem set_prefix {α β : Type} (f : α → β) (z : β) (l : List α) (i : Nat) (h : i < l.length) (x : α) (hx : l[i]? = some x) :
    ((l.take i).map f ++ List.replicate (l.length - i) z).set i (f x) = (l.take (i + 1)).map f ++ List.replicate (l.length - (i + 1)) z := by
  have h1 : ((l.take i).map f).length = i := by simp; omega
  rw [List.set_append_right _ _ (by omega), h1, Nat.sub_self]
  have h2 : List.replicate (l.length - i) z = z :: List.replicate (l.length - (i + 1)) z := by
    rw [show l.length - i = (l.length - (i + 1)) + 1 by omega]; rfl
  rw [h2, List.set_cons_zero, List.take_add_one, hx, List.map_append]
  simp
theorem toNodeS_l0 (l : List S123) (hl : l.length ≤ 1048576) : ∀ (d i : Nat), l.length - i = d → i ≤ l.length →
    Ev (fun k => laws_toNodeS.l0 k l ((l.take i).map nodeOf ++ List.replicate (l.length - i) z121) (i : Int)) (l.map nodeOf) := by
  intro d
  induction d with
  | zero =>
    intro i hd hi
    have : i = l.length := by omega
    subst this
    refine Ev.step (fun k => by rw [laws_toNodeS.l0, if_neg (by omega)]) (Ev.give ?_)
    simp
  | succ d ih =>
    intro i hd hi
    have hlt : i < l.length := by omega
    have hx : l[i]? = some l[i] := List.getElem?_eq_getElem hlt
    have hr : rd_T123 l (i : Int) = l[i] := by unfold rd_T123; rw [Int.toNat_natCast, List.getD_eq_getElem?_getD, hx]; rfl
    have hw : wrap64 ((i : Int) + 1) = ((i + 1 : Nat) : Int) := by rw [wrap64_id (by omega) (by omega)]; rfl
    have hs := set_prefix nodeOf z121 l i hlt l[i] hx
    refine Ev.step (fun k => by rw [laws_toNodeS.l0, if_pos (by omega), if_pos (by omega), hr, show laws_toNode.f l[i].f0 l[i].f1 = some (l[i].f0, l[i].f1) from rfl, Option.bind_some, if_pos (by simp; omega), Int.toNat_natCast, hw, show (⟨(l[i].f0, l[i].f1).1, (l[i].f0, l[i].f1).2⟩ : S121) = nodeOf l[i] from rfl, hs]) ?_
    exact ih (i + 1) (by omega) (by omega)
theorem toNodeS (l : List S123) (hl : l.length ≤ 1048576) : Ev (fun k => laws_toNodeS.f k l) (l.map nodeOf) := by
  refine Ev.congr (fun k => by rw [laws_toNodeS.f, if_pos (by omega), if_pos (by omega), Int.toNat_natCast]) ?_
  have := toNodeS_l0 l hl l.length 0 rfl (by omega)
  simpa using this
theorem eqNode_self (a b : Int) : laws_eqNode.f a b a b = some true := by unfold laws_eqNode.f; simp
theorem eqNodeS_l0 (l : List S121) (hl : l.length ≤ 1048576) : ∀ (d i : Nat), l.length - i = d → i ≤ l.length → Ev (fun k => laws_eqNodeS.l0 k l l (i : Int)) true := by
  intro d
  induction d with
  | zero =>
    intro i hd hi
    exact Ev.step (fun k => by rw [laws_eqNodeS.l0, if_neg (by omega)]) (Ev.now _)
  | succ d ih =>
    intro i hd hi
    have hw : wrap64 ((i : Int) + 1) = ((i + 1 : Nat) : Int) := by rw [wrap64_id (by omega) (by omega)]; rfl
    refine Ev.step (fun k => by rw [laws_eqNodeS.l0, if_pos (by omega), if_pos (by omega), if_pos (by omega), eqNode_self, Option.bind_some, if_pos rfl, hw]) ?_
    exact ih (i + 1) (by omega) (by omega)
theorem eqNodeS (l : List S121) (hl : l.length ≤ 1048576) : Ev (fun k => laws_eqNodeS.f k l l) true := by
  refine Ev.congr (fun k => by rw [laws_eqNodeS.f, if_pos rfl]) ?_
  exact eqNodeS_l0 l hl l.length 0 rfl (by omega)
theorem szNodeS (l : List S123) (left : Int) (hl : l.length ≤ 9223372036854775807) (h0 : 0 ≤ left) (h1 : left ≤ 1048576) :
    (laws_szNodeS.f l left = some (-1) ∧ left < l.length) ∨ (laws_szNodeS.f l left = some (left - l.length) ∧ (l.length : Int) ≤ left) := by
  unfold laws_szNodeS.f
  rw [wrap64_id (by omega) (by omega)]
  by_cases h : left - (l.length : Int) < 0
  · rw [if_pos h]; exact .inl ⟨rfl, by omega⟩
  · rw [if_neg h]; exact .inr ⟨rfl, by omega⟩

def nodeBad (x : S121) : Bool := decide (x.f0 < 0 ∨ x.f0 > 200 ∨ x.f1 < 0 ∨ x.f1 > 64)
/-- What NodesFault answers. -/
def nodesFaultOf (l : List S121) : Int := if (l.length : Int) < 1 then 1 else if (l.length : Int) > 200 then 1 else if l.any nodeBad = true then 1 else 0
theorem rd_node (l : List S121) (i : Nat) (h : i < l.length) : rd_T121 l (i : Int) = l[i] := by
  unfold rd_T121; rw [Int.toNat_natCast, List.getD_eq_getElem?_getD, List.getElem?_eq_getElem h]; rfl
theorem any_drop {α : Type} (p : α → Bool) (l : List α) (i : Nat) (h : i < l.length) : (l.drop i).any p = (p l[i] || (l.drop (i + 1)).any p) := by
  rw [List.drop_eq_getElem_cons h, List.any_cons]
theorem spec_nodesFault_l0 (l : List S121) (hl : l.length ≤ 1048576) : ∀ (d i : Nat), l.length - i = d → i ≤ l.length → Ev (fun k => spec_NodesFault.l0 k l (i : Int)) (if (l.drop i).any nodeBad = true then 1 else 0) := by
  intro d
  induction d with
  | zero =>
    intro i hd hi
    rw [List.drop_eq_nil_of_le (by omega)]
    refine Ev.step (fun k => by rw [spec_NodesFault.l0, if_neg (by omega)]) (Ev.give ?_)
    rfl
  | succ d ih =>
    intro i hd hi
    have hlt : i < l.length := by omega
    have hr := rd_node l i hlt
    have hw : wrap64 ((i : Int) + 1) = ((i + 1 : Nat) : Int) := by rw [wrap64_id (by omega) (by omega)]; rfl
    have next := ih (i + 1) (by omega) (by omega)
    rw [any_drop nodeBad l i hlt]
    by_cases hb : nodeBad l[i] = true
    · rw [hb, Bool.true_or, if_pos rfl]
      have hb' : l[i].f0 < 0 ∨ l[i].f0 > 200 ∨ l[i].f1 < 0 ∨ l[i].f1 > 64 := by simpa [nodeBad] using hb
      refine Ev.step (fun k => by rw [spec_NodesFault.l0, if_pos (by omega), if_pos (by omega), hr]) ?_
      by_cases h0 : l[i].f0 < 0
      · exact Ev.pos h0 (Ev.now _)
      · refine Ev.neg h0 ?_
        by_cases h1 : l[i].f0 > 200
        · exact Ev.pos h1 (Ev.now _)
        · refine Ev.neg h1 ?_
          by_cases h2 : l[i].f1 < 0
          · exact Ev.pos h2 (Ev.now _)
          · exact Ev.neg h2 (Ev.pos (by omega) (Ev.now _))
    · have hb' : ¬ (l[i].f0 < 0 ∨ l[i].f0 > 200 ∨ l[i].f1 < 0 ∨ l[i].f1 > 64) := by simpa [nodeBad] using hb
      rw [Bool.eq_false_iff.2 hb, Bool.false_or]
      refine Ev.step (fun k => by rw [spec_NodesFault.l0, if_pos (by omega), if_pos (by omega), hr, if_neg (by omega), if_neg (by omega), if_neg (by omega), if_neg (by omega), hw]) ?_
      exact next
theorem spec_nodesFault (l : List S121) (hl : l.length ≤ 1048576) : Ev (fun k => spec_NodesFault.f k l) (nodesFaultOf l) := by
  unfold nodesFaultOf
  by_cases h0 : (l.length : Int) < 1
  · rw [if_pos h0]
    refine Ev.congr (fun k => by rw [spec_NodesFault.f, if_pos h0]) ?_
    exact Ev.step (fun k => by rw [spec_NodesFault.j0, if_pos rfl]) (Ev.now _)
  · rw [if_neg h0]
    refine Ev.congr (fun k => by rw [spec_NodesFault.f, if_neg h0]) ?_
    by_cases h1 : (l.length : Int) > 200
    · rw [if_pos h1]
      exact Ev.step (fun k => by rw [spec_NodesFault.j0, if_pos (by simpa using h1)]) (Ev.now _)
    · rw [if_neg h1]
      refine Ev.step (fun k => by rw [spec_NodesFault.j0, if_neg (by simpa using h1)]) ?_
      have := spec_nodesFault_l0 l hl l.length 0 rfl (by omega)
      simpa using this
theorem impl_nodesFault_l0 (l : List S121) (hl : l.length ≤ 1048576) : ∀ (d i : Nat), l.length - i = d → i ≤ l.length → Ev (fun k => impl_NodesFault.l0 k l (l.length : Int) (i : Int)) (if (l.drop i).any nodeBad = true then 1 else 0) := by
  intro d
  induction d with
  | zero =>
    intro i hd hi
    rw [List.drop_eq_nil_of_le (by omega)]
    refine Ev.step (fun k => by rw [impl_NodesFault.l0, if_neg (by omega)]) (Ev.give ?_)
    rfl
  | succ d ih =>
    intro i hd hi
    have hlt : i < l.length := by omega
    have hr := rd_node l i hlt
    have hw : wrap64 ((i : Int) + 1) = ((i + 1 : Nat) : Int) := by rw [wrap64_id (by omega) (by omega)]; rfl
    have next := ih (i + 1) (by omega) (by omega)
    rw [any_drop nodeBad l i hlt]
    by_cases hb : nodeBad l[i] = true
    · rw [hb, Bool.true_or, if_pos rfl]
      have hb' : l[i].f0 < 0 ∨ l[i].f0 > 200 ∨ l[i].f1 < 0 ∨ l[i].f1 > 64 := by simpa [nodeBad] using hb
      refine Ev.step (fun k => by rw [impl_NodesFault.l0, if_pos (by omega), if_pos (by omega), if_pos (by omega), hr]) ?_
      by_cases h0 : l[i].f0 < 0
      · exact Ev.pos h0 (Ev.now _)
      · refine Ev.neg h0 ?_
        by_cases h1 : l[i].f0 > 200
        · exact Ev.pos h1 (Ev.now _)
        · refine Ev.neg h1 ?_
          by_cases h2 : l[i].f1 < 0
          · exact Ev.pos h2 (Ev.now _)
          · exact Ev.neg h2 (Ev.pos (by omega) (Ev.now _))
    · have hb' : ¬ (l[i].f0 < 0 ∨ l[i].f0 > 200 ∨ l[i].f1 < 0 ∨ l[i].f1 > 64) := by simpa [nodeBad] using hb
      rw [Bool.eq_false_iff.2 hb, Bool.false_or]
      refine Ev.step (fun k => by rw [impl_NodesFault.l0, if_pos (by omega), if_pos (by omega), if_pos (by omega), hr, if_neg (by omega), if_neg (by omega), if_neg (by omega), if_neg (by omega), hw]) ?_
      exact next
theorem impl_nodesFault (l : List S121) (hl : l.length ≤ 1048576) : Ev (fun k => impl_NodesFault.f k l) (nodesFaultOf l) := by
  unfold nodesFaultOf
  by_cases h0 : (l.length : Int) < 1
  · rw [if_pos h0]
    refine Ev.congr (fun k => by rw [impl_NodesFault.f, if_pos h0]) ?_
    exact Ev.step (fun k => by rw [impl_NodesFault.j0, if_pos rfl]) (Ev.now _)
  · rw [if_neg h0]
    refine Ev.congr (fun k => by rw [impl_NodesFault.f, if_neg h0]) ?_
    by_cases h1 : (l.length : Int) > 200
    · rw [if_pos h1]
      exact Ev.step (fun k => by rw [impl_NodesFault.j0, if_pos (by simpa using h1)]) (Ev.now _)
    · rw [if_neg h1]
      refine Ev.step (fun k => by rw [impl_NodesFault.j0, if_neg (by simpa using h1)]) ?_
      have := impl_nodesFault_l0 l hl l.length 0 rfl (by omega)
      simpa using this

/-- The best of the turns t, t+1, .., d of them. -/
def bestN (key : ByteArray) (disk : Int) : Nat → Int → Int → Int
  | 0, b, _ => b
  | d + 1, b, t => bestN key disk d (if mixOf key disk t > b then mixOf key disk t else b) (t + 1)
/-- What DiskScore answers. -/
def diskScoreOf (l : List S121) (key : ByteArray) (disk : Int) : Int :=
  if nodesFaultOf l = 0 then (if disk < 0 then -1 else if disk ≥ (l.length : Int) then -1 else if (key.size : Int) > 1000 then -1 else bestN key disk (rd_T121 l disk).f1.toNat (-1) 0) else -1
theorem nodesFault_zero (l : List S121) (h : nodesFaultOf l = 0) (i : Nat) (hi : i < l.length) : 0 ≤ l[i].f1 ∧ l[i].f1 ≤ 64 := by
  unfold nodesFaultOf at h
  split at h
  · omega
  · split at h
    · omega
    · split at h
      · omega
      · rename_i hb
        have : ¬ nodeBad l[i] = true := fun hx => hb (List.any_eq_true.2 ⟨l[i], List.getElem_mem hi, hx⟩)
        have hb' : ¬ (l[i].f0 < 0 ∨ l[i].f0 > 200 ∨ l[i].f1 < 0 ∨ l[i].f1 > 64) := by simpa [nodeBad] using this
        omega
theorem spec_score_l0 (l : List S121) (key : ByteArray) (hk : key.size ≤ 1000) (disk : Int) (h0 : 0 ≤ disk) (h1 : disk < (l.length : Int)) (h2 : disk < 9223372036854775808) (W : Int) (hW : (rd_T121 l disk).f1 = W) (hW6 : W ≤ 64) : ∀ (d : Nat) (b t : Int), 0 ≤ t → (W - t).toNat = d →
    Ev (fun k => spec_l06Score.l0 k l key disk b t) (bestN key disk d b t) := by
  intro d
  induction d with
  | zero =>
    intro b t ht hd
    refine Ev.step (fun k => by rw [spec_l06Score.l0, if_pos h0, if_pos h1, hW, if_neg (by omega)]) (Ev.give ?_)
    rfl
  | succ d ih =>
    intro b t ht hd
    have hw : wrap64 (t + 1) = t + 1 := wrap64_id (by omega) (by omega)
    refine Ev.step (fun k => by rw [spec_l06Score.l0, if_pos h0, if_pos h1, hW, if_pos (by omega), hw]) ?_
    refine Ev.bind (spec_mixOf key disk t (by omega) h2 (by omega)) ?_
    unfold bestN
    by_cases hb : mixOf key disk t > b
    · rw [if_pos hb]
      exact Ev.pos hb (ih _ _ (by omega) (by omega))
    · rw [if_neg hb]
      exact Ev.neg hb (ih _ _ (by omega) (by omega))
theorem impl_score_l0 (key : ByteArray) (hk : key.size ≤ 1000) (disk : Int) (h2 : disk < 9223372036854775808) (W : Int) (hW6 : W ≤ 64) : ∀ (d : Nat) (b t : Int), 0 ≤ t → (W - t).toNat = d →
    Ev (fun k => impl_scoreOf.l0 k key disk b W t) (bestN key disk d b t) := by
  intro d
  induction d with
  | zero =>
    intro b t ht hd
    refine Ev.step (fun k => by rw [impl_scoreOf.l0, if_neg (by omega)]) (Ev.give ?_)
    rfl
  | succ d ih =>
    intro b t ht hd
    have hw : wrap64 (t + 1) = t + 1 := wrap64_id (by omega) (by omega)
    refine Ev.step (fun k => by rw [impl_scoreOf.l0, if_pos (by omega), hw]) ?_
    refine Ev.bind (impl_mixOf key disk t (by omega) h2 (by omega)) ?_
    unfold bestN
    have e : mx b (mixOf key disk t) = if mixOf key disk t > b then mixOf key disk t else b := rfl
    rw [← e]
    exact ih _ _ (by omega) (by omega)
theorem spec_diskScore (l : List S121) (hl : l.length ≤ 1048576) (key : ByteArray) (disk : Int) : Ev (fun k => spec_DiskScore.f k l key disk) (diskScoreOf l key disk) := by
  refine Ev.congr (fun k => by rw [spec_DiskScore.f]) ?_
  refine Ev.bind (spec_nodesFault l hl) ?_
  unfold diskScoreOf
  by_cases hf : nodesFaultOf l = 0
  · rw [if_pos hf]
    refine Ev.pos hf ?_
    by_cases h0 : disk < 0
    · rw [if_pos h0]; exact Ev.pos h0 (Ev.now _)
    · rw [if_neg h0]; refine Ev.neg h0 ?_
      by_cases h1 : disk ≥ (l.length : Int)
      · rw [if_pos h1]; exact Ev.pos h1 (Ev.now _)
      · rw [if_neg h1]; refine Ev.neg h1 ?_
        by_cases h2 : (key.size : Int) > 1000
        · rw [if_pos h2]; exact Ev.pos h2 (Ev.now _)
        · rw [if_neg h2]; refine Ev.neg h2 ?_
          have hz := nodesFault_zero l hf disk.toNat (by omega)
          have hr : rd_T121 l disk = l[disk.toNat] := by
            have := rd_node l disk.toNat (by omega)
            rwa [Int.toNat_of_nonneg (by omega)] at this
          rw [hr]
          refine Ev.bind (Ev.congr (fun k => by rw [spec_l06Score.f]) (spec_score_l0 l key (by omega) disk (by omega) (by omega) (by omega) l[disk.toNat].f1 (by rw [hr]) hz.2 _ (-1) 0 (by omega) (by rw [Int.sub_zero]))) (Ev.now _)
  · rw [if_neg hf]
    exact Ev.neg hf (Ev.now _)
theorem impl_diskScore (l : List S121) (hl : l.length ≤ 1048576) (key : ByteArray) (disk : Int) : Ev (fun k => impl_DiskScore.f k l key disk) (diskScoreOf l key disk) := by
  refine Ev.congr (fun k => by rw [impl_DiskScore.f]) ?_
  refine Ev.bind (impl_nodesFault l hl) ?_
  unfold diskScoreOf
  by_cases hf : nodesFaultOf l = 0
  · rw [if_pos hf]
    refine Ev.pos hf ?_
    by_cases h0 : disk < 0
    · rw [if_pos h0]; exact Ev.pos h0 (Ev.now _)
    · rw [if_neg h0]; refine Ev.neg h0 ?_
      by_cases h1 : disk ≥ (l.length : Int)
      · rw [if_pos h1]; exact Ev.pos h1 (Ev.now _)
      · rw [if_neg h1]; refine Ev.neg h1 ?_
        by_cases h2 : (key.size : Int) > 1000
        · rw [if_pos h2]; exact Ev.pos h2 (Ev.now _)
        · rw [if_neg h2]; refine Ev.neg h2 (Ev.pos (by omega) (Ev.pos (by omega) ?_))
          have hz := nodesFault_zero l hf disk.toNat (by omega)
          have hr : rd_T121 l disk = l[disk.toNat] := by
            have := rd_node l disk.toNat (by omega)
            rwa [Int.toNat_of_nonneg (by omega)] at this
          rw [hr]
          refine Ev.bind (Ev.congr (fun k => by rw [impl_scoreOf.f]) (impl_score_l0 key (by omega) disk (by omega) l[disk.toNat].f1 hz.2 _ (-1) 0 (by omega) (by rw [Int.sub_zero]))) (Ev.now _)
  · rw [if_neg hf]
    exact Ev.neg hf (Ev.now _)

theorem FnExactDiskScore : laws_FnExactDiskScore.Wants := by
  intro l key disk hg hk hd
  refine Ev.rounds (Ev.congr (fun k => by rw [laws_FnExactDiskScore.f]) ?_)
  by_cases h0 : (key.size : Int) > 1048576
  · exact Ev.pos h0 (Ev.now _)
  · refine Ev.neg h0 ?_
    rcases szNodeS l 1048576 hg.1 (by omega) (by omega) with ⟨h, _⟩ | ⟨h, hle⟩
    · exact Ev.bindS h (Ev.pos (by decide) (Ev.now _))
    · refine Ev.bindS h (Ev.neg (by omega) ?_)
      have hl : l.length ≤ 1048576 := by omega
      have hm : (l.map nodeOf).length ≤ 1048576 := by simpa using hl
      refine Ev.bind (toNodeS l hl) (Ev.bind (spec_diskScore _ hm key disk) (Ev.bind (toNodeS l hl) (Ev.bind (impl_diskScore _ hm key disk) (Ev.pos rfl (Ev.bind (toNodeS l hl) (Ev.bind (eqNodeS _ hm) (Ev.pos rfl (Ev.now _))))))))

end Go.Proofs.Ytimfdodgecehgaa.Pure
