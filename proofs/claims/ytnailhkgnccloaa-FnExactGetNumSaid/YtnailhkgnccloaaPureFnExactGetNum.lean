/- The statement FnExactGetNum over numbers and lists alone: the program's GetNum and the reference's answer the same. No condition. -/
import Derived.Test.YtnailhkgnccloaaQFnExactGetNumx2
import Derived.Laws.BitsAllLaws
import Derived.Laws.Bits64
set_option linter.all false
namespace Go.Proofs.Ytnailhkgnccloaa.Pure
open Go.RowKit Go.Proofs.Ytnailhkgnccloaa.QFnExactGetNum Go.Proofs.YtnailhkgnccloaaW.PrintWords Go.Proofs.YtnailhkgnccloaaW.PrintLast Go.Proofs.YtnailhkgnccloaaW.PrintMore

/-! Small lemmas on wraps, rounds and lists. -/
theorem wrap64_id {x : Int} (h0 : -9223372036854775808 ≤ x) (h1 : x < 9223372036854775808) : wrap64 x = x := by unfold wrap64; omega
theorem u64_id {x : Int} (h0 : 0 ≤ x) (h1 : x < 18446744073709551616) : IntKind.u64.wrap x = x := by rw [IntKind.wrap_u64]; omega
theorem Ev.pos {α : Type} {c : Prop} [Decidable c] {f g : Nat → Option α} {r : α} (h : c) (e : Ev f r) : Ev (fun k => if c then f k else g k) r := by simpa [h] using e
theorem Ev.neg {α : Type} {c : Prop} [Decidable c] {f g : Nat → Option α} {r : α} (h : ¬ c) (e : Ev g r) : Ev (fun k => if c then f k else g k) r := by simpa [h] using e
theorem Ev.bindS {α β : Type} {g : Option α} {f : Nat → α → Option β} {a : α} {r : β} (h : g = some a) (e : Ev (fun k => f k a) r) : Ev (fun k => g.bind (f k)) r := by subst h; simpa using e
theorem Ev.give {α : Type} {r s : α} (h : s = r) : Ev (fun _ => some s) r := by subst h; exact Ev.now _
theorem bt_drop (s : ByteArray) (i : Nat) (h : i < s.size) : ∃ c : UInt8, s.data.toList.drop i = c :: s.data.toList.drop (i + 1) ∧ bt s (i : Int) = (c.toNat : Int) := by
  have hl : i < s.data.toList.length := by simpa using h
  refine ⟨s.data.toList[i], List.drop_eq_getElem_cons hl, ?_⟩
  unfold bt
  rw [dif_pos (by simpa using h)]
  simp [ByteArray.getElem_eq_getElem_data]
theorem drop_end (s : ByteArray) (i : Nat) (h : s.size ≤ i) : s.data.toList.drop i = [] := List.drop_eq_nil_of_le (by simpa using h)
theorem size_strOfNums (l : List Int) : (strOfNums l).size = l.length := by
  show (strOfNums l).data.size = l.length
  simp [strOfNums]
theorem i64_range {n : Int} (h : (Lit.int .i64 n).wf = true) : -9223372036854775808 ≤ n ∧ n < 9223372036854775808 := by
  simp only [Lit.wf, IntKind.min, IntKind.max, IntKind.signed, IntKind.bits, Bool.and_eq_true, decide_eq_true_eq, if_true] at h; omega
theorem byte_eq_int (c d : UInt8) : ((c.toNat : Int) = (d.toNat : Int)) ↔ c = d := by
  constructor
  · intro h; exact UInt8.toNat_inj.1 (by omega)
  · rintro rfl; rfl
theorem byte_eq_lit (c : UInt8) (n : Nat) (hn : n < 256) : ((c.toNat : Int) = (n : Int)) ↔ c = UInt8.ofNat n := by
  rw [← byte_eq_int]
  have : (UInt8.ofNat n).toNat = n := by simp [UInt8.toNat_ofNat']; omega
  rw [this]
theorem bt_get (s : ByteArray) (i : Nat) (h : i < s.size) : ∃ c : UInt8, s.data.toList[i]? = some c ∧ bt s (i : Int) = (c.toNat : Int) := by
  obtain ⟨c, e, hb⟩ := bt_drop s i h
  refine ⟨c, ?_, hb⟩
  have : (s.data.toList.drop i)[0]? = some c := by rw [e]; rfl
  simpa using this

/-! Go's bits at numbers from 0 on. -/
theorem bits_xor_i64 (a b : Nat) (ha : a < 9223372036854775808) (hb : b < 9223372036854775808) : Go.bits .xor .i64 (a : Int) (b : Int) = ((a ^^^ b : Nat) : Int) := by
  have hx : a ^^^ b < 2 ^ 63 := Nat.xor_lt_two_pow (by simpa using ha) (by simpa using hb)
  show IntKind.i64.wrap (((BitVec.ofInt 64 (a : Int)) ^^^ (BitVec.ofInt 64 (b : Int))).toNat : Int) = _
  rw [BitVec.toNat_xor, BitVec.ofInt_natCast, BitVec.ofInt_natCast, BitVec.toNat_ofNat, BitVec.toNat_ofNat, Nat.mod_eq_of_lt (by omega : a < 2 ^ 64), Nat.mod_eq_of_lt (by omega : b < 2 ^ 64), IntKind.wrap_i64]
  omega
theorem bits_and_i64 (a b : Nat) (ha : a < 9223372036854775808) (hb : b < 9223372036854775808) : Go.bits .and .i64 (a : Int) (b : Int) = ((a &&& b : Nat) : Int) := by
  have hx : a &&& b < 2 ^ 63 := Nat.and_lt_two_pow _ (by simpa using hb)
  show IntKind.i64.wrap (((BitVec.ofInt 64 (a : Int)) &&& (BitVec.ofInt 64 (b : Int))).toNat : Int) = _
  rw [BitVec.toNat_and, BitVec.ofInt_natCast, BitVec.ofInt_natCast, BitVec.toNat_ofNat, BitVec.toNat_ofNat, Nat.mod_eq_of_lt (by omega : a < 2 ^ 64), Nat.mod_eq_of_lt (by omega : b < 2 ^ 64), IntKind.wrap_i64]
  omega
theorem bits_xor_u8 (a b : Nat) (ha : a < 256) (hb : b < 256) : Go.bits .xor .u8 (a : Int) (b : Int) = ((a ^^^ b : Nat) : Int) := by
  have hx : a ^^^ b < 2 ^ 8 := Nat.xor_lt_two_pow (by simpa using ha) (by simpa using hb)
  show IntKind.u8.wrap (((BitVec.ofInt 8 (a : Int)) ^^^ (BitVec.ofInt 8 (b : Int))).toNat : Int) = _
  rw [BitVec.toNat_xor, BitVec.ofInt_natCast, BitVec.ofInt_natCast, BitVec.toNat_ofNat, BitVec.toNat_ofNat, Nat.mod_eq_of_lt (by omega : a < 2 ^ 8), Nat.mod_eq_of_lt (by omega : b < 2 ^ 8), IntKind.wrap_u8]
  omega
theorem bits_and_u8 (a b : Nat) (ha : a < 256) (hb : b < 256) : Go.bits .and .u8 (a : Int) (b : Int) = ((a &&& b : Nat) : Int) := by
  have hx : a &&& b < 2 ^ 8 := Nat.and_lt_two_pow _ (by simpa using hb)
  show IntKind.u8.wrap (((BitVec.ofInt 8 (a : Int)) &&& (BitVec.ofInt 8 (b : Int))).toNat : Int) = _
  rw [BitVec.toNat_and, BitVec.ofInt_natCast, BitVec.ofInt_natCast, BitVec.toNat_ofNat, BitVec.toNat_ofNat, Nat.mod_eq_of_lt (by omega : a < 2 ^ 8), Nat.mod_eq_of_lt (by omega : b < 2 ^ 8), IntKind.wrap_u8]
  omega
theorem bits_xor_u16 (a b : Nat) (ha : a < 65536) (hb : b < 65536) : Go.bits .xor .u16 (a : Int) (b : Int) = ((a ^^^ b : Nat) : Int) := by
  have hx : a ^^^ b < 2 ^ 16 := Nat.xor_lt_two_pow (by simpa using ha) (by simpa using hb)
  show IntKind.u16.wrap (((BitVec.ofInt 16 (a : Int)) ^^^ (BitVec.ofInt 16 (b : Int))).toNat : Int) = _
  rw [BitVec.toNat_xor, BitVec.ofInt_natCast, BitVec.ofInt_natCast, BitVec.toNat_ofNat, BitVec.toNat_ofNat, Nat.mod_eq_of_lt (by omega : a < 2 ^ 16), Nat.mod_eq_of_lt (by omega : b < 2 ^ 16), IntKind.wrap_u16]
  omega
theorem bits_and_u16 (a b : Nat) (ha : a < 65536) (hb : b < 65536) : Go.bits .and .u16 (a : Int) (b : Int) = ((a &&& b : Nat) : Int) := by
  have hx : a &&& b < 2 ^ 16 := Nat.and_lt_two_pow _ (by simpa using hb)
  show IntKind.u16.wrap (((BitVec.ofInt 16 (a : Int)) &&& (BitVec.ofInt 16 (b : Int))).toNat : Int) = _
  rw [BitVec.toNat_and, BitVec.ofInt_natCast, BitVec.ofInt_natCast, BitVec.toNat_ofNat, BitVec.toNat_ofNat, Nat.mod_eq_of_lt (by omega : a < 2 ^ 16), Nat.mod_eq_of_lt (by omega : b < 2 ^ 16), IntKind.wrap_u16]
  omega
theorem and_top (w a : Nat) (h : a < 2 ^ (w + 1)) : a &&& 2 ^ w = 0 ↔ a < 2 ^ w := by
  have hp : 0 < 2 ^ w := Nat.two_pow_pos w
  have ht : a.testBit w = decide (2 ^ w ≤ a) := by
    rw [Nat.testBit_eq_decide_div_mod_eq]
    have h2 : a / 2 ^ w < 2 := Nat.div_lt_of_lt_mul (by rw [Nat.pow_succ] at h; exact h)
    by_cases hc : 2 ^ w ≤ a
    · have : 1 ≤ a / 2 ^ w := (Nat.le_div_iff_mul_le hp).2 (by omega)
      have e : a / 2 ^ w = 1 := by omega
      simp [e, hc]
    · have e : a / 2 ^ w = 0 := Nat.div_eq_of_lt (by omega)
      simp [e, hc]
  constructor
  · intro h0
    have hb : (a &&& 2 ^ w).testBit w = false := by rw [h0]; simp
    rw [Nat.testBit_and, Nat.testBit_two_pow_self, Bool.and_true, ht] at hb
    simpa using hb
  · intro hl
    apply Nat.eq_of_testBit_eq
    intro i
    rw [Nat.testBit_and, Nat.zero_testBit, Nat.testBit_two_pow]
    by_cases hi : w = i
    · subst hi
      rw [ht]; simp; omega
    · simp [hi]

/-! Bytes as the program's numbers, and as texts. -/
def bI (o : List UInt8) : List Int := o.map fun c => (c.toNat : Int)
def mkB (o : List UInt8) : ByteArray := ⟨o.toArray⟩
theorem strOf_bI (o : List UInt8) : strOfNums (bI o) = mkB o := by
  unfold strOfNums bI mkB
  congr 1
  rw [List.map_map]
  congr 1
  conv => rhs; rw [← List.map_id o]
  apply List.map_congr_left
  intro c _
  simp
theorem bI_snoc (o : List UInt8) (c : UInt8) : bI o ++ [(c.toNat : Int)] = bI (o ++ [c]) := by simp [bI]
theorem bI_app (o p : List UInt8) : bI o ++ bI p = bI (o ++ p) := by simp [bI]
theorem bI_length (o : List UInt8) : (bI o).length = o.length := by simp [bI]
theorem mkB_list (o : List UInt8) : (mkB o).data.toList = o := rfl
theorem mkB_toList (o : List UInt8) : (mkB o).toList = o := by rw [ByteArray.toList_eq]; rfl
theorem mkB_size (o : List UInt8) : (mkB o).size = o.length := by show o.toArray.size = _; simp
theorem mkB_data (s : ByteArray) : mkB s.data.toList = s := by unfold mkB; simp
theorem data_len (s : ByteArray) : s.data.toList.length = s.size := by simp
/-- Two bytes on, where there are. -/
theorem bt_next (s : ByteArray) (i : Nat) (h : i < s.size) : ∃ c : UInt8, s.data.toList.drop i = c :: s.data.toList.drop (i + 1) ∧ bt s (i : Int) = (c.toNat : Int) := bt_drop s i h

/-! The bytes of a number, seven bits a byte. -/
def vb (n : Nat) : List Int := if _h : n < 128 then [(n : Int)] else ((128 + n % 128 : Nat) : Int) :: vb (n / 128)
  termination_by n
  decreasing_by omega
theorem vb_small {n : Nat} (h : n < 128) : vb n = [(n : Int)] := by rw [vb, dif_pos h]
theorem vb_big {n : Nat} (h : ¬ n < 128) : vb n = ((128 + n % 128 : Nat) : Int) :: vb (n / 128) := by rw [vb, dif_neg h]
theorem vb_len : ∀ (d n : Nat), n < 128 ^ (d + 1) → (vb n).length ≤ d + 1 := by
  intro d
  induction d with
  | zero => intro n h; rw [vb_small (by omega)]; simp
  | succ d ih =>
    intro n h
    by_cases hn : n < 128
    · rw [vb_small hn]; simp
    · rw [vb_big hn, List.length_cons]
      have := ih (n / 128) (by rw [Nat.pow_succ] at h; exact Nat.div_lt_of_lt_mul (by omega))
      omega
theorem vb_len64 {n : Nat} (h : n < 9223372036854775808) : (vb n).length ≤ 9 := vb_len 8 n (by simp only [Nat.reduceAdd, Nat.reducePow]; omega)
theorem or128 (x : Int) (h0 : 0 ≤ x) (h1 : x < 256) : Go.bits .or .u8 x 128 = 128 + x % 128 := by
  obtain ⟨n, rfl⟩ := Int.eq_ofNat_of_zero_le h0
  have hn : n < 256 := by omega
  have key : ∀ m : Fin 256, Go.bits .or .u8 (m.val : Int) 128 = 128 + (m.val : Int) % 128 := by decide +kernel
  exact key ⟨n, hn⟩

theorem spec_putNum_l0 : ∀ (d n : Nat) (xs : List Int), n < 128 ^ (d + 1) → n < 9223372036854775808 → xs.length + (d + 1) < 1000000 → Ev (fun k => spec_PutNum.l0 k (n : Int) xs) (strOfNums (xs ++ vb n)) := by
  intro d
  induction d with
  | zero =>
    intro n xs h h64 hl
    have hn : n < 128 := by omega
    refine Ev.step (fun k => by rw [spec_PutNum.l0, if_neg (by omega), if_pos (by omega)]) (Ev.give ?_)
    rw [vb_small hn]
    congr 3; omega
  | succ d ih =>
    intro n xs h h64 hl
    by_cases hn : n < 128
    · refine Ev.step (fun k => by rw [spec_PutNum.l0, if_neg (by omega), if_pos (by omega)]) (Ev.give ?_)
      rw [vb_small hn]
      congr 3; omega
    · refine Ev.step (fun k => by rw [spec_PutNum.l0, if_pos (by omega), if_pos (by omega)]) ?_
      have h1 : wrap64 (Int.tdiv (n : Int) 128) = ((n / 128 : Nat) : Int) := by
        rw [Int.tdiv_eq_ediv_of_nonneg (by omega), wrap64_id (by omega) (by omega)]; rfl
      have h2 : wrap64 (128 + Int.tmod (n : Int) 128) % 256 = ((128 + n % 128 : Nat) : Int) := by
        rw [Int.tmod_eq_emod_of_nonneg (by omega), wrap64_id (by omega) (by omega)]; omega
      rw [h1, h2, vb_big hn]
      have := ih (n / 128) (xs ++ [((128 + n % 128 : Nat) : Int)]) (by rw [Nat.pow_succ] at h; exact Nat.div_lt_of_lt_mul (by omega)) (by omega) (by simp; omega)
      simpa using this
/-- What PutNum writes. -/
def putNum (n : Int) : ByteArray := if n < 0 then ⟨#[]⟩ else strOfNums (vb n.toNat)
theorem spec_putNum (n : Int) (h : n < 9223372036854775808) : Ev (fun k => spec_PutNum.f k n) (putNum n) := by
  unfold putNum
  by_cases h0 : n < 0
  · rw [if_pos h0]; exact Ev.congr (fun k => by rw [spec_PutNum.f, if_pos h0]) (Ev.now _)
  · rw [if_neg h0]
    refine Ev.congr (fun k => by rw [spec_PutNum.f, if_neg h0]) ?_
    obtain ⟨m, rfl⟩ := Int.eq_ofNat_of_zero_le (by omega : 0 ≤ n)
    exact spec_putNum_l0 8 m [] (by simp; omega) (by omega) (by simp)
theorem putNum_size (n : Int) (h : n < 9223372036854775808) : (putNum n).size ≤ 9 := by
  unfold putNum
  split
  · decide
  · rw [size_strOfNums]; exact vb_len64 (by omega)

/-! Numbers out of bytes, seven bits a byte, the lowest first. -/
def valL : List Nat → Nat
  | [] => 0
  | b :: l => b % 128 + 128 * valL l
theorem valL_lt : ∀ l : List Nat, valL l < 128 ^ l.length := by
  intro l
  induction l with
  | nil => simp [valL]
  | cons b l ih =>
    rw [valL, List.length_cons, Nat.pow_succ]
    omega
theorem valL_snoc : ∀ (l : List Nat) (b : Nat), valL (l ++ [b]) = valL l + (b % 128) * 128 ^ l.length := by
  intro l b
  induction l with
  | nil => simp [valL]
  | cons c l ih =>
    rw [List.cons_append, valL, ih, valL, List.length_cons, Nat.pow_succ, Nat.mul_add, ← Nat.add_assoc, ← Nat.mul_assoc, Nat.mul_comm (128 ^ l.length) 128, Nat.mul_comm 128 (b % 128), Nat.mul_assoc]
theorem valL_pos : ∀ (l : List Nat) (c : Nat), c % 128 ≠ 0 → 0 < valL (l ++ [c]) := by
  intro l c h
  rw [valL_snoc]
  have := Nat.mul_pos (Nat.pos_of_ne_zero h) (Nat.two_pow_pos 0)
  have hp : 0 < 128 ^ l.length := Nat.pow_pos (by omega)
  have := Nat.mul_pos (Nat.pos_of_ne_zero h) hp
  omega
theorem vb_val : ∀ (l : List Nat) (c : Nat), (∀ b ∈ l, 128 ≤ b ∧ b < 256) → c < 128 → (c ≠ 0 ∨ l = []) → vb (valL (l ++ [c])) = (l ++ [c]).map fun b : Nat => (b : Int) := by
  intro l c
  induction l with
  | nil =>
    intro _ hc _
    have : valL ([] ++ [c]) = c := by simp [valL]; omega
    rw [this, vb_small hc]
    rfl
  | cons b l ih =>
    intro hb hc h0
    have hc0 : c ≠ 0 := by rcases h0 with h | h; exact h; simp at h
    have hb0 := hb b List.mem_cons_self
    have hp := valL_pos l c (by omega)
    have e : valL (b :: l ++ [c]) = b % 128 + 128 * valL (l ++ [c]) := rfl
    rw [e, vb_big (by omega)]
    have e1 : (b % 128 + 128 * valL (l ++ [c])) / 128 = valL (l ++ [c]) := by omega
    have e2 : 128 + (b % 128 + 128 * valL (l ++ [c])) % 128 = b := by omega
    rw [e1, e2, ih (fun x hx => hb x (List.mem_cons_of_mem _ hx)) hc (.inl hc0)]
    rfl
theorem vb_val_ne (l : List Nat) (hl : l ≠ []) : (vb (valL (l ++ [0]))).length < (l ++ [0]).length := by
  rw [valL_snoc]
  have h := valL_lt l
  obtain ⟨d, hd⟩ : ∃ d, l.length = d + 1 := ⟨l.length - 1, by have := List.length_pos_iff.2 hl; omega⟩
  rw [hd] at h
  rw [Nat.zero_mod, Nat.zero_mul, Nat.add_zero]
  have := vb_len d (valL l) h
  rw [List.length_append, hd, List.length_singleton]
  omega
/-- The bytes from a place on. -/
def bytesAt (s : ByteArray) (a n : Nat) : List Nat := ((s.data.toList.drop a).take n).map UInt8.toNat
theorem bytesAt_succ (s : ByteArray) (a n : Nat) (h : a + n < s.size) : bytesAt s a (n + 1) = bytesAt s a n ++ [(bt s ((a + n : Nat) : Int)).toNat] := by
  obtain ⟨c, e, hb⟩ := bt_get s (a + n) h
  unfold bytesAt
  rw [hb, List.take_add_one, List.map_append, List.getElem?_drop, e]
  simp
theorem bytesAt_length (s : ByteArray) (a n : Nat) (h : a + n ≤ s.size) : (bytesAt s a n).length = n := by
  unfold bytesAt
  simp
  omega
theorem extract_list (s : ByteArray) (a b : Nat) : (s.extract a b).data.toList = (s.data.toList.drop a).take (b - a) := by
  rw [ByteArray.data_extract, Array.toList_extract]
/-- What GetNum answers, r bytes being left to look at and j seen. -/
def getAt (s : ByteArray) (a : Nat) : Nat → Nat → Bool × Int × Int
  | 0, _ => (false, 0, 0)
  | r + 1, j => if a + j < s.size then (if bt s ((a + j : Nat) : Int) < 128 then (if bt s ((a + j : Nat) : Int) = 0 ∧ j ≠ 0 then (false, 0, 0) else (true, ((valL (bytesAt s a (j + 1)) : Nat) : Int), ((a + j + 1 : Nat) : Int))) else getAt s a r (j + 1)) else (false, 0, 0)
def getNum (s : ByteArray) (a : Int) : Bool × Int × Int := if a < 0 then (false, 0, 0) else getAt s a.toNat 9 0
theorem bt_extract (s : ByteArray) (a b i : Nat) (h : a + i < b) (hb : b ≤ s.size) : bt (s.extract a b) (i : Int) = bt s ((a + i : Nat) : Int) := by
  have hs : (s.extract a b).size = b - a := by rw [ByteArray.size_extract]; omega
  obtain ⟨c, e, h1⟩ := bt_get (s.extract a b) i (by omega)
  obtain ⟨c2, e2, h2⟩ := bt_get s (a + i) (by omega)
  rw [extract_list, List.getElem?_take_of_lt (by omega), List.getElem?_drop, e2] at e
  rw [h1, h2, Option.some.inj e]

theorem bits_or_u64 (a b : Nat) (ha : a < 18446744073709551616) (hb : b < 18446744073709551616) : Go.bits .or .u64 (a : Int) (b : Int) = ((a ||| b : Nat) : Int) := by
  have hx : a ||| b < 2 ^ 64 := Nat.or_lt_two_pow (by simpa using ha) (by simpa using hb)
  show IntKind.u64.wrap (((BitVec.ofInt 64 (a : Int)) ||| (BitVec.ofInt 64 (b : Int))).toNat : Int) = _
  rw [BitVec.toNat_or, BitVec.ofInt_natCast, BitVec.ofInt_natCast, BitVec.toNat_ofNat, BitVec.toNat_ofNat, Nat.mod_eq_of_lt (by omega : a < 2 ^ 64), Nat.mod_eq_of_lt (by omega : b < 2 ^ 64), IntKind.wrap_u64]
  omega
theorem and127 (b : Nat) (hb : b < 256) : Go.bits .and .u8 (b : Int) 127 = ((b % 128 : Nat) : Int) := by
  have h := bits_and_u8 b 127 hb (by omega)
  have e : b &&& 127 = b % 128 := Nat.and_two_pow_sub_one_eq_mod b 7
  rw [e] at h
  exact h
theorem pow128 (j : Nat) : 128 ^ j = 2 ^ (7 * j) := by rw [Nat.pow_mul]
theorem acc_step (v b j : Nat) (hv : v < 128 ^ j) (hb : b < 256) (hj : j ≤ 8) : Go.bits .or .u64 (v : Int) (shl .u64 (IntKind.u64.wrap (Go.bits .and .u8 (b : Int) 127)) ((7 * j : Nat) : Int)) = ((v + (b % 128) * 128 ^ j : Nat) : Int) := by
  rw [and127 b hb, u64_id (by omega) (by omega)]
  have hp : 128 ^ j ≤ 128 ^ 8 := Nat.pow_le_pow_right (by omega) hj
  have hp8 : (128 : Nat) ^ 8 = 72057594037927936 := by decide
  have hm : (b % 128) * 128 ^ j ≤ 127 * 128 ^ j := Nat.mul_le_mul_right _ (by omega)
  have hs : shl .u64 ((b % 128 : Nat) : Int) ((7 * j : Nat) : Int) = (((b % 128) * 128 ^ j : Nat) : Int) := by
    unfold shl
    rw [Int.toNat_natCast, Nat.min_eq_left (show 7 * j ≤ IntKind.bits .u64 by show 7 * j ≤ 64; omega)]
    have e : ((b % 128 : Nat) : Int) * 2 ^ (7 * j) = (((b % 128) * 128 ^ j : Nat) : Int) := by rw [pow128]; simp
    rw [e]
    exact u64_id (by omega) (by omega)
  rw [hs, bits_or_u64 _ _ (by omega) (by omega)]
  have h := Nat.two_pow_add_eq_or_of_lt (i := 7 * j) (b := v) (by rw [← pow128]; exact hv) (b % 128)
  rw [← pow128, Nat.mul_comm] at h
  rw [Nat.or_comm, ← h, Nat.add_comm]
theorem cursor_next_in (s : ByteArray) (i : Nat) (h : i < s.size) (hs : s.size ≤ 1048576) : impl_cursor_next.f s (i : Int) = some (bt s (i : Int), true, s, ((i + 1 : Nat) : Int)) := by
  unfold impl_cursor_next.f impl_cursor_left.f
  have w1 : wrap64 ((s.size : Int) - (i : Int)) = (s.size : Int) - (i : Int) := wrap64_id (by omega) (by omega)
  have w2 : wrap64 ((i : Int) + 1) = ((i + 1 : Nat) : Int) := by rw [wrap64_id (by omega) (by omega)]; rfl
  rw [if_neg (by omega), if_neg (by omega), w1, Option.bind_some]
  simp only
  rw [if_neg (by omega), if_pos (by omega), if_pos (by omega), w2]
theorem cursor_next_out (s : ByteArray) (i : Int) (h0 : i < 0 ∨ (s.size : Int) ≤ i) (hs : s.size ≤ 1048576) : impl_cursor_next.f s i = some (0, false, s, i) := by
  unfold impl_cursor_next.f impl_cursor_left.f
  by_cases h1 : i < 0
  · rw [if_pos h1, Option.bind_some]; rfl
  · rw [if_neg h1]
    by_cases h2 : i > (s.size : Int)
    · rw [if_pos h2, Option.bind_some]; rfl
    · have w1 : wrap64 ((s.size : Int) - i) = 0 := by rw [wrap64_id (by omega) (by omega)]; omega
      rw [if_neg h2, w1, Option.bind_some]; rfl
def toRead (q : Int × Bool × ByteArray × Int) : Bool × Int × Int := if q.2.1 = true then (true, q.1, q.2.2.2) else (false, 0, 0)
theorem impl_num_l0 (s : ByteArray) (hs : s.size ≤ 1048576) (a : Nat) : ∀ (r j : Nat), r + j = 9 → (j = 0 ∨ a + j ≤ s.size) →
    ∃ q, Ev (fun k => impl_cursor_num.l0 k ((valL (bytesAt s a j) : Nat) : Int) ((7 * j : Nat) : Int) s ((a + j : Nat) : Int)) q ∧ toRead q = getAt s a r j := by
  intro r
  induction r with
  | zero =>
    intro j hj _
    have : j = 9 := by omega
    subst this
    refine ⟨_, Ev.step (fun k => by rw [impl_cursor_num.l0, if_neg (by omega)]) (Ev.now _), rfl⟩
  | succ r ih =>
    intro j hj ha
    have c0 : ((7 * j : Nat) : Int) < 63 := by omega
    have c1 : (0 : Int) ≤ ((7 * j : Nat) : Int) := by omega
    by_cases h : a + j < s.size
    · have hb := bt_range s ((a + j : Nat) : Int)
      obtain ⟨b, eb⟩ := Int.eq_ofNat_of_zero_le hb.1
      have hb2 : b < 256 := by omega
      have hl := bytesAt_length s a j (by omega)
      have hv := valL_lt (bytesAt s a j)
      rw [hl] at hv
      have es := acc_step (valL (bytesAt s a j)) b j hv hb2 (by omega)
      have hV : valL (bytesAt s a j) + (b % 128) * 128 ^ j = valL (bytesAt s a (j + 1)) := by
        rw [bytesAt_succ s a j h, valL_snoc, hl, eb]; rfl
      have hV9 : valL (bytesAt s a (j + 1)) < 9223372036854775808 := by
        have h1 := valL_lt (bytesAt s a (j + 1))
        rw [bytesAt_length s a (j + 1) (by omega)] at h1
        have h2 : 128 ^ (j + 1) ≤ 128 ^ 9 := Nat.pow_le_pow_right (by omega) (by omega)
        have h3 : (128 : Nat) ^ 9 = 9223372036854775808 := by decide
        omega
      rw [hV] at es
      have w7 : IntKind.u64.wrap (((7 * j : Nat) : Int) + 7) = ((7 * (j + 1) : Nat) : Int) := by rw [u64_id (by omega) (by omega)]; omega
      have wV : wrap64 ((valL (bytesAt s a (j + 1)) : Nat) : Int) = ((valL (bytesAt s a (j + 1)) : Nat) : Int) := wrap64_id (by omega) (by omega)
      have en := cursor_next_in s (a + j) h hs
      rw [eb] at en
      unfold getAt
      rw [if_pos h, eb]
      by_cases hlt : (b : Int) < 128
      · rw [if_pos hlt]
        by_cases hz : (b : Int) = 0
        · refine ⟨(((valL (bytesAt s a (j + 1)) : Nat) : Int), (((7 * j : Nat) : Int) == 0), s, ((a + j + 1 : Nat) : Int)), Ev.step (fun k => by rw [impl_cursor_num.l0, if_pos c0, en, Option.bind_some, if_pos rfl, if_pos c1, if_pos hlt, if_pos hz, es, wV]) (Ev.now _), ?_⟩
          unfold toRead
          by_cases hj0 : j = 0
          · subst hj0
            rw [if_pos (by simp), if_neg (by simp)]
          · rw [if_neg (by simp; omega), if_pos ⟨hz, hj0⟩]
        · refine ⟨(((valL (bytesAt s a (j + 1)) : Nat) : Int), true, s, ((a + j + 1 : Nat) : Int)), Ev.step (fun k => by rw [impl_cursor_num.l0, if_pos c0, en, Option.bind_some, if_pos rfl, if_pos c1, if_pos hlt, if_neg hz, es, wV]) (Ev.now _), ?_⟩
          rw [if_neg (fun h => hz h.1)]
          rfl
      · rw [if_neg hlt]
        obtain ⟨q, e, hq⟩ := ih (j + 1) (by omega) (.inr (by omega))
        exact ⟨q, Ev.step (fun k => by rw [impl_cursor_num.l0, if_pos c0, en, Option.bind_some, if_pos rfl, if_pos c1, if_neg hlt, es, w7]; rfl) e, hq⟩
    · have en := cursor_next_out s ((a + j : Nat) : Int) (.inr (by omega)) hs
      refine ⟨(0, false, s, ((a + j : Nat) : Int)), Ev.step (fun k => by rw [impl_cursor_num.l0, if_pos c0, en, Option.bind_some, if_neg (by simp)]) (Ev.now _), ?_⟩
      unfold getAt
      rw [if_neg h]
      rfl
theorem impl_getNum (s : ByteArray) (hs : s.size ≤ 1048576) (a : Int) : Ev (fun k => impl_GetNum.f k s a) (getNum s a) := by
  refine Ev.congr (fun k => by rw [impl_GetNum.f, impl_cursor_num.f]) ?_
  unfold getNum
  by_cases h0 : a < 0
  · rw [if_pos h0]
    have en := cursor_next_out s a (.inl h0) hs
    have e : Ev (fun k => impl_cursor_num.l0 k 0 0 s a) (0, false, s, a) := Ev.step (fun k => by rw [impl_cursor_num.l0, if_pos (by omega), en, Option.bind_some, if_neg (by simp)]) (Ev.now _)
    exact Ev.bind e (Ev.neg (by simp) (Ev.now _))
  · rw [if_neg h0]
    obtain ⟨q, e, hq⟩ := impl_num_l0 s hs a.toNat 9 0 rfl (.inl rfl)
    have e' : Ev (fun k => impl_cursor_num.l0 k 0 0 s a) q := by
      have e0 : bytesAt s a.toNat 0 = [] := rfl
      have ea : ((a.toNat + 0 : Nat) : Int) = a := by omega
      rw [e0, ea] at e
      exact e
    refine Ev.bind e' ?_
    rw [← hq]
    by_cases hb : q.2.1 = true
    · refine Ev.pos hb (Ev.give ?_)
      unfold toRead
      rw [if_pos hb]
    · refine Ev.neg hb (Ev.give ?_)
      unfold toRead
      rw [if_neg hb]

theorem spec_l1_loop (s : ByteArray) (t : ByteArray) (L : List Nat) (ht : t.size = L.length) (hL : ∀ i, (h : i < L.length) → bt t (i : Int) = ((L[i] : Nat) : Int)) (hl9 : L.length ≤ 9) (a n : Int) (R : Bool × Int × Int)
    (hfin : Ev (fun k => (spec_PutNum.f k ((valL L : Nat) : Int)).bind fun t111 => (if t111.toList = t.toList then (some (true, ((valL L : Nat) : Int), wrap64 (a + n))) else (some (false, 0, 0)))) R) :
    ∀ (d : Nat), d ≤ L.length → Ev (fun k => spec_GetNum.l1 k a n t ((valL (L.drop d) : Nat) : Int) ((d : Int) - 1)) R := by
  intro d
  induction d with
  | zero =>
    intro _
    exact Ev.step (fun k => by rw [spec_GetNum.l1, if_neg (by omega), List.drop_zero]) hfin
  | succ d ih =>
    intro hd
    have hlt : d < L.length := by omega
    have hb := hL d hlt
    have e1 : ((d + 1 : Nat) : Int) - 1 = (d : Int) := by omega
    have hr := bt_range t (d : Int)
    have hv := valL_lt (L.drop (d + 1))
    have hp : 128 ^ (L.drop (d + 1)).length ≤ 128 ^ 8 := Nat.pow_le_pow_right (by omega) (by rw [List.length_drop]; omega)
    have hp8 : (128 : Nat) ^ 8 = 72057594037927936 := by decide
    have ev : valL (L.drop d) = L[d] % 128 + 128 * valL (L.drop (d + 1)) := by rw [List.drop_eq_getElem_cons hlt, valL]
    have w : wrap64 ((wrap64 (((valL (L.drop (d + 1)) : Nat) : Int) * 128)) + (Int.tmod (wrap64 (bt t (d : Int))) 128)) = ((valL (L.drop d) : Nat) : Int) := by
      rw [hb] at hr ⊢
      rw [wrap64_id (x := ((valL (L.drop (d + 1)) : Nat) : Int) * 128) (by omega) (by omega), wrap64_id (x := ((L[d] : Nat) : Int)) (by omega) (by omega), Int.tmod_eq_emod_of_nonneg (by omega), wrap64_id (by omega) (by omega), ev]
      omega
    have w2 : wrap64 ((d : Int) - 1) = (d : Int) - 1 := wrap64_id (by omega) (by omega)
    have c1 : (d : Int) ≥ 0 := by omega
    have c2 : (0 : Int) ≤ (d : Int) := by omega
    have c3 : (d : Int) < (t.size : Int) := by omega
    rw [e1]
    exact Ev.step (fun k => by rw [spec_GetNum.l1, if_pos c1, if_pos c2, if_pos c3, w, w2]) (ih (by omega))

theorem bytesAt_eq (s : ByteArray) (a n : Nat) : (bytesAt s a n).map (fun b : Nat => (b : Int)) = bI ((s.data.toList.drop a).take n) := by
  unfold bytesAt bI
  rw [List.map_map]
  rfl
theorem extract_mkB (s : ByteArray) (a n : Nat) : s.extract a (a + n) = mkB ((s.data.toList.drop a).take n) := by
  rw [← mkB_data (s.extract a (a + n)), extract_list, Nat.add_sub_cancel_left]
theorem spec_fin (s : ByteArray) (hs : s.size ≤ 1048576) (a j : Nat) (hj : j ≤ 8) (h : a + j < s.size) (hbig : ∀ b ∈ bytesAt s a j, 128 ≤ b ∧ b < 256) (hlt : bt s ((a + j : Nat) : Int) < 128) :
    Ev (fun k => (spec_PutNum.f k ((valL (bytesAt s a (j + 1)) : Nat) : Int)).bind fun t111 => (if t111.toList = (s.extract a (a + (j + 1))).toList then (some (true, ((valL (bytesAt s a (j + 1)) : Nat) : Int), wrap64 ((a : Int) + ((j + 1 : Nat) : Int)))) else (some (false, 0, 0))))
      (if bt s ((a + j : Nat) : Int) = 0 ∧ j ≠ 0 then (false, 0, 0) else (true, ((valL (bytesAt s a (j + 1)) : Nat) : Int), ((a + j + 1 : Nat) : Int))) := by
  have hr := bt_range s ((a + j : Nat) : Int)
  obtain ⟨c, ec⟩ := Int.eq_ofNat_of_zero_le hr.1
  have hL : bytesAt s a (j + 1) = bytesAt s a j ++ [c] := by rw [bytesAt_succ s a j h, ec]; rfl
  have hl := bytesAt_length s a j (by omega)
  have hV9 : valL (bytesAt s a (j + 1)) < 9223372036854775808 := by
    have h1 := valL_lt (bytesAt s a (j + 1))
    rw [bytesAt_length s a (j + 1) (by omega)] at h1
    have h2 : 128 ^ (j + 1) ≤ 128 ^ 9 := Nat.pow_le_pow_right (by omega) (by omega)
    have h3 : (128 : Nat) ^ 9 = 9223372036854775808 := by decide
    omega
  have hw : wrap64 ((a : Int) + ((j + 1 : Nat) : Int)) = ((a + j + 1 : Nat) : Int) := by rw [wrap64_id (by omega) (by omega)]; omega
  rw [ec] at hlt ⊢
  have hc : c < 128 := by omega
  rw [hw]
  refine Ev.bind (spec_putNum _ (by omega)) ?_
  have hp : putNum ((valL (bytesAt s a (j + 1)) : Nat) : Int) = strOfNums (vb (valL (bytesAt s a (j + 1)))) := by unfold putNum; rw [if_neg (by omega), Int.toNat_natCast]
  rw [hp, extract_mkB]
  by_cases hz : c ≠ 0 ∨ bytesAt s a j = []
  · have hv := vb_val (bytesAt s a j) c hbig hc hz
    rw [← hL, bytesAt_eq] at hv
    rw [hv, strOf_bI]
    refine Ev.pos rfl (Ev.give ?_)
    rw [if_neg]
    rintro ⟨h0, hj0⟩
    rcases hz with hz | hz
    · omega
    · rw [hz] at hl; exact hj0 hl.symm
  · have hc0 : c = 0 := by by_cases h0 : c = 0; exact h0; exact absurd (.inl h0) hz
    have hne : bytesAt s a j ≠ [] := fun h0 => hz (.inr h0)
    subst hc0
    have hv := vb_val_ne (bytesAt s a j) hne
    rw [← hL] at hv
    refine Ev.neg (fun he => ?_) (Ev.give ?_)
    · have hz2 : (strOfNums (vb (valL (bytesAt s a (j + 1))))).size = (mkB ((s.data.toList.drop a).take (j + 1))).size := by
        rw [ByteArray.toList_eq, ByteArray.toList_eq] at he
        have := congrArg List.length he
        simpa using this
      rw [size_strOfNums, mkB_size] at hz2
      rw [bytesAt_length s a (j + 1) (by omega)] at hv
      rw [List.length_take, List.length_drop] at hz2
      have hd : s.data.toList.length = s.size := data_len s
      omega
    · rw [if_pos]
      refine ⟨rfl, fun h0 => hne ?_⟩
      subst h0
      rfl
theorem spec_l0 (s : ByteArray) (hs : s.size ≤ 1048576) (a : Nat) : ∀ (r j : Nat), r + j = 9 → (j = 0 ∨ a + j ≤ s.size) → (∀ b ∈ bytesAt s a j, 128 ≤ b ∧ b < 256) → (a < s.size) →
    Ev (fun k => spec_GetNum.l0 k s (a : Int) ((j + 1 : Nat) : Int)) (getAt s a r j) := by
  intro r
  induction r with
  | zero =>
    intro j hj _ _ _
    have : j = 9 := by omega
    subst this
    refine Ev.step (fun k => by rw [spec_GetNum.l0, if_neg (by omega)]) ?_
    refine Ev.step (fun k => by rw [spec_GetNum.j2, if_neg (by simp)]) (Ev.give ?_)
    rfl
  | succ r ih =>
    intro j hj ha hbig has
    have c0 : ((j + 1 : Nat) : Int) ≤ 9 := by omega
    have hw : wrap64 ((a : Int) + ((j + 1 : Nat) : Int)) = ((a + (j + 1) : Nat) : Int) := by rw [wrap64_id (by omega) (by omega)]; omega
    have hw1 : wrap64 (((j + 1 : Nat) : Int) - 1) = (j : Int) := by rw [wrap64_id (by omega) (by omega)]; omega
    have hw2 : wrap64 (((j + 1 : Nat) : Int) + 1) = ((j + 1 + 1 : Nat) : Int) := by rw [wrap64_id (by omega) (by omega)]; rfl
    refine Ev.step (fun k => by rw [spec_GetNum.l0, if_pos c0, hw]) ?_
    unfold getAt
    by_cases h : a + j < s.size
    · rw [if_pos h]
      have hx : (s.extract a (a + (j + 1))).size = j + 1 := by rw [ByteArray.size_extract]; omega
      have d0 : decide (((a + (j + 1) : Nat) : Int) ≤ (s.size : Int)) = true := decide_eq_true (by omega)
      have d1 : (0 : Int) ≤ (a : Int) := by omega
      have d2 : (a : Int) ≤ ((a + (j + 1) : Nat) : Int) := by omega
      have d3 : ((a + (j + 1) : Nat) : Int) ≤ (s.size : Int) := by omega
      have d4 : (0 : Int) ≤ (j : Int) := by omega
      have d5 : (j : Int) < ((s.extract a (a + (j + 1))).size : Int) := by omega
      have hbt := bt_extract s a (a + (j + 1)) j (by omega) (by omega)
      have hr := bt_range s ((a + j : Nat) : Int)
      refine Ev.step (fun k => by rw [spec_GetNum.j2, if_pos d0, if_pos d1, hw, if_pos d2, if_pos d3, hw1, if_pos d4, Int.toNat_natCast, Int.toNat_natCast, if_pos d5, hbt, hw2]) ?_
      by_cases hlt : bt s ((a + j : Nat) : Int) < 128
      · rw [if_pos hlt]
        have hgt : ¬ bt s ((a + j : Nat) : Int) > 127 := by omega
        refine Ev.neg hgt ?_
        have hl := bytesAt_length s a (j + 1) (by omega)
        have := spec_l1_loop s (s.extract a (a + (j + 1))) (bytesAt s a (j + 1)) (by rw [hl, hx]) (fun i hi => ?_) (by omega) (a : Int) ((j + 1 : Nat) : Int) _ (spec_fin s hs a j (by omega) h hbig hlt) (j + 1) (by omega)
        · rw [List.drop_eq_nil_of_le (by omega)] at this
          have e1 : ((j + 1 : Nat) : Int) - 1 = (j : Int) := by omega
          rw [e1] at this
          exact this
        · rw [bt_extract s a (a + (j + 1)) i (by omega) (by omega)]
          obtain ⟨c, e, hb⟩ := bt_get s (a + i) (by omega)
          rw [hb]
          have e2 : (bytesAt s a (j + 1))[i]? = some c.toNat := by
            unfold bytesAt
            rw [List.getElem?_map, List.getElem?_take_of_lt (by omega), List.getElem?_drop, e]
            rfl
          rw [List.getElem?_eq_getElem hi] at e2
          rw [Option.some.inj e2]
      · rw [if_neg hlt]
        have hgt : bt s ((a + j : Nat) : Int) > 127 := by omega
        refine Ev.pos hgt (ih (j + 1) (by omega) (.inr (by omega)) ?_ has)
        rw [bytesAt_succ s a j h]
        intro b hb
        rw [List.mem_append, List.mem_singleton] at hb
        rcases hb with hb | hb
        · exact hbig b hb
        · subst hb; omega
    · rw [if_neg h]
      refine Ev.step (fun k => by rw [spec_GetNum.j2, if_neg (by simp; omega)]) (Ev.now _)
theorem spec_getNum (s : ByteArray) (hs : s.size ≤ 1048576) (a : Int) : Ev (fun k => spec_GetNum.f k s a) (getNum s a) := by
  refine Ev.congr (fun k => by rw [spec_GetNum.f]) ?_
  unfold getNum
  by_cases h0 : a < 0
  · rw [if_pos h0]
    refine Ev.pos h0 ?_
    exact Ev.step (fun k => by rw [spec_GetNum.j0, if_pos rfl]) (Ev.now _)
  · rw [if_neg h0]
    refine Ev.neg h0 ?_
    by_cases h1 : a ≥ (s.size : Int)
    · refine Ev.step (fun k => by rw [spec_GetNum.j0, if_pos (by simpa using h1)]) (Ev.give ?_)
      unfold getAt
      rw [if_neg (by omega)]
    · refine Ev.step (fun k => by rw [spec_GetNum.j0, if_neg (by simpa using h1)]) ?_
      have := spec_l0 s hs a.toNat 9 0 rfl (.inl rfl) (by intro b hb; simp [bytesAt] at hb) (by omega)
      have ea : ((a.toNat : Nat) : Int) = a := by omega
      rw [ea] at this
      exact this

theorem eqNumRead_self (a : Bool × Int × Int) : laws_eqNumRead.f a.1 a.2.1 a.2.2 a.1 a.2.1 a.2.2 = some true := by
  unfold laws_eqNumRead.f
  simp
theorem FnExactGetNum : laws_FnExactGetNum.Pure := by
  intro t a ht ha
  refine Ev.rounds (Ev.congr (fun k => by rw [laws_FnExactGetNum.f]) ?_)
  by_cases h0 : (t.size : Int) > 1048576
  · exact Ev.pos h0 (Ev.now _)
  · refine Ev.neg h0 ?_
    refine Ev.bind (spec_getNum t (by omega) a) (Ev.bind (impl_getNum t (by omega) a) (Ev.bindS (eqNumRead_self _) (Ev.pos rfl (Ev.now _))))

end Go.Proofs.Ytnailhkgnccloaa.Pure
