/- The statement FnExactWriteRequest over numbers and lists alone: the program's WriteRequest and the reference's write the same bytes, and the argument is as it was. No condition. -/
import Derived.Test.YtepnjhmdcaolkaaDoorQFnExactWriteRequestx14
import Derived.Laws.BitsAllLaws
import Derived.Laws.Bits64
import Derived.Test.YtepnjhmdcaolkaaDoorGoodFnExactWriteRequest
import Derived.Laws.Strings
import Derived.Lib.Join
import Derived.Lib.LaidTab
import Derived.Lib.ItoaNum
set_option linter.all false
namespace Go.Proofs.YtepnjhmdcaolkaaDoor.Pure
open Go.RowKit Go.Proofs.YtepnjhmdcaolkaaDoor.QFnExactWriteRequest Go.Proofs.YtepnjhmdcaolkaaDoorW.PrintWords Go.Proofs.YtepnjhmdcaolkaaDoorW.PrintLast Go.Proofs.YtepnjhmdcaolkaaDoorW.PrintMore

/-! Small lemmas on wraps, rounds and lists. -/
theorem wrap64_id {x : Int} (h0 : -9223372036854775808 ≤ x) (h1 : x < 9223372036854775808) : wrap64 x = x := by unfold wrap64; omega
theorem u64_id {x : Int} (h0 : 0 ≤ x) (h1 : x < 18446744073709551616) : IntKind.u64.wrap x = x := by rw [IntKind.wrap_u64]; omega
theorem Ev.pos {α : Type} {c : Prop} [Decidable c] {f g : Nat → Option α} {r : α} (h : c) (e : Ev f r) : Ev (fun k => if c then f k else g k) r := by simpa [h] using e
theorem Ev.neg {α : Type} {c : Prop} [Decidable c] {f g : Nat → Option α} {r : α} (h : ¬ c) (e : Ev g r) : Ev (fun k => if c then f k else g k) r := by simpa [h] using e
theorem Ev.bindS {α β : Type} {g : Option α} {f : Nat → α → Option β} {a : α} {r : β} (h : g = some a) (e : Ev (fun k => f k a) r) : Ev (fun k => g.bind (f k)) r := by subst h; simpa using e
theorem Ev.give {α : Type} {r s : α} (h : s = r) : Ev (fun _ => some s) r := by subst h; exact Ev.now _
theorem bt_drop (s : ByteArray) (i : Nat) (h : i < s.size) : ∃ c : UInt8, s.data.toList.drop i = c :: s.data.toList.drop (i + 1) ∧ bt s (i : Int) = (c.toNat : Int) := by
  have hl : i < s.data.toList.length := by simpa using h
  refine ⟨s.data.toList[i], List.drop_eq_getElem_cons hl, ?_⟩
  unfold bt
  rw [dif_pos (by simpa using h)]
  simp [ByteArray.getElem_eq_getElem_data]
theorem drop_end (s : ByteArray) (i : Nat) (h : s.size ≤ i) : s.data.toList.drop i = [] := List.drop_eq_nil_of_le (by simpa using h)
theorem size_strOfNums (l : List Int) : (strOfNums l).size = l.length := by
  show (strOfNums l).data.size = l.length
  simp [strOfNums]
theorem i64_range {n : Int} (h : (Lit.int .i64 n).wf = true) : -9223372036854775808 ≤ n ∧ n < 9223372036854775808 := by
  simp only [Lit.wf, IntKind.min, IntKind.max, IntKind.signed, IntKind.bits, Bool.and_eq_true, decide_eq_true_eq, if_true] at h; omega
theorem byte_eq_int (c d : UInt8) : ((c.toNat : Int) = (d.toNat : Int)) ↔ c = d := by
  constructor
  · intro h; exact UInt8.toNat_inj.1 (by omega)
  · rintro rfl; rfl
theorem byte_eq_lit (c : UInt8) (n : Nat) (hn : n < 256) : ((c.toNat : Int) = (n : Int)) ↔ c = UInt8.ofNat n := by
  rw [← byte_eq_int]
  have : (UInt8.ofNat n).toNat = n := by simp [UInt8.toNat_ofNat']; omega
  rw [this]
theorem bt_get (s : ByteArray) (i : Nat) (h : i < s.size) : ∃ c : UInt8, s.data.toList[i]? = some c ∧ bt s (i : Int) = (c.toNat : Int) := by
  obtain ⟨c, e, hb⟩ := bt_drop s i h
  refine ⟨c, ?_, hb⟩
  have : (s.data.toList.drop i)[0]? = some c := by rw [e]; rfl
  simpa using this

/-! Go's bits at numbers from 0 on. -/
theorem bits_xor_i64 (a b : Nat) (ha : a < 9223372036854775808) (hb : b < 9223372036854775808) : Go.bits .xor .i64 (a : Int) (b : Int) = ((a ^^^ b : Nat) : Int) := by
  have hx : a ^^^ b < 2 ^ 63 := Nat.xor_lt_two_pow (by simpa using ha) (by simpa using hb)
  show IntKind.i64.wrap (((BitVec.ofInt 64 (a : Int)) ^^^ (BitVec.ofInt 64 (b : Int))).toNat : Int) = _
  rw [BitVec.toNat_xor, BitVec.ofInt_natCast, BitVec.ofInt_natCast, BitVec.toNat_ofNat, BitVec.toNat_ofNat, Nat.mod_eq_of_lt (by omega : a < 2 ^ 64), Nat.mod_eq_of_lt (by omega : b < 2 ^ 64), IntKind.wrap_i64]
  omega
theorem bits_and_i64 (a b : Nat) (ha : a < 9223372036854775808) (hb : b < 9223372036854775808) : Go.bits .and .i64 (a : Int) (b : Int) = ((a &&& b : Nat) : Int) := by
  have hx : a &&& b < 2 ^ 63 := Nat.and_lt_two_pow _ (by simpa using hb)
  show IntKind.i64.wrap (((BitVec.ofInt 64 (a : Int)) &&& (BitVec.ofInt 64 (b : Int))).toNat : Int) = _
  rw [BitVec.toNat_and, BitVec.ofInt_natCast, BitVec.ofInt_natCast, BitVec.toNat_ofNat, BitVec.toNat_ofNat, Nat.mod_eq_of_lt (by omega : a < 2 ^ 64), Nat.mod_eq_of_lt (by omega : b < 2 ^ 64), IntKind.wrap_i64]
  omega
theorem bits_xor_u8 (a b : Nat) (ha : a < 256) (hb : b < 256) : Go.bits .xor .u8 (a : Int) (b : Int) = ((a ^^^ b : Nat) : Int) := by
  have hx : a ^^^ b < 2 ^ 8 := Nat.xor_lt_two_pow (by simpa using ha) (by simpa using hb)
  show IntKind.u8.wrap (((BitVec.ofInt 8 (a : Int)) ^^^ (BitVec.ofInt 8 (b : Int))).toNat : Int) = _
  rw [BitVec.toNat_xor, BitVec.ofInt_natCast, BitVec.ofInt_natCast, BitVec.toNat_ofNat, BitVec.toNat_ofNat, Nat.mod_eq_of_lt (by omega : a < 2 ^ 8), Nat.mod_eq_of_lt (by omega : b < 2 ^ 8), IntKind.wrap_u8]
  omega
theorem bits_and_u8 (a b : Nat) (ha : a < 256) (hb : b < 256) : Go.bits .and .u8 (a : Int) (b : Int) = ((a &&& b : Nat) : Int) := by
  have hx : a &&& b < 2 ^ 8 := Nat.and_lt_two_pow _ (by simpa using hb)
  show IntKind.u8.wrap (((BitVec.ofInt 8 (a : Int)) &&& (BitVec.ofInt 8 (b : Int))).toNat : Int) = _
  rw [BitVec.toNat_and, BitVec.ofInt_natCast, BitVec.ofInt_natCast, BitVec.toNat_ofNat, BitVec.toNat_ofNat, Nat.mod_eq_of_lt (by omega : a < 2 ^ 8), Nat.mod_eq_of_lt (by omega : b < 2 ^ 8), IntKind.wrap_u8]
  omega
theorem bits_xor_u16 (a b : Nat) (ha : a < 65536) (hb : b < 65536) : Go.bits .xor .u16 (a : Int) (b : Int) = ((a ^^^ b : Nat) : Int) := by
  have hx : a ^^^ b < 2 ^ 16 := Nat.xor_lt_two_pow (by simpa using ha) (by simpa using hb)
  show IntKind.u16.wrap (((BitVec.ofInt 16 (a : Int)) ^^^ (BitVec.ofInt 16 (b : Int))).toNat : Int) = _
  rw [BitVec.toNat_xor, BitVec.ofInt_natCast, BitVec.ofInt_natCast, BitVec.toNat_ofNat, BitVec.toNat_ofNat, Nat.mod_eq_of_lt (by omega : a < 2 ^ 16), Nat.mod_eq_of_lt (by omega : b < 2 ^ 16), IntKind.wrap_u16]
  omega
theorem bits_and_u16 (a b : Nat) (ha : a < 65536) (hb : b < 65536) : Go.bits .and .u16 (a : Int) (b : Int) = ((a &&& b : Nat) : Int) := by
  have hx : a &&& b < 2 ^ 16 := Nat.and_lt_two_pow _ (by simpa using hb)
  show IntKind.u16.wrap (((BitVec.ofInt 16 (a : Int)) &&& (BitVec.ofInt 16 (b : Int))).toNat : Int) = _
  rw [BitVec.toNat_and, BitVec.ofInt_natCast, BitVec.ofInt_natCast, BitVec.toNat_ofNat, BitVec.toNat_ofNat, Nat.mod_eq_of_lt (by omega : a < 2 ^ 16), Nat.mod_eq_of_lt (by omega : b < 2 ^ 16), IntKind.wrap_u16]
  omega
theorem and_top (w a : Nat) (h : a < 2 ^ (w + 1)) : a &&& 2 ^ w = 0 ↔ a < 2 ^ w := by
  have hp : 0 < 2 ^ w := Nat.two_pow_pos w
  have ht : a.testBit w = decide (2 ^ w ≤ a) := by
    rw [Nat.testBit_eq_decide_div_mod_eq]
    have h2 : a / 2 ^ w < 2 := Nat.div_lt_of_lt_mul (by rw [Nat.pow_succ] at h; exact h)
    by_cases hc : 2 ^ w ≤ a
    · have : 1 ≤ a / 2 ^ w := (Nat.le_div_iff_mul_le hp).2 (by omega)
      have e : a / 2 ^ w = 1 := by omega
      simp [e, hc]
    · have e : a / 2 ^ w = 0 := Nat.div_eq_of_lt (by omega)
      simp [e, hc]
  constructor
  · intro h0
    have hb : (a &&& 2 ^ w).testBit w = false := by rw [h0]; simp
    rw [Nat.testBit_and, Nat.testBit_two_pow_self, Bool.and_true, ht] at hb
    simpa using hb
  · intro hl
    apply Nat.eq_of_testBit_eq
    intro i
    rw [Nat.testBit_and, Nat.zero_testBit, Nat.testBit_two_pow]
    by_cases hi : w = i
    · subst hi
      rw [ht]; simp; omega
    · simp [hi]

/-! Bytes as the program's numbers, and as texts. -/
def bI (o : List UInt8) : List Int := o.map fun c => (c.toNat : Int)
def mkB (o : List UInt8) : ByteArray := ⟨o.toArray⟩
theorem strOf_bI (o : List UInt8) : strOfNums (bI o) = mkB o := by
  unfold strOfNums bI mkB
  congr 1
  rw [List.map_map]
  congr 1
  conv => rhs; rw [← List.map_id o]
  apply List.map_congr_left
  intro c _
  simp
theorem bI_snoc (o : List UInt8) (c : UInt8) : bI o ++ [(c.toNat : Int)] = bI (o ++ [c]) := by simp [bI]
theorem bI_app (o p : List UInt8) : bI o ++ bI p = bI (o ++ p) := by simp [bI]
theorem bI_length (o : List UInt8) : (bI o).length = o.length := by simp [bI]
theorem mkB_list (o : List UInt8) : (mkB o).data.toList = o := rfl
theorem mkB_toList (o : List UInt8) : (mkB o).toList = o := by rw [ByteArray.toList_eq]; rfl
theorem mkB_size (o : List UInt8) : (mkB o).size = o.length := by show o.toArray.size = _; simp
theorem mkB_data (s : ByteArray) : mkB s.data.toList = s := by unfold mkB; simp
theorem data_len (s : ByteArray) : s.data.toList.length = s.size := by simp
/-- Two bytes on, where there are. -/
theorem bt_next (s : ByteArray) (i : Nat) (h : i < s.size) : ∃ c : UInt8, s.data.toList.drop i = c :: s.data.toList.drop (i + 1) ∧ bt s (i : Int) = (c.toNat : Int) := bt_drop s i h

/-! Escaped texts: what is not safe stands as % and two digits. -/
def safeB (c : UInt8) : Bool := (97 ≤ c.toNat && c.toNat ≤ 122) || (65 ≤ c.toNat && c.toNat ≤ 90) || (48 ≤ c.toNat && c.toNat ≤ 57) || c.toNat == 45 || c.toNat == 95 || c.toNat == 46 || c.toNat == 47
/-- The digit of a number below 16, in capitals. -/
def upD (n : Nat) : UInt8 := UInt8.ofNat (if n < 10 then 48 + n else 55 + n)
/-- The number of a digit, or none. -/
def unD (c : UInt8) : Option Nat := if 48 ≤ c.toNat ∧ c.toNat ≤ 57 then some (c.toNat - 48) else if 65 ≤ c.toNat ∧ c.toNat ≤ 70 then some (c.toNat - 55) else none
def esc1 (c : UInt8) : List UInt8 := if safeB c = true then [c] else [37, upD (c.toNat / 16), upD (c.toNat % 16)]
def escL : List UInt8 → List UInt8
  | [] => []
  | c :: r => esc1 c ++ escL r
theorem unD_lt {c : UInt8} {n : Nat} (h : unD c = some n) : n < 16 := by
  unfold unD at h
  split at h
  · cases h; omega
  · split at h
    · cases h; omega
    · cases h
theorem unD_up {c : UInt8} {n : Nat} (h : unD c = some n) : upD n = c := by
  unfold unD at h
  unfold upD
  apply UInt8.toNat_inj.1
  have hc := c.toNat_lt
  split at h
  · cases h; rw [if_pos (by omega), UInt8.toNat_ofNat']; omega
  · split at h
    · cases h; rw [if_neg (by omega), UInt8.toNat_ofNat']; omega
    · cases h
theorem upD_un (n : Nat) (h : n < 16) : unD (upD n) = some n := by
  have key : ∀ m : Fin 16, unD (upD m.val) = some m.val := by decide
  exact key ⟨n, h⟩
theorem safe37 : safeB 37 = false := by decide
theorem nib (a b : Nat) (ha : a < 16) (hb : b < 16) : (UInt8.ofNat (a * 16 + b)).toNat = a * 16 + b := by rw [UInt8.toNat_ofNat']; omega
/-- Read loosely. -/
def decL : List UInt8 → List UInt8
  | [] => []
  | [c] => [c]
  | [c, d] => [c, d]
  | c :: a :: b :: r =>
    if c = 37 then
      match unD a, unD b with
      | some x, some y => UInt8.ofNat (x * 16 + y) :: decL r
      | _, _ => c :: decL (a :: b :: r)
    else c :: decL (a :: b :: r)
/-- Read strictly. -/
def unescL : List UInt8 → Option (List UInt8)
  | [] => some []
  | [c] => if safeB c = true then some [c] else none
  | [c, d] => if safeB c = true then (if safeB d = true then some [c, d] else none) else none
  | c :: a :: b :: r =>
    if safeB c = true then (unescL (a :: b :: r)).map (c :: ·)
    else if c = 37 then
      match unD a, unD b with
      | some x, some y => if safeB (UInt8.ofNat (x * 16 + y)) = true then none else (unescL r).map (UInt8.ofNat (x * 16 + y) :: ·)
      | _, _ => none
    else none
theorem unescL_safe {c : UInt8} (h : safeB c = true) (r : List UInt8) : unescL (c :: r) = (unescL r).map (c :: ·) := by
  match r with
  | [] => show (if safeB c = true then some [c] else none) = _; rw [if_pos h]; rfl
  | [d] =>
    rw [unescL, unescL, if_pos h]
    by_cases hd : safeB d = true
    · rw [if_pos hd, if_pos hd]; rfl
    · rw [if_neg hd, if_neg hd]; rfl
  | a :: b :: r => rw [unescL, if_pos h]
theorem unescL_odd {c : UInt8} (h : ¬ safeB c = true) (h37 : ¬ c = 37) (r : List UInt8) : unescL (c :: r) = none := by
  match r with
  | [] => rw [unescL, if_neg h]
  | [d] => rw [unescL, if_neg h]
  | a :: b :: r => rw [unescL, if_neg h, if_neg h37]
theorem decL_plain {c : UInt8} (h37 : ¬ c = 37) (r : List UInt8) : decL (c :: r) = c :: decL r := by
  match r with
  | [] => rfl
  | [d] => rfl
  | a :: b :: r => rw [decL, if_neg h37]
theorem not37 {c : UInt8} (h : safeB c = true) : ¬ c = 37 := fun e => by rw [e, safe37] at h; cases h
theorem esc1_nib {x y : Nat} (hx : x < 16) (hy : y < 16) (h : safeB (UInt8.ofNat (x * 16 + y)) = false) : esc1 (UInt8.ofNat (x * 16 + y)) = [37, upD x, upD y] := by
  unfold esc1
  rw [if_neg (by rw [h]; decide), nib x y hx hy]
  rw [show (x * 16 + y) / 16 = x by omega, show (x * 16 + y) % 16 = y by omega]
/-- What is read strictly is what is read loosely, and its escaped form is the text. -/
theorem unescL_some : ∀ (n : Nat) (t o : List UInt8), t.length ≤ n → unescL t = some o → decL t = o ∧ escL o = t := by
  intro n
  induction n with
  | zero =>
    intro t o hn h
    have : t = [] := List.eq_nil_of_length_eq_zero (by omega)
    subst this
    simp only [unescL, Option.some.injEq] at h
    subst h
    exact ⟨rfl, rfl⟩
  | succ n ih =>
    intro t o hn h
    match t, h with
    | [], h =>
      simp only [unescL, Option.some.injEq] at h
      subst h
      exact ⟨rfl, rfl⟩
    | c :: r, h =>
      by_cases hs : safeB c = true
      · rw [unescL_safe hs] at h
        obtain ⟨o', ho', rfl⟩ := Option.map_eq_some_iff.1 h
        obtain ⟨h1, h2⟩ := ih r o' (by simp at hn; omega) ho'
        refine ⟨by rw [decL_plain (not37 hs), h1], ?_⟩
        rw [escL, h2]; unfold esc1; rw [if_pos hs]; rfl
      · by_cases hc : c = 37
        · subst hc
          match r, h, hn with
          | [], h, _ => rw [unescL, if_neg hs] at h; cases h
          | [a], h, _ => rw [unescL, if_neg hs] at h; cases h
          | a :: b :: r', h, hn =>
            rw [unescL, if_neg hs, if_pos rfl] at h
            match ha : unD a, hb : unD b with
            | none, none => rw [ha, hb] at h; cases h
            | none, some _ => rw [ha, hb] at h; cases h
            | some _, none => rw [ha, hb] at h; cases h
            | some x, some y =>
              rw [ha, hb] at h
              simp only at h
              by_cases hv : safeB (UInt8.ofNat (x * 16 + y)) = true
              · rw [if_pos hv] at h; cases h
              · rw [if_neg hv] at h
                obtain ⟨o', ho', rfl⟩ := Option.map_eq_some_iff.1 h
                obtain ⟨h1, h2⟩ := ih r' o' (by simp at hn; omega) ho'
                refine ⟨?_, ?_⟩
                · rw [decL, if_pos rfl, ha, hb]; simp only; rw [h1]
                · rw [escL, h2, esc1_nib (unD_lt ha) (unD_lt hb) (Bool.eq_false_iff.2 hv), unD_up ha, unD_up hb]; rfl
        · rw [unescL_odd hs hc] at h; cases h
/-- Where the loose reading's escaped form is the text, the strict reading reads it. -/
theorem unescL_of : ∀ (n : Nat) (t : List UInt8), t.length ≤ n → escL (decL t) = t → unescL t = some (decL t) := by
  intro n
  induction n with
  | zero =>
    intro t hn h
    have : t = [] := List.eq_nil_of_length_eq_zero (by omega)
    subst this; rfl
  | succ n ih =>
    intro t hn h
    -- the first byte stays as it is
    have plain : ∀ (c : UInt8) (r : List UInt8), t = c :: r → decL t = c :: decL r → (c = 37 → ∀ a b r', r = a :: b :: r' → ¬ ((unD a).isSome ∧ (unD b).isSome)) → unescL t = some (decL t) := by
      intro c r ht hd hno
      rw [hd, ht] at h
      rw [escL] at h
      by_cases hs : safeB c = true
      · unfold esc1 at h
        rw [if_pos hs] at h
        have h' : escL (decL r) = r := by simpa using h
        rw [hd, ht, unescL_safe hs, ih r (by rw [ht] at hn; simp at hn; omega) h']
        rfl
      · unfold esc1 at h
        rw [if_neg hs] at h
        simp only [List.cons_append, List.nil_append, List.cons.injEq] at h
        obtain ⟨h1, h2⟩ := h
        exact absurd ⟨by rw [upD_un _ (by have := c.toNat_lt; omega)]; rfl, by rw [upD_un _ (by omega)]; rfl⟩ (hno h1.symm _ _ _ h2.symm)
    match t, h, hn, plain with
    | [], h, hn, plain => rfl
    | [c], h, hn, plain => exact plain c [] rfl rfl (fun _ a b r' h => by simp at h)
    | [c, d], h, hn, plain => exact plain c [d] rfl rfl (fun _ a b r' h => by simp at h)
    | c :: a :: b :: r, h, hn, plain =>
      by_cases hc : c = 37
      · match ha : unD a, hb : unD b with
        | none, none => exact plain c (a :: b :: r) rfl (by rw [decL, if_pos hc, ha, hb]) (fun _ a' b' r' e => by simp at e; obtain ⟨rfl, rfl, _⟩ := e; simp [ha])
        | none, some _ => exact plain c (a :: b :: r) rfl (by rw [decL, if_pos hc, ha, hb]) (fun _ a' b' r' e => by simp at e; obtain ⟨rfl, rfl, _⟩ := e; simp [ha])
        | some _, none => exact plain c (a :: b :: r) rfl (by rw [decL, if_pos hc, ha, hb]) (fun _ a' b' r' e => by simp at e; obtain ⟨rfl, rfl, _⟩ := e; simp [hb])
        | some x, some y =>
          have hd : decL (c :: a :: b :: r) = UInt8.ofNat (x * 16 + y) :: decL r := by rw [decL, if_pos hc, ha, hb]
          rw [hd] at h ⊢
          rw [escL] at h
          have hx := unD_lt ha
          have hy := unD_lt hb
          by_cases hv : safeB (UInt8.ofNat (x * 16 + y)) = true
          · exfalso
            unfold esc1 at h
            rw [if_pos hv] at h
            simp only [List.cons_append, List.nil_append, List.cons.injEq] at h
            rw [h.1, hc, safe37] at hv
            cases hv
          · have hv' : safeB (UInt8.ofNat (x * 16 + y)) = false := Bool.eq_false_iff.2 hv
            rw [esc1_nib hx hy hv', unD_up ha, unD_up hb] at h
            simp only [List.cons_append, List.nil_append, List.cons.injEq, true_and] at h
            have h' : escL (decL r) = r := h.2
            have := ih r (by simp at hn; omega) h'
            rw [unescL, if_neg (by rw [hc, safe37]; decide), if_pos hc, ha, hb]
            simp only
            rw [if_neg hv, this]
            rfl
      · exact plain c (a :: b :: r) rfl (by rw [decL, if_neg hc]) (fun e => absurd e hc)
theorem decL_len : ∀ (n : Nat) (t : List UInt8), t.length ≤ n → (decL t).length ≤ t.length := by
  intro n
  induction n with
  | zero =>
    intro t hn
    have : t = [] := List.eq_nil_of_length_eq_zero (by omega)
    subst this; simp [decL]
  | succ n ih =>
    intro t hn
    match t, hn with
    | [], _ => simp [decL]
    | [c], _ => simp [decL]
    | [c, d], _ => simp [decL]
    | c :: a :: b :: r, hn =>
      rw [decL]
      have h1 := ih (a :: b :: r) (by simp at hn ⊢; omega)
      have h2 := ih r (by simp at hn ⊢; omega)
      simp at h1 h2
      split
      · split
        · simp; omega
        · simp; omega
      · simp; omega

theorem spec_plain (c : UInt8) : spec_l10Plain.f (c.toNat : Int) = some (safeB c) := by
  have key : ∀ m : Fin 256, spec_l10Plain.f (m.val : Int) = some (safeB (UInt8.ofNat m.val)) := by decide +kernel
  have := key ⟨c.toNat, c.toNat_lt⟩
  simpa using this
def digs : ByteArray := ⟨#[48, 49, 50, 51, 52, 53, 54, 55, 56, 57, 65, 66, 67, 68, 69, 70]⟩
theorem digs_hi (c : UInt8) : bt digs ((Int.tdiv (c.toNat : Int) 16) % 256) = ((upD (c.toNat / 16)).toNat : Int) := by
  have key : ∀ m : Fin 256, bt digs ((Int.tdiv (m.val : Int) 16) % 256) = ((upD (m.val / 16)).toNat : Int) := by decide +kernel
  exact key ⟨c.toNat, c.toNat_lt⟩
theorem digs_lo (c : UInt8) : bt digs (Int.tmod (c.toNat : Int) 16) = ((upD (c.toNat % 16)).toNat : Int) := by
  have key : ∀ m : Fin 256, bt digs (Int.tmod (m.val : Int) 16) = ((upD (m.val % 16)).toNat : Int) := by decide +kernel
  exact key ⟨c.toNat, c.toNat_lt⟩
theorem spec_escape_l0 (s : ByteArray) (hs : s.size ≤ 140737488351232) : ∀ (d i : Nat) (o : List UInt8), s.size - i = d → i ≤ s.size → o.length + 3 * d < 140737488355328 →
    Ev (fun k => spec_Escape.l0 k s (bI o) (i : Int)) (mkB (o ++ escL (s.data.toList.drop i))) := by
  intro d
  induction d with
  | zero =>
    intro i o hd hi hl
    rw [drop_end s i (by omega)]
    refine Ev.step (fun k => by rw [spec_Escape.l0, if_neg (by omega)]) (Ev.give ?_)
    rw [strOf_bI, escL, List.append_nil]
  | succ d ih =>
    intro i o hd hi hl
    obtain ⟨c, e, hb⟩ := bt_drop s i (by omega)
    rw [e, escL]
    have hw : wrap64 ((i : Int) + 1) = ((i + 1 : Nat) : Int) := by rw [wrap64_id (by omega) (by omega)]; rfl
    have hc := c.toNat_lt
    by_cases hsf : safeB c = true
    · have hes : esc1 c = [c] := by unfold esc1; rw [if_pos hsf]
      refine Ev.step (fun k => by rw [spec_Escape.l0, if_pos (by omega), if_pos (by omega), hb, spec_plain, Option.bind_some, if_pos hsf, if_pos (by rw [bI_length]; omega), bI_snoc, hw]) ?_
      have := ih (i + 1) (o ++ [c]) (by omega) (by omega) (by simp; omega)
      rw [hes]
      simpa using this
    · have hes : esc1 c = [37, upD (c.toNat / 16), upD (c.toNat % 16)] := by unfold esc1; rw [if_neg hsf]
      have ht : Int.tdiv (c.toNat : Int) 16 = ((c.toNat / 16 : Nat) : Int) := by rw [Int.tdiv_eq_ediv_of_nonneg (by omega)]; rfl
      have hm : Int.tmod (c.toNat : Int) 16 = ((c.toNat % 16 : Nat) : Int) := by rw [Int.tmod_eq_emod_of_nonneg (by omega)]; rfl
      have h3 : ([37, bt (⟨#[48, 49, 50, 51, 52, 53, 54, 55, 56, 57, 65, 66, 67, 68, 69, 70]⟩ : ByteArray) ((Int.tdiv (c.toNat : Int) 16) % 256), bt (⟨#[48, 49, 50, 51, 52, 53, 54, 55, 56, 57, 65, 66, 67, 68, 69, 70]⟩ : ByteArray) (Int.tmod (c.toNat : Int) 16)] : List Int) = bI [37, upD (c.toNat / 16), upD (c.toNat % 16)] := by
        show [37, bt digs _, bt digs _] = _
        rw [digs_hi, digs_lo]; rfl
      refine Ev.step (fun k => by rw [spec_Escape.l0, if_pos (by omega), if_pos (by omega), hb, spec_plain, Option.bind_some, if_neg hsf, h3, if_pos (by rw [ht]; omega), if_pos (by rw [ht]; omega), if_pos (by rw [hm]; omega), if_pos (by rw [hm]; omega), Option.bind_some, if_pos (by rw [bI_length, bI_length]; simp; omega), bI_app, hw]) ?_
      have := ih (i + 1) (o ++ [37, upD (c.toNat / 16), upD (c.toNat % 16)]) (by omega) (by omega) (by simp; omega)
      rw [hes]
      simpa using this
/-- What Escape writes. -/
def escOf (s : ByteArray) : ByteArray := if (s.size : Int) > 100000 then ⟨#[]⟩ else mkB (escL s.data.toList)
theorem spec_escape (s : ByteArray) (hs : s.size ≤ 140737488351232) : Ev (fun k => spec_Escape.f k s) (escOf s) := by
  unfold escOf
  by_cases h0 : (s.size : Int) > 100000
  · rw [if_pos h0]; exact Ev.congr (fun k => by rw [spec_Escape.f, if_pos h0]) (Ev.now _)
  · rw [if_neg h0]
    refine Ev.congr (fun k => by rw [spec_Escape.f, if_neg h0]) ?_
    exact spec_escape_l0 s hs s.size 0 [] (by omega) (by omega) (by simp; omega)

/-! The program's escaped. -/
theorem impl_safe_plain (c : UInt8) : impl_safe.f (c.toNat : Int) = some (safeB c) := by
  have key : ∀ m : Fin 256, impl_safe.f (m.val : Int) = some (safeB (UInt8.ofNat m.val)) := by decide +kernel
  have := key ⟨c.toNat, c.toNat_lt⟩
  simpa using this
theorem oddFrom_true (s : ByteArray) : ∀ (f pos : Nat), oddFrom s f pos true = true := by
  intro f
  induction f with
  | zero => intro pos; rfl
  | succ f ih =>
    intro pos
    rw [oddFrom]
    split
    · simpa using ih _
    · rfl
theorem odd_false (s : ByteArray) : ∀ (f pos : Nat), s.size ≤ pos + f → oddFrom s f pos false = false → ∀ c ∈ s.data.toList.drop pos, safeB c = true := by
  intro f
  induction f with
  | zero =>
    intro pos hs h c hc
    rw [drop_end s pos (by omega)] at hc
    cases hc
  | succ f ih =>
    intro pos hs h c hc
    by_cases hp : pos < s.size
    · rw [oddFrom, if_pos hp, Bool.false_or] at h
      obtain ⟨d, e, hb⟩ := bt_drop s pos hp
      have hd : d = s[pos]'hp := by
        have h2 := List.drop_eq_getElem_cons (show pos < s.data.toList.length by simpa using hp)
        rw [e] at h2
        have := (List.cons.inj h2).1
        rw [this]
        simp [ByteArray.getElem_eq_getElem_data]
      by_cases ha : (s[pos]'hp).toNat < 128
      · have hdec := decode_ascii s pos hp ha
        rw [hdec] at h
        simp only at h
        rw [← hd, impl_safe_plain d, show decide (((d.toNat : Nat) : Int) > 127) = false from decide_eq_false (by rw [hd]; omega), Bool.false_or, Option.getD_some] at h
        cases hsd : safeB d with
        | false =>
          rw [hsd, show (!false) = true from rfl, oddFrom_true] at h
          cases h
        | true =>
          rw [hsd] at h
          rw [e] at hc
          rcases List.mem_cons.1 hc with rfl | hc
          · exact hsd
          · exact ih (pos + 1) (by omega) h c hc
      · have h2 := (decode_high s pos hp (by omega)).1
        rw [show decide (((Utf8.decode s pos).1 : Int) > 127) = true from decide_eq_true (by omega), Bool.true_or, oddFrom_true] at h
        cases h
    · rw [drop_end s pos (by omega)] at hc
      cases hc
theorem escL_safe : ∀ l : List UInt8, (∀ c ∈ l, safeB c = true) → escL l = l := by
  intro l
  induction l with
  | nil => intro _; rfl
  | cons c l ih =>
    intro h
    rw [escL, ih (fun d hd => h d (List.mem_cons_of_mem _ hd))]
    unfold esc1
    rw [if_pos (h c List.mem_cons_self)]
    rfl
theorem iand15 (c : UInt8) : Go.bits .and .u8 (c.toNat : Int) 15 = ((c.toNat % 16 : Nat) : Int) := by
  have h := bits_and_u8 c.toNat 15 (UInt8.toNat_lt c) (by omega)
  have e : c.toNat &&& 15 = c.toNat % 16 := Nat.and_two_pow_sub_one_eq_mod c.toNat 4
  rw [e] at h
  exact h
theorem upD_at (n : Nat) (h : n < 16) : bt (⟨#[48, 49, 50, 51, 52, 53, 54, 55, 56, 57, 65, 66, 67, 68, 69, 70]⟩ : ByteArray) (n : Int) = ((upD n).toNat : Int) := by
  have key : ∀ m : Fin 16, bt (⟨#[48, 49, 50, 51, 52, 53, 54, 55, 56, 57, 65, 66, 67, 68, 69, 70]⟩ : ByteArray) (m.val : Int) = ((upD m.val).toNat : Int) := by decide +kernel
  exact key ⟨n, h⟩
theorem impl_escaped_l0 (s : ByteArray) (hs : s.size ≤ 40000000000000) : ∀ (d i : Nat) (o : List UInt8), s.size - i = d → i ≤ s.size → o.length + 3 * d < 140737488355328 →
    Ev (fun k => impl_escaped.l0 k s (bI o) (s.size : Int) (i : Int)) (mkB (o ++ escL (s.data.toList.drop i))) := by
  intro d
  induction d with
  | zero =>
    intro i o hd hi hl
    rw [drop_end s i (by omega)]
    refine Ev.step (fun k => by rw [impl_escaped.l0, if_neg (by omega)]) (Ev.give ?_)
    rw [strOf_bI, escL, List.append_nil]
  | succ d ih =>
    intro i o hd hi hl
    obtain ⟨c, e, hb⟩ := bt_drop s i (by omega)
    rw [e, escL]
    have hw : wrap64 ((i : Int) + 1) = ((i + 1 : Nat) : Int) := by rw [wrap64_id (by omega) (by omega)]; rfl
    have hc := c.toNat_lt
    by_cases hsf : safeB c = true
    · have hes : esc1 c = [c] := by unfold esc1; rw [if_pos hsf]
      refine Ev.step (fun k => by rw [impl_escaped.l0, if_pos (by omega), if_pos (by omega), if_pos (by omega), hb, impl_safe_plain, Option.bind_some, if_pos hsf, if_pos (by rw [bI_length]; omega), bI_snoc, hw]) ?_
      have := ih (i + 1) (o ++ [c]) (by omega) (by omega) (by simp; omega)
      rw [hes]
      simpa using this
    · have hes : esc1 c = [37, upD (c.toNat / 16), upD (c.toNat % 16)] := by unfold esc1; rw [if_neg hsf]
      have ht : (c.toNat : Int) / 16 = ((c.toNat / 16 : Nat) : Int) := by omega
      have h3 : ([37, bt (⟨#[48, 49, 50, 51, 52, 53, 54, 55, 56, 57, 65, 66, 67, 68, 69, 70]⟩ : ByteArray) ((c.toNat / 16 : Nat) : Int), bt (⟨#[48, 49, 50, 51, 52, 53, 54, 55, 56, 57, 65, 66, 67, 68, 69, 70]⟩ : ByteArray) ((c.toNat % 16 : Nat) : Int)] : List Int) = bI [37, upD (c.toNat / 16), upD (c.toNat % 16)] := by
        rw [upD_at _ (by omega), upD_at _ (by omega)]; rfl
      refine Ev.step (fun k => by rw [impl_escaped.l0, if_pos (by omega), if_pos (by omega), if_pos (by omega), hb, impl_safe_plain, Option.bind_some, if_neg hsf, ht, iand15, h3, if_pos (by omega), if_pos (by omega), if_pos (by omega), if_pos (by omega), Option.bind_some, if_pos (by rw [bI_length, bI_length]; simp; omega), bI_app, hw]) ?_
      have := ih (i + 1) (o ++ [37, upD (c.toNat / 16), upD (c.toNat % 16)]) (by omega) (by omega) (by simp; omega)
      rw [hes]
      simpa using this
theorem impl_escaped_ev (s : ByteArray) (hs : s.size ≤ 40000000000000) : Ev (fun k => impl_escaped.f k s) (mkB (escL s.data.toList)) := by
  refine Ev.congr (fun k => by rw [impl_escaped.f]) ?_
  refine Ev.bindS (show impl_oddOf.f s = some (oddFrom s s.size 0 false) from rfl) ?_
  cases hod : oddFrom s s.size 0 false with
  | true =>
    refine Ev.pos rfl ?_
    exact impl_escaped_l0 s hs s.size 0 [] (by omega) (by omega) (by simp; omega)
  | false =>
    refine Ev.neg (by decide) (Ev.give ?_)
    have h := odd_false s s.size 0 (by omega) hod
    rw [List.drop_zero] at h
    rw [escL_safe _ h, mkB_data]

theorem set_prefix {α β : Type} (f : α → β) (z : β) (l : List α) (i : Nat) (h : i < l.length) (x : α) (hx : l[i]? = some x) :
    ((l.take i).map f ++ List.replicate (l.length - i) z).set i (f x) = (l.take (i + 1)).map f ++ List.replicate (l.length - (i + 1)) z := by
  have h1 : ((l.take i).map f).length = i := by simp; omega
  rw [List.set_append_right _ _ (by omega), h1, Nat.sub_self]
  have h2 : List.replicate (l.length - i) z = z :: List.replicate (l.length - (i + 1)) z := by
    rw [show l.length - i = (l.length - (i + 1)) + 1 by omega]; rfl
  rw [h2, List.set_cons_zero, List.take_add_one, hx, List.map_append]
  simp

theorem ba_toList (s : ByteArray) : s.toList = s.data.toList := by
  obtain ⟨⟨l⟩⟩ := s
  rw [show (ByteArray.mk { toList := l }) = ByteArray.mk l.toArray from rfl, ByteArray.toList_mk]
theorem ba_toList_inj {a b : ByteArray} : a.toList = b.toList ↔ a = b := by
  constructor
  · intro h; rw [ba_toList, ba_toList] at h; exact ByteArray.ext (Array.toList_inj.1 h)
  · rintro rfl; rfl

/-! A law's copies of a list of pairs: sizes, copies, comparisons. -/
def pairOf (x : S71) : S45 := ⟨x.f0, x.f1⟩
theorem rdl_Pair (l : List S71) (i : Nat) (h : i < l.length) : rd_T71 l (i : Int) = l[i] := by
  unfold rd_T71; rw [Int.toNat_natCast, List.getD_eq_getElem?_getD, List.getElem?_eq_getElem h]; rfl
theorem rdi_Pair (l : List S45) (i : Nat) (h : i < l.length) : rd_T45 l (i : Int) = l[i] := by
  unfold rd_T45; rw [Int.toNat_natCast, List.getD_eq_getElem?_getD, List.getElem?_eq_getElem h]; rfl
theorem sz_Pair (x : S71) (left : Int) (h0 : 0 ≤ left) (h1 : left ≤ 1048576) (g0 : x.f0.size ≤ 9223372036854775807) (g1 : x.f1.size ≤ 9223372036854775807) : ∃ r, laws_szPair.f x.f0 x.f1 left = some r ∧ (0 ≤ r → r ≤ left ∧ x.f0.size ≤ 1048576 ∧ x.f1.size ≤ 1048576) := by
  unfold laws_szPair.f
  rw [(wrap64_id (x := left - (x.f0.size : Int)) (by omega) (by omega))]
  by_cases c0 : left - (x.f0.size : Int) < 0
  · rw [if_pos c0]; exact ⟨_, rfl, fun h => by omega⟩
  · rw [if_neg c0, (wrap64_id (x := left - (x.f0.size : Int) - (x.f1.size : Int)) (by omega) (by omega))]
    by_cases c1 : left - (x.f0.size : Int) - (x.f1.size : Int) < 0
    · rw [if_pos c1]; exact ⟨_, rfl, fun h => by omega⟩
    · rw [if_neg c1]
      exact ⟨_, rfl, fun h => by omega⟩
theorem toPairS_l0 (l : List S71) (hl : l.length ≤ 1048576) : ∀ (d i : Nat), l.length - i = d → i ≤ l.length →
    Ev (fun k => laws_toPairS.l0 k l ((l.take i).map pairOf ++ List.replicate (l.length - i) z45) (i : Int)) (l.map pairOf) := by
  intro d
  induction d with
  | zero =>
    intro i hd hi
    have : i = l.length := by omega
    subst this
    refine Ev.step (fun k => by rw [laws_toPairS.l0, if_neg (by omega)]) (Ev.give ?_)
    simp
  | succ d ih =>
    intro i hd hi
    have hlt : i < l.length := by omega
    have hx : l[i]? = some l[i] := List.getElem?_eq_getElem hlt
    have hr := rdl_Pair l i hlt
    have hw : wrap64 ((i : Int) + 1) = ((i + 1 : Nat) : Int) := by rw [wrap64_id (by omega) (by omega)]; rfl
    have hs := set_prefix pairOf z45 l i hlt l[i] hx
    refine Ev.step (fun k => by rw [laws_toPairS.l0, if_pos (by omega), if_pos (by omega), hr, show laws_toPair.f l[i].f0 l[i].f1 = some (l[i].f0, l[i].f1) from rfl, Option.bind_some, if_pos (by simp; omega), Int.toNat_natCast, hw, show (⟨(l[i].f0, l[i].f1).1, (l[i].f0, l[i].f1).2⟩ : S45) = pairOf l[i] from rfl, hs]) ?_
    exact ih (i + 1) (by omega) (by omega)
theorem toPairS (l : List S71) (hl : l.length ≤ 1048576) : Ev (fun k => laws_toPairS.f k l) (l.map pairOf) := by
  refine Ev.congr (fun k => by rw [laws_toPairS.f, if_pos (by omega), if_pos (by omega), Int.toNat_natCast]) ?_
  have := toPairS_l0 l hl l.length 0 rfl (by omega)
  simpa using this
theorem eqPair_self (a0 a1 : ByteArray) : laws_eqPair.f a0 a1 a0 a1 = some true := by unfold laws_eqPair.f; simp
theorem eqPairS_l0 (l : List S45) (hl : l.length ≤ 1048576) : ∀ (d i : Nat), l.length - i = d → i ≤ l.length → Ev (fun k => laws_eqPairS.l0 k l l (i : Int)) true := by
  intro d
  induction d with
  | zero =>
    intro i hd hi
    exact Ev.step (fun k => by rw [laws_eqPairS.l0, if_neg (by omega)]) (Ev.now _)
  | succ d ih =>
    intro i hd hi
    have hw : wrap64 ((i : Int) + 1) = ((i + 1 : Nat) : Int) := by rw [wrap64_id (by omega) (by omega)]; rfl
    refine Ev.step (fun k => by rw [laws_eqPairS.l0, if_pos (by omega), if_pos (by omega), if_pos (by omega), eqPair_self, Option.bind_some, if_pos rfl, hw]) ?_
    exact ih (i + 1) (by omega) (by omega)
theorem eqPairS (l : List S45) (hl : l.length ≤ 1048576) : Ev (fun k => laws_eqPairS.f k l l) true := by
  refine Ev.congr (fun k => by rw [laws_eqPairS.f, if_pos rfl]) ?_
  exact eqPairS_l0 l hl l.length 0 rfl (by omega)
theorem szPairS_l0 (l : List S71) (hl : l.length ≤ 1048576) (hg : ∀ x ∈ l, x.f0.size ≤ 9223372036854775807 ∧ x.f1.size ≤ 9223372036854775807) : ∀ (d i : Nat) (left : Int), 0 ≤ left → left ≤ 1048576 → l.length - i = d → i ≤ l.length →
    ∃ r, Ev (fun k => laws_szPairS.l0 k l left (i : Int)) r ∧ (0 ≤ r → r ≤ left ∧ ∀ x ∈ l.drop i, x.f0.size ≤ 1048576 ∧ x.f1.size ≤ 1048576) := by
  intro d
  induction d with
  | zero =>
    intro i left h0 h1 hd hi
    exact ⟨left, Ev.step (fun k => by rw [laws_szPairS.l0, if_neg (by omega)]) (Ev.now _), fun _ => ⟨by omega, by rw [List.drop_eq_nil_of_le (by omega)]; simp⟩⟩
  | succ d ih =>
    intro i left h0 h1 hd hi
    have hlt : i < l.length := by omega
    have hr := rdl_Pair l i hlt
    have hw : wrap64 ((i : Int) + 1) = ((i + 1 : Nat) : Int) := by rw [wrap64_id (by omega) (by omega)]; rfl
    have g := hg l[i] (List.getElem_mem hlt)
    obtain ⟨r1, e1, b1⟩ := sz_Pair l[i] left h0 h1 g.1 g.2
    by_cases hn : r1 < 0
    · refine ⟨-1, Ev.step (fun k => by rw [laws_szPairS.l0, if_pos (by omega), if_pos (by omega), hr, e1, Option.bind_some, if_pos hn]) (Ev.now _), fun h => by omega⟩
    · obtain ⟨r2, e2, b2⟩ := ih (i + 1) r1 (by omega) (by have := b1 (by omega); omega) (by omega) (by omega)
      refine ⟨r2, Ev.step (fun k => by rw [laws_szPairS.l0, if_pos (by omega), if_pos (by omega), hr, e1, Option.bind_some, if_neg hn, hw]) e2, fun h => ?_⟩
      have q1 := b1 (by omega)
      have q2 := b2 h
      refine ⟨by omega, fun x hx => ?_⟩
      rw [List.drop_eq_getElem_cons hlt, List.mem_cons] at hx
      rcases hx with rfl | hx
      · exact q1.2
      · exact q2.2 x hx
theorem szPairS (l : List S71) (left : Int) (hl : l.length ≤ 9223372036854775807) (hg : ∀ x ∈ l, x.f0.size ≤ 9223372036854775807 ∧ x.f1.size ≤ 9223372036854775807) (h0 : 0 ≤ left) (h1 : left ≤ 1048576) :
    ∃ r, Ev (fun k => laws_szPairS.f k l left) r ∧ (0 ≤ r → r ≤ left ∧ l.length ≤ 1048576 ∧ ∀ x ∈ l, x.f0.size ≤ 1048576 ∧ x.f1.size ≤ 1048576) := by
  have hw : wrap64 (left - (l.length : Int)) = left - (l.length : Int) := wrap64_id (by omega) (by omega)
  by_cases hn : left - (l.length : Int) < 0
  · exact ⟨-1, Ev.congr (fun k => by rw [laws_szPairS.f, hw, if_pos hn]) (Ev.now _), fun h => by omega⟩
  · obtain ⟨r, e, b⟩ := szPairS_l0 l (by omega) hg l.length 0 (left - (l.length : Int)) (by omega) (by omega) rfl (by omega)
    refine ⟨r, Ev.congr (fun k => by rw [laws_szPairS.f, hw, if_neg hn]; rfl) e, fun h => ?_⟩
    have q := b h
    exact ⟨by omega, by omega, by simpa using q.2⟩

/-! What is right of a request: of its parts alone. -/
def capP (c : Int) : Bool := decide (65 ≤ c) && decide (c ≤ 90)
def plainP (c : Int) : Bool := (decide (97 ≤ c) && decide (c ≤ 122)) || (decide (48 ≤ c) && decide (c ≤ 57))
def hdrP (c : Int) : Bool := plainP c || decide (c = 45)
def prtP (c : Int) : Bool := decide (32 ≤ c) && decide (c ≤ 126)
def allL (p : Int → Bool) (l : List UInt8) : Bool := l.all fun c => p (c.toNat : Int)
def madeOk (p : Int → Bool) (a b : Nat) (s : ByteArray) : Bool := decide (a ≤ s.size) && (decide (s.size ≤ b) && allL p s.data.toList)
def noBlank (s : ByteArray) : Bool := decide (s.data.toList = []) || (!decide (s.data.toList.head? = some 32) && !decide (s.data.toList.getLast? = some 32))
def lengthWord : ByteArray := ⟨#[108, 101, 110, 103, 116, 104]⟩
def methodOk (s : ByteArray) : Bool := madeOk capP 1 10 s
def nameOk (s : ByteArray) : Bool := madeOk hdrP 1 60 s && !decide (s = lengthWord)
def valueOk (s : ByteArray) : Bool := madeOk prtP 0 1000 s && noBlank s
def pathOk (s : ByteArray) : Bool := decide (s.size ≤ 1000) && decide (s.data.toList.head? = some 47)
def queryOk (x : S45) : Bool := decide (1 ≤ x.f0.size) && (decide (x.f0.size ≤ 100) && decide (x.f1.size ≤ 1000))
def headerOk (x : S45) : Bool := nameOk x.f0 && valueOk x.f1
/-- No name stands twice, none of a list stands at all. -/
def freshIn : List ByteArray → List ByteArray → Bool
  | _, [] => true
  | seen, x :: r => !decide (x ∈ seen) && freshIn (seen ++ [x]) r
def diffOk (l : List S45) : Bool := freshIn [] (l.map (·.f0))
def pairsOk (p : S45 → Bool) (l : List S45) : Bool := decide (l.length ≤ 30) && (diffOk l && l.all p)
def reqOk (m p : ByteArray) (q h : List S45) (b : ByteArray) : Bool := methodOk m && (pathOk p && (pairsOk queryOk q && (pairsOk headerOk h && decide (b.size ≤ 100000))))
def reqFault (m p : ByteArray) (q h : List S45) (b : ByteArray) : Int := if reqOk m p q h b = true then 0 else 1
/-! The program's. -/
theorem f_cap (c : Int) : impl_isCapital.f c = some (capP c) := by
  unfold impl_isCapital.f capP
  by_cases h : c ≥ 65
  · rw [if_pos h, decide_eq_true (show 65 ≤ c from h)]; rfl
  · rw [if_neg h, decide_eq_false (show ¬ 65 ≤ c from h)]; rfl
theorem f_prt (c : Int) : impl_isPrinted.f c = some (prtP c) := by
  unfold impl_isPrinted.f prtP
  by_cases h : c ≥ 32
  · rw [if_pos h, decide_eq_true (show 32 ≤ c from h)]; rfl
  · rw [if_neg h, decide_eq_false (show ¬ 32 ≤ c from h)]; rfl
theorem f_plain (c : Int) : impl_isPlainLetter.f c = some (plainP c) := by
  unfold impl_isPlainLetter.f plainP
  by_cases h : c ≥ 97
  · rw [if_pos h, decide_eq_true (show 97 ≤ c from h)]
    by_cases h2 : c ≤ 122
    · rw [if_pos h2, decide_eq_true h2]; rfl
    · rw [if_neg h2, decide_eq_false h2, if_pos (by omega), decide_eq_true (show 48 ≤ c by omega)]; rfl
  · rw [if_neg h, decide_eq_false (show ¬ 97 ≤ c from h)]
    by_cases h2 : c ≥ 48
    · rw [if_pos h2, decide_eq_true (show 48 ≤ c from h2)]; rfl
    · rw [if_neg h2, decide_eq_false (show ¬ 48 ≤ c from h2)]; rfl
theorem f_hdr (c : Int) : impl_isHeaderLetter.f c = some (hdrP c) := by
  unfold impl_isHeaderLetter.f hdrP
  rw [f_plain, Option.bind_some]
  cases plainP c with
  | true => rw [if_pos rfl]; rfl
  | false => rw [if_neg (by decide)]; rfl
theorem madeP_cap (c : Int) : madeP 46 c = some (capP c) := by unfold madeP; rw [if_pos rfl]; exact f_cap c
theorem madeP_hdr (c : Int) : madeP 48 c = some (hdrP c) := by unfold madeP; rw [if_neg (by decide), if_pos rfl]; exact f_hdr c
theorem madeP_prt (c : Int) : madeP 71 c = some (prtP c) := by unfold madeP; rw [if_neg (by decide), if_neg (by decide), if_pos rfl]; exact f_prt c
theorem made_l0 (s : ByteArray) (hs : s.size ≤ 1048576) (n : Int) (p : Int → Bool) (hp : ∀ c, madeP n c = some (p c)) : ∀ (d i : Nat), s.size - i = d → i ≤ s.size → Ev (fun k => impl_made.l0 k s n (i : Int)) (allL p (s.data.toList.drop i)) := by
  intro d
  induction d with
  | zero =>
    intro i hd hi
    rw [drop_end s i (by omega)]
    exact Ev.step (fun k => by rw [impl_made.l0, if_neg (by omega)]; rfl) (Ev.now _)
  | succ d ih =>
    intro i hd hi
    obtain ⟨c, e, hb⟩ := bt_drop s i (by omega)
    have hw : wrap64 ((i : Int) + 1) = ((i + 1 : Nat) : Int) := by rw [wrap64_id (by omega) (by omega)]; rfl
    have hn := ih (i + 1) (by omega) (by omega)
    rw [e]
    refine Ev.step (fun k => by rw [impl_made.l0, if_pos (by omega), if_pos (by omega), hb, hp, Option.bind_some, hw]) ?_
    unfold allL
    rw [List.all_cons]
    cases p (c.toNat : Int) with
    | true => exact Ev.pos rfl hn
    | false => exact Ev.neg (by decide) (Ev.now _)
theorem made_f (s : ByteArray) (hs : s.size ≤ 1048576) (n : Int) (p : Int → Bool) (hp : ∀ c, madeP n c = some (p c)) (a b : Nat) : Ev (fun k => impl_made.f k s (a : Int) (b : Int) n) (madeOk p a b s) := by
  refine Ev.congr (fun k => by rw [impl_made.f]) ?_
  unfold madeOk
  by_cases h1 : (s.size : Int) < (a : Int)
  · exact Ev.pos h1 (Ev.give (by rw [decide_eq_false (show ¬ a ≤ s.size by omega)]; rfl))
  · refine Ev.neg h1 ?_
    rw [decide_eq_true (show a ≤ s.size by omega)]
    by_cases h2 : (s.size : Int) > (b : Int)
    · exact Ev.pos h2 (Ev.give (by rw [decide_eq_false (show ¬ s.size ≤ b by omega)]; rfl))
    · refine Ev.neg h2 ?_
      rw [decide_eq_true (show s.size ≤ b by omega)]
      have := made_l0 s hs n p hp s.size 0 rfl (by omega)
      simpa using this
theorem i_method (s : ByteArray) (hs : s.size ≤ 1048576) : Ev (fun k => impl_isMethod.f k s) (methodOk s) := by
  refine Ev.congr (fun k => by rw [impl_isMethod.f]) ?_
  exact Ev.bind (made_f s hs _ _ madeP_cap 1 10) (Ev.now _)
theorem head_bt (s : ByteArray) (h : 0 < s.size) : ∃ c : UInt8, s.data.toList.head? = some c ∧ bt s 0 = (c.toNat : Int) := by
  obtain ⟨c, e, hb⟩ := bt_drop s 0 h
  exact ⟨c, by rw [List.drop_zero] at e; rw [e]; rfl, hb⟩
theorem i_path (s : ByteArray) : impl_isPath.f s = some (pathOk s) := by
  unfold impl_isPath.f pathOk
  by_cases h : (s.size : Int) ≤ 1000
  · rw [if_pos h, decide_eq_true (show s.size ≤ 1000 by omega)]
    unfold strings_HasPrefix.f stringslite_HasPrefix.f
    have z : (((⟨#[47]⟩ : ByteArray).size : Nat) : Int) = 1 := rfl
    rw [z]
    by_cases h2 : (s.size : Int) ≥ 1
    · rw [if_pos h2, if_pos (by omega), if_pos h2]
      obtain ⟨c, e, _⟩ := bt_drop s 0 (by omega)
      rw [List.drop_zero] at e
      have e2 : (s.extract 0 ((1 : Int)).toNat).toList = [c] := by
        rw [ba_toList, ByteArray.data_extract, Array.toList_extract, List.extract_eq_take_drop]
        rw [e]; rfl
      have e3 : (⟨#[47]⟩ : ByteArray).toList = [47] := by rw [ba_toList]
      rw [e2, e3, e]
      simp only [Option.bind_some, Bool.true_and, List.head?_cons, Option.some.injEq]
      by_cases hc : c = 47
      · subst hc; rfl
      · rw [decide_eq_false hc]; simp [hc]
    · rw [if_neg h2]
      have e : s.data.toList = [] := List.length_eq_zero_iff.1 (by rw [data_length]; omega)
      rw [e]; rfl
  · rw [if_neg h, decide_eq_false (show ¬ s.size ≤ 1000 by omega)]; rfl
theorem i_query (x : S45) : impl_isQuery.f x.f0 x.f1 = some (queryOk x) := by
  unfold impl_isQuery.f queryOk
  by_cases h1 : (x.f0.size : Int) ≥ 1
  · rw [if_pos h1, decide_eq_true (show 1 ≤ x.f0.size by omega)]
    by_cases h2 : (x.f0.size : Int) ≤ 100
    · rw [if_pos h2, decide_eq_true (show x.f0.size ≤ 100 by omega)]
      by_cases h3 : (x.f1.size : Int) ≤ 1000
      · rw [decide_eq_true h3, decide_eq_true (show x.f1.size ≤ 1000 by omega)]; rfl
      · rw [decide_eq_false h3, decide_eq_false (show ¬ x.f1.size ≤ 1000 by omega)]; rfl
    · rw [if_neg h2, decide_eq_false (show ¬ x.f0.size ≤ 100 by omega)]; rfl
  · rw [if_neg h1, decide_eq_false (show ¬ 1 ≤ x.f0.size by omega)]; rfl
/-! Blanks at the ends. -/
theorem dropW_eq (l : List UInt8) (c : UInt8) : (l.dropWhile (· == c) = l) ↔ ¬ l.head? = some c := by
  cases l with
  | nil => simp
  | cons x r =>
    rw [List.dropWhile_cons]
    by_cases h : x = c
    · subst h
      simp only [beq_self_eq_true, if_true, List.head?_cons, not_true, iff_false]
      intro e
      have := (List.dropWhile_suffix (· == x) (l := r)).length_le
      rw [e] at this
      simp at this
      omega
    · simp [h]
theorem trim_same (l : List UInt8) (c : UInt8) : Lib.trimB l c = l ↔ (l = [] ∨ (¬ l.head? = some c ∧ ¬ l.getLast? = some c)) := by
  unfold Lib.trimB Lib.trimLeftB Lib.trimRightB
  have hr : (l.reverse.dropWhile (· == c)).reverse = l ↔ ¬ l.getLast? = some c := by
    rw [← List.head?_reverse, ← dropW_eq l.reverse c]
    constructor
    · intro h; rw [← List.reverse_inj]; simpa using h
    · intro h; rw [h]; simp
  have len : ((l.reverse.dropWhile (· == c)).reverse).length ≤ l.length := by
    have := (List.dropWhile_suffix (· == c) (l := l.reverse)).length_le
    simpa using this
  have len2 : (((l.reverse.dropWhile (· == c)).reverse).dropWhile (· == c)).length ≤ ((l.reverse.dropWhile (· == c)).reverse).length := (List.dropWhile_suffix (· == c)).length_le
  have hp : (l.reverse.dropWhile (· == c)).reverse <+: l := by
    have := List.dropWhile_suffix (· == c) (l := l.reverse)
    have := List.reverse_prefix.2 this
    simpa using this
  constructor
  · intro h
    by_cases hn : l = []
    · exact Or.inl hn
    · right
      have e1 : (l.reverse.dropWhile (· == c)).reverse = l := hp.eq_of_length (by rw [h] at len2; omega)
      rw [e1] at h
      exact ⟨(dropW_eq l c).1 h, hr.1 e1⟩
  · rintro (h | ⟨h1, h2⟩)
    · subst h; rfl
    · rw [hr.2 h2]; exact (dropW_eq l c).2 h1
theorem i_value (s : ByteArray) (hs : s.size ≤ 1048576) : Ev (fun k => impl_headerValue.f k s) (valueOk s) := by
  refine Ev.congr (fun k => by rw [impl_headerValue.f]) ?_
  refine Ev.bind (made_f s hs _ _ madeP_prt 0 1000) ?_
  unfold valueOk
  cases madeOk prtP 0 1000 s with
  | false => exact Ev.neg (by decide) (Ev.now _)
  | true =>
    refine Ev.pos rfl ?_
    have e : strings_Trim.f s (⟨#[32]⟩ : ByteArray) = some (trimOf s) := by unfold strings_Trim.f; rw [if_pos ⟨rfl, by omega⟩]
    refine Ev.bindS e (Ev.give ?_)
    have e2 : (trimOf s).toList = Lib.trimB s.data.toList 32 := by rw [ba_toList]; rfl
    rw [e2, ba_toList, Bool.true_and]
    have key := trim_same s.data.toList 32
    unfold noBlank
    by_cases h0 : s.data.toList = []
    · rw [h0]; rfl
    · rw [decide_eq_false h0, Bool.false_or]
      by_cases h1 : s.data.toList.head? = some 32
      · rw [decide_eq_true h1, beq_eq_false_iff_ne.2 (fun h => ((key.1 h).resolve_left h0).1 h1)]; rfl
      · by_cases h2 : s.data.toList.getLast? = some 32
        · rw [decide_eq_true h2, beq_eq_false_iff_ne.2 (fun h => ((key.1 h).resolve_left h0).2 h2), decide_eq_false h1]; rfl
        · rw [decide_eq_false h1, decide_eq_false h2, beq_iff_eq.2 (key.2 (Or.inr ⟨h1, h2⟩))]; rfl
theorem i_header (x : S45) (h0 : x.f0.size ≤ 1048576) (h1 : x.f1.size ≤ 1048576) : Ev (fun k => impl_isHeader.f k x.f0 x.f1) (headerOk x) := by
  refine Ev.congr (fun k => by rw [impl_isHeader.f]) ?_
  refine Ev.bind (made_f x.f0 h0 _ _ madeP_hdr 1 60) ?_
  unfold headerOk nameOk
  cases madeOk hdrP 1 60 x.f0 with
  | false => exact Ev.neg (by decide) (Ev.now _)
  | true =>
    refine Ev.pos rfl ?_
    have e : (x.f0.toList = ([108, 101, 110, 103, 116, 104] : List UInt8)) ↔ x.f0 = lengthWord := by
      rw [← ba_toList_inj, show lengthWord.toList = [108, 101, 110, 103, 116, 104] by rw [ba_toList]; rfl]
    by_cases h : x.f0 = lengthWord
    · rw [decide_eq_true h]
      exact Ev.pos (e.2 h) (Ev.now _)
    · rw [decide_eq_false h]
      refine Ev.neg (fun h' => h (e.1 h')) (Ev.bind (i_value x.f1 h1) (Ev.give ?_))
      rfl
def sizesOk (l : List S45) : Prop := l.length ≤ 1048576 ∧ ∀ x ∈ l, x.f0.size ≤ 1048576 ∧ x.f1.size ≤ 1048576
theorem pairP_query (k : Nat) (a b : ByteArray) : pairP k 27 a b = impl_isQuery.f a b := by unfold pairP; rw [if_pos rfl]
theorem pairP_header (k : Nat) (a b : ByteArray) : pairP k 28 a b = impl_isHeader.f k a b := by unfold pairP; rw [if_neg (by decide), if_pos rfl]
theorem fresh_and (p : S45 → Bool) (x : S45) (r : List S45) (seen : List ByteArray) (g : Bool) :
    (freshIn seen ((x :: r).map (·.f0)) && ((x :: r).all p && g)) = if p x = true then (if x.f0 ∈ seen then false else (freshIn (seen ++ [x.f0]) (r.map (·.f0)) && (r.all p && g))) else false := by
  rw [List.map_cons, freshIn, List.all_cons]
  cases p x with
  | false => rw [if_neg (by decide)]; simp
  | true =>
    rw [if_pos rfl]
    by_cases h : x.f0 ∈ seen
    · rw [if_pos h, decide_eq_true h]; rfl
    · rw [if_neg h, decide_eq_false h]; simp
theorem pairs_l0 (l : List S45) (hl : sizesOk l) (n : Int) (p : S45 → Bool) (hp : ∀ x ∈ l, Ev (fun k => pairP k n x.f0 x.f1) (p x)) : ∀ (d i : Nat) (seen : List ByteArray), l.length - i = d → i ≤ l.length → seen.length ≤ i →
    Ev (fun k => impl_pairsRight.l0 k l n seen (i : Int)) (freshIn seen ((l.drop i).map (·.f0)) && ((l.drop i).all p && decide (l.length ≤ 30))) := by
  intro d
  induction d with
  | zero =>
    intro i seen hd hi hs
    rw [List.drop_eq_nil_of_le (by omega)]
    refine Ev.step (fun k => by rw [impl_pairsRight.l0, if_neg (by omega)]) (Ev.give ?_)
    by_cases h : l.length ≤ 30
    · rw [decide_eq_true h, decide_eq_true (show (l.length : Int) ≤ 30 by omega)]; rfl
    · rw [decide_eq_false h, decide_eq_false (show ¬ (l.length : Int) ≤ 30 by omega)]; rfl
  | succ d ih =>
    intro i seen hd hi hs
    have hlt : i < l.length := by omega
    have hr := rdi_Pair l i hlt
    have hw : wrap64 ((i : Int) + 1) = ((i + 1 : Nat) : Int) := by rw [wrap64_id (by have := hl.1; omega) (by have := hl.1; omega)]; rfl
    have hm := List.getElem_mem hlt
    have hz := (hl.2 _ hm).1
    have hL := hl.1
    have m1 : l[i].f0.size ≤ maxLen := by unfold maxLen; omega
    have m2 : seen.length < maxLen := by unfold maxLen; omega
    have hn := ih (i + 1) (seen ++ [l[i].f0]) (by omega) (by omega) (by simp; omega)
    rw [List.drop_eq_getElem_cons hlt, fresh_and]
    refine Ev.step (fun k => by rw [impl_pairsRight.l0, if_pos (by omega), if_pos (by omega), hr, hw]) (Ev.bind (hp _ hm) ?_)
    cases p l[i] with
    | false => exact Ev.neg (by decide) (Ev.now _)
    | true =>
      rw [if_pos rfl]
      refine Ev.pos rfl (Ev.pos m1 (Ev.pos m2 ?_))
      by_cases h : l[i].f0 ∈ seen
      · rw [if_pos h]; exact Ev.pos h (Ev.now _)
      · rw [if_neg h]; exact Ev.neg h hn
theorem pairs_f (l : List S45) (hl : sizesOk l) (n : Int) (p : S45 → Bool) (hp : ∀ x ∈ l, Ev (fun k => pairP k n x.f0 x.f1) (p x)) : Ev (fun k => impl_pairsRight.f k l n) (pairsOk p l) := by
  have := pairs_l0 l hl n p hp l.length 0 [] rfl (by omega) (by simp)
  rw [List.drop_zero] at this
  unfold pairsOk diffOk
  have e : (decide (l.length ≤ 30) && (freshIn [] (l.map (·.f0)) && l.all p)) = (freshIn [] (l.map (·.f0)) && (l.all p && decide (l.length ≤ 30))) := by
    cases decide (l.length ≤ 30) <;> cases freshIn [] (l.map (·.f0)) <;> cases l.all p <;> rfl
  rw [e]
  exact this
theorem i_pairsQ (l : List S45) (hl : sizesOk l) : Ev (fun k => impl_pairsRight.f k l 27) (pairsOk queryOk l) :=
  pairs_f l hl _ _ (fun x _ => Ev.congr (fun k => by rw [pairP_query, i_query]) (Ev.now _))
theorem i_pairsH (l : List S45) (hl : sizesOk l) : Ev (fun k => impl_pairsRight.f k l 28) (pairsOk headerOk l) :=
  pairs_f l hl _ _ (fun x hx => Ev.congr (fun k => by rw [pairP_header]) (i_header x (hl.2 x hx).1 (hl.2 x hx).2))
theorem i_fault (m p : ByteArray) (q h : List S45) (b : ByteArray) (hm : m.size ≤ 1048576) (hq : sizesOk q) (hh : sizesOk h) : Ev (fun k => impl_RequestFault.f k m p q h b) (reqFault m p q h b) := by
  refine Ev.congr (fun k => by rw [impl_RequestFault.f]) ?_
  unfold reqFault reqOk
  refine Ev.bind (i_method m hm) ?_
  cases methodOk m with
  | false => exact Ev.neg (by decide) (Ev.now _)
  | true =>
    refine Ev.pos rfl (Ev.bindS (i_path p) ?_)
    cases pathOk p with
    | false => exact Ev.neg (by decide) (Ev.now _)
    | true =>
      refine Ev.pos rfl (Ev.bind (i_pairsQ q hq) ?_)
      cases pairsOk queryOk q with
      | false => exact Ev.neg (by decide) (Ev.now _)
      | true =>
        refine Ev.pos rfl (Ev.bind (i_pairsH h hh) ?_)
        cases pairsOk headerOk h with
        | false => exact Ev.neg (by decide) (Ev.now _)
        | true =>
          refine Ev.pos rfl ?_
          by_cases hb : (b.size : Int) > 100000
          · exact Ev.pos hb (Ev.give (by rw [decide_eq_false (show ¬ b.size ≤ 100000 by omega)]; rfl))
          · exact Ev.neg hb (Ev.give (by rw [decide_eq_true (show b.size ≤ 100000 by omega)]; rfl))

/-! The reference's. -/
theorem smeth_l0 (s : ByteArray) (hs : s.size ≤ 1048576) : ∀ (d i : Nat), s.size - i = d → i ≤ s.size → Ev (fun k => spec_l10Method.l0 k s (i : Int)) (allL capP (s.data.toList.drop i) && (decide (1 ≤ s.size) && decide (s.size ≤ 10))) := by
  intro d
  induction d with
  | zero =>
    intro i hd hi
    rw [drop_end s i (by omega)]
    refine Ev.step (fun k => by rw [spec_l10Method.l0, if_neg (by omega)]) ?_
    by_cases h : (s.size : Int) ≥ 1
    · refine Ev.pos h (Ev.give ?_)
      rw [decide_eq_true (show 1 ≤ s.size by omega)]
      by_cases h2 : s.size ≤ 10
      · rw [decide_eq_true h2, decide_eq_true (show (s.size : Int) ≤ 10 by omega)]; rfl
      · rw [decide_eq_false h2, decide_eq_false (show ¬ (s.size : Int) ≤ 10 by omega)]; rfl
    · refine Ev.neg h (Ev.give ?_)
      rw [decide_eq_false (show ¬ 1 ≤ s.size by omega)]; rfl
  | succ d ih =>
    intro i hd hi
    obtain ⟨c, e, hb⟩ := bt_drop s i (by omega)
    have hw : wrap64 ((i : Int) + 1) = ((i + 1 : Nat) : Int) := by rw [wrap64_id (by omega) (by omega)]; rfl
    have hn := ih (i + 1) (by omega) (by omega)
    rw [e]
    refine Ev.step (fun k => by rw [spec_l10Method.l0, if_pos (by omega), if_pos (by omega), hb, hw]) ?_
    unfold allL capP at hn ⊢
    rw [List.all_cons]
    by_cases h1 : (c.toNat : Int) < 65
    · exact Ev.pos h1 (Ev.give (by rw [decide_eq_false (show ¬ 65 ≤ (c.toNat : Int) by omega)]; rfl))
    · refine Ev.neg h1 ?_
      rw [decide_eq_true (show 65 ≤ (c.toNat : Int) by omega)]
      by_cases h2 : (c.toNat : Int) > 90
      · exact Ev.pos h2 (Ev.give (by rw [decide_eq_false (show ¬ (c.toNat : Int) ≤ 90 by omega)]; rfl))
      · refine Ev.neg h2 ?_
        rw [decide_eq_true (show (c.toNat : Int) ≤ 90 by omega)]
        exact hn
theorem s_method (s : ByteArray) (hs : s.size ≤ 1048576) : Ev (fun k => spec_l10Method.f k s) (methodOk s) := by
  have := smeth_l0 s hs s.size 0 rfl (by omega)
  rw [List.drop_zero] at this
  have e : methodOk s = (allL capP s.data.toList && (decide (1 ≤ s.size) && decide (s.size ≤ 10))) := by
    unfold methodOk madeOk
    cases allL capP s.data.toList <;> cases decide (1 ≤ s.size) <;> cases decide (s.size ≤ 10) <;> rfl
  rw [e]
  exact this
theorem sname_l0 (s : ByteArray) (hs : s.size ≤ 1048576) : ∀ (d i : Nat), s.size - i = d → i ≤ s.size → Ev (fun k => spec_l10Name.l0 k s (i : Int)) (allL hdrP (s.data.toList.drop i) && (decide (1 ≤ s.size) && (decide (s.size ≤ 60) && !decide (s = lengthWord)))) := by
  intro d
  induction d with
  | zero =>
    intro i hd hi
    rw [drop_end s i (by omega)]
    refine Ev.step (fun k => by rw [spec_l10Name.l0, if_neg (by omega)]) ?_
    by_cases h : (s.size : Int) ≥ 1
    · refine Ev.pos h ?_
      rw [decide_eq_true (show 1 ≤ s.size by omega)]
      by_cases h2 : (s.size : Int) ≤ 60
      · refine Ev.pos h2 (Ev.give ?_)
        rw [decide_eq_true (show s.size ≤ 60 by omega)]
        have e : (s.toList = ([108, 101, 110, 103, 116, 104] : List UInt8)) ↔ s = lengthWord := by
          rw [← ba_toList_inj, show lengthWord.toList = [108, 101, 110, 103, 116, 104] by rw [ba_toList]; rfl]
        by_cases h3 : s = lengthWord
        · rw [decide_eq_true h3, e.2 h3]; rfl
        · rw [decide_eq_false h3, bne_iff_ne.2 (fun h => h3 (e.1 h))]; rfl
      · refine Ev.neg h2 (Ev.give ?_)
        rw [decide_eq_false (show ¬ s.size ≤ 60 by omega)]; rfl
    · refine Ev.neg h (Ev.give ?_)
      rw [decide_eq_false (show ¬ 1 ≤ s.size by omega)]; rfl
  | succ d ih =>
    intro i hd hi
    obtain ⟨c, e, hb⟩ := bt_drop s i (by omega)
    have hw : wrap64 ((i : Int) + 1) = ((i + 1 : Nat) : Int) := by rw [wrap64_id (by omega) (by omega)]; rfl
    have hn := ih (i + 1) (by omega) (by omega)
    rw [e]
    refine Ev.step (fun k => by rw [spec_l10Name.l0, if_pos (by omega), if_pos (by omega), hb, hw]) ?_
    unfold allL at hn ⊢
    rw [List.all_cons]
    have hT : hdrP (c.toNat : Int) = true → Ev (fun k => spec_l10Name.l0 k s ((i + 1 : Nat) : Int)) ((hdrP (c.toNat : Int) && (s.data.toList.drop (i + 1)).all fun c => hdrP (c.toNat : Int)) && (decide (1 ≤ s.size) && (decide (s.size ≤ 60) && !decide (s = lengthWord)))) := fun h => by rw [h]; exact hn
    have hF : hdrP (c.toNat : Int) = false → Ev (fun _ => some false) ((hdrP (c.toNat : Int) && (s.data.toList.drop (i + 1)).all fun c => hdrP (c.toNat : Int)) && (decide (1 ≤ s.size) && (decide (s.size ≤ 60) && !decide (s = lengthWord)))) := fun h => by rw [h]; exact Ev.now _
    have p1 : hdrP (c.toNat : Int) = ((decide (97 ≤ (c.toNat : Int)) && decide ((c.toNat : Int) ≤ 122)) || (decide (48 ≤ (c.toNat : Int)) && decide ((c.toNat : Int) ≤ 57)) || decide ((c.toNat : Int) = 45)) := rfl
    by_cases h1 : (c.toNat : Int) ≥ 97
    · refine Ev.pos h1 ?_
      by_cases h2 : (c.toNat : Int) ≤ 122
      · exact Ev.pos h2 (hT (by rw [p1, decide_eq_true (show 97 ≤ (c.toNat : Int) from h1), decide_eq_true h2]; rfl))
      · refine Ev.neg h2 (Ev.pos (show (c.toNat : Int) ≥ 48 by omega) (Ev.neg (show ¬ (c.toNat : Int) ≤ 57 by omega) (Ev.neg (show ¬ (c.toNat : Int) = 45 by omega) (hF ?_))))
        rw [p1, decide_eq_false h2, decide_eq_false (show ¬ (c.toNat : Int) ≤ 57 by omega), decide_eq_false (show ¬ (c.toNat : Int) = 45 by omega)]; simp
    · refine Ev.neg h1 ?_
      by_cases h2 : (c.toNat : Int) ≥ 48
      · refine Ev.pos h2 ?_
        by_cases h3 : (c.toNat : Int) ≤ 57
        · exact Ev.pos h3 (hT (by rw [p1, decide_eq_true (show 48 ≤ (c.toNat : Int) from h2), decide_eq_true h3]; simp))
        · refine Ev.neg h3 (Ev.neg (show ¬ (c.toNat : Int) = 45 by omega) (hF ?_))
          rw [p1, decide_eq_false (show ¬ 97 ≤ (c.toNat : Int) from h1), decide_eq_false h3, decide_eq_false (show ¬ (c.toNat : Int) = 45 by omega)]; simp
      · refine Ev.neg h2 ?_
        by_cases h3 : (c.toNat : Int) = 45
        · exact Ev.pos h3 (hT (by rw [p1, decide_eq_true h3]; simp))
        · refine Ev.neg h3 (hF ?_)
          rw [p1, decide_eq_false (show ¬ 97 ≤ (c.toNat : Int) from h1), decide_eq_false (show ¬ 48 ≤ (c.toNat : Int) from h2), decide_eq_false h3]; rfl
theorem s_name (s : ByteArray) (hs : s.size ≤ 1048576) : Ev (fun k => spec_l10Name.f k s) (nameOk s) := by
  have := sname_l0 s hs s.size 0 rfl (by omega)
  rw [List.drop_zero] at this
  have e : nameOk s = (allL hdrP s.data.toList && (decide (1 ≤ s.size) && (decide (s.size ≤ 60) && !decide (s = lengthWord)))) := by
    unfold nameOk madeOk
    cases allL hdrP s.data.toList <;> cases decide (1 ≤ s.size) <;> cases decide (s.size ≤ 60) <;> simp
  rw [e]
  exact this
theorem last_bt (s : ByteArray) (h : 0 < s.size) : ∃ c : UInt8, s.data.toList.getLast? = some c ∧ bt s ((s.size : Int) - 1) = (c.toNat : Int) := by
  obtain ⟨c, e, hb⟩ := bt_get s (s.size - 1) (by omega)
  refine ⟨c, by rw [List.getLast?_eq_getElem?, data_length]; exact e, ?_⟩
  rw [← hb]; congr 1; omega
theorem svalue_l0 (s : ByteArray) (hs : s.size ≤ 1048576) : ∀ (d i : Nat), s.size - i = d → i ≤ s.size → Ev (fun k => spec_l10Value.l0 k s (i : Int)) (allL prtP (s.data.toList.drop i) && (decide (s.size ≤ 1000) && noBlank s)) := by
  intro d
  induction d with
  | zero =>
    intro i hd hi
    rw [drop_end s i (by omega)]
    refine Ev.step (fun k => by rw [spec_l10Value.l0, if_neg (by omega)]) ?_
    by_cases h : (s.size : Int) ≤ 1000
    · refine Ev.pos h ?_
      rw [decide_eq_true (show s.size ≤ 1000 by omega)]
      by_cases h0 : s.data.toList = []
      · refine Ev.pos (by rw [ba_toList]; exact h0) (Ev.give ?_)
        unfold noBlank; rw [decide_eq_true h0]; rfl
      · have hp : 0 < s.size := by
          rw [← data_length]; exact List.length_pos_iff.2 h0
        obtain ⟨c, e1, b1⟩ := head_bt s hp
        obtain ⟨z, e2, b2⟩ := last_bt s hp
        have hw : wrap64 ((s.size : Int) - 1) = (s.size : Int) - 1 := wrap64_id (by omega) (by omega)
        refine Ev.neg (by rw [ba_toList]; exact h0) (Ev.pos (by omega) ?_)
        rw [hw, b1, b2]
        have nb : noBlank s = (!decide (c = 32) && !decide (z = 32)) := by
          unfold noBlank; rw [decide_eq_false h0, e1, e2, Bool.false_or]
          simp only [Option.some.injEq]
        have k1 : ((c.toNat : Int) = 32) ↔ c = 32 := byte_eq_lit c 32 (by omega)
        have k2 : ((z.toNat : Int) = 32) ↔ z = 32 := byte_eq_lit z 32 (by omega)
        by_cases h1 : (c.toNat : Int) = 32
        · refine Ev.pos h1 (Ev.give ?_)
          rw [nb, decide_eq_true (k1.1 h1)]; rfl
        · refine Ev.neg h1 (Ev.pos (by omega) (Ev.pos (by omega) (Ev.give ?_)))
          rw [nb, decide_eq_false (fun h => h1 (k1.2 h))]
          by_cases h2 : (z.toNat : Int) = 32
          · rw [decide_eq_true (k2.1 h2), h2]; rfl
          · rw [decide_eq_false (fun h => h2 (k2.2 h)), bne_iff_ne.2 h2]; rfl
    · refine Ev.neg h (Ev.give ?_)
      rw [decide_eq_false (show ¬ s.size ≤ 1000 by omega)]; rfl
  | succ d ih =>
    intro i hd hi
    obtain ⟨c, e, hb⟩ := bt_drop s i (by omega)
    have hw : wrap64 ((i : Int) + 1) = ((i + 1 : Nat) : Int) := by rw [wrap64_id (by omega) (by omega)]; rfl
    have hn := ih (i + 1) (by omega) (by omega)
    rw [e]
    refine Ev.step (fun k => by rw [spec_l10Value.l0, if_pos (by omega), if_pos (by omega), hb, hw]) ?_
    unfold allL prtP at hn ⊢
    rw [List.all_cons]
    by_cases h1 : (c.toNat : Int) < 32
    · exact Ev.pos h1 (Ev.give (by rw [decide_eq_false (show ¬ 32 ≤ (c.toNat : Int) by omega)]; rfl))
    · refine Ev.neg h1 ?_
      rw [decide_eq_true (show 32 ≤ (c.toNat : Int) by omega)]
      by_cases h2 : (c.toNat : Int) > 126
      · exact Ev.pos h2 (Ev.give (by rw [decide_eq_false (show ¬ (c.toNat : Int) ≤ 126 by omega)]; rfl))
      · refine Ev.neg h2 ?_
        rw [decide_eq_true (show (c.toNat : Int) ≤ 126 by omega)]
        exact hn
theorem s_value (s : ByteArray) (hs : s.size ≤ 1048576) : Ev (fun k => spec_l10Value.f k s) (valueOk s) := by
  have := svalue_l0 s hs s.size 0 rfl (by omega)
  rw [List.drop_zero] at this
  have e : valueOk s = (allL prtP s.data.toList && (decide (s.size ≤ 1000) && noBlank s)) := by
    unfold valueOk madeOk
    cases allL prtP s.data.toList <;> cases decide (s.size ≤ 1000) <;> simp
  rw [e]
  exact this
/-- The names before the i-th, from the k-th on, are not its own. -/
def apartFrom (l : List S45) (x : ByteArray) (j : Nat) (i : Nat) : Bool := !decide (x ∈ ((l.take i).map (·.f0)).drop j)
theorem freshIn_at (l : List S45) (i : Nat) (h : i < l.length) : freshIn ((l.take i).map (·.f0)) ((l.drop i).map (·.f0)) = (apartFrom l l[i].f0 0 i && freshIn ((l.take (i + 1)).map (·.f0)) ((l.drop (i + 1)).map (·.f0))) := by
  rw [List.drop_eq_getElem_cons h, List.map_cons, freshIn]
  unfold apartFrom
  rw [List.drop_zero]
  congr 2
  rw [List.take_add_one, List.getElem?_eq_getElem h, List.map_append]
  rfl
theorem sdiff_l1 (l : List S45) (hl : l.length ≤ 1048576) (i : Nat) (hi : i < l.length) (b : Bool) (hr : Ev (fun k => spec_l10Different.l0 k l ((i + 1 : Nat) : Int)) b) : ∀ (d j : Nat), i - j = d → j ≤ i →
    Ev (fun k => spec_l10Different.l1 k l (i : Int) (j : Int)) (apartFrom l l[i].f0 j i && b) := by
  intro d
  induction d with
  | zero =>
    intro j hd hj
    have hw : wrap64 ((i : Int) + 1) = ((i + 1 : Nat) : Int) := by rw [wrap64_id (by omega) (by omega)]; rfl
    have e : apartFrom l l[i].f0 j i = true := by
      unfold apartFrom
      rw [List.drop_eq_nil_of_le (by simp; omega)]; rfl
    rw [e]
    exact Ev.step (fun k => by rw [spec_l10Different.l1, if_neg (by omega), hw]) hr
  | succ d ih =>
    intro j hd hj
    have hlj : j < l.length := by omega
    have hw : wrap64 ((j : Int) + 1) = ((j + 1 : Nat) : Int) := by rw [wrap64_id (by omega) (by omega)]; rfl
    have r1 := rdi_Pair l i hi
    have r2 := rdi_Pair l j hlj
    have hn := ih (j + 1) (by omega) (by omega)
    have e : ((l.take i).map (·.f0)).drop j = l[j].f0 :: ((l.take i).map (·.f0)).drop (j + 1) := by
      rw [List.drop_eq_getElem_cons (by simp; omega)]; simp
    refine Ev.step (fun k => by rw [spec_l10Different.l1, if_pos (by omega), if_pos (by omega), if_pos (by omega), if_pos (by omega), if_pos (by omega), r1, r2, hw]) ?_
    have e2 : apartFrom l l[i].f0 j i = (!decide (l[i].f0 = l[j].f0) && apartFrom l l[i].f0 (j + 1) i) := by
      unfold apartFrom; rw [e]
      by_cases h : l[i].f0 = l[j].f0
      · rw [decide_eq_true (List.mem_cons.2 (Or.inl h)), decide_eq_true h]; rfl
      · by_cases h2 : l[i].f0 ∈ ((l.take i).map (·.f0)).drop (j + 1)
        · rw [decide_eq_true (List.mem_cons.2 (Or.inr h2)), decide_eq_true h2]; simp
        · rw [decide_eq_false (fun h' => (List.mem_cons.1 h').elim h h2), decide_eq_false h, decide_eq_false h2]; rfl
    rw [e2]
    by_cases h : l[i].f0 = l[j].f0
    · exact Ev.pos (ba_toList_inj.2 h) (Ev.give (by rw [decide_eq_true h]; rfl))
    · refine Ev.neg (fun h' => h (ba_toList_inj.1 h')) ?_
      rw [decide_eq_false h]
      exact hn
theorem sdiff_l0 (l : List S45) (hl : l.length ≤ 1048576) : ∀ (d i : Nat), l.length - i = d → i ≤ l.length → Ev (fun k => spec_l10Different.l0 k l (i : Int)) (freshIn ((l.take i).map (·.f0)) ((l.drop i).map (·.f0)) && decide (l.length ≤ 30)) := by
  intro d
  induction d with
  | zero =>
    intro i hd hi
    rw [List.drop_eq_nil_of_le (by omega)]
    refine Ev.step (fun k => by rw [spec_l10Different.l0, if_neg (by omega)]) (Ev.give ?_)
    by_cases h : l.length ≤ 30
    · rw [decide_eq_true h, decide_eq_true (show (l.length : Int) ≤ 30 by omega)]; rfl
    · rw [decide_eq_false h, decide_eq_false (show ¬ (l.length : Int) ≤ 30 by omega)]; simp
  | succ d ih =>
    intro i hd hi
    have hlt : i < l.length := by omega
    rw [freshIn_at l i hlt, Bool.and_assoc]
    exact Ev.step (fun k => by rw [spec_l10Different.l0, if_pos (by omega)]; rfl) (sdiff_l1 l hl i hlt _ (ih (i + 1) (by omega) (by omega)) i 0 rfl (by omega))
theorem s_diff (l : List S45) (hl : l.length ≤ 1048576) : Ev (fun k => spec_l10Different.f k l) (diffOk l && decide (l.length ≤ 30)) := by
  have := sdiff_l0 l hl l.length 0 rfl (by omega)
  rw [List.drop_zero, List.take_zero] at this
  exact this
theorem sfault_l1 (q h : List S45) (m p b : ByteArray) (hh : sizesOk h) : ∀ (d i : Nat), h.length - i = d → i ≤ h.length → Ev (fun k => spec_RequestFault.l1 k (i : Int) m p q h b) (if (h.drop i).all headerOk = true then (0 : Int) else 1) := by
  intro d
  induction d with
  | zero =>
    intro i hd hi
    rw [List.drop_eq_nil_of_le (by omega)]
    exact Ev.step (fun k => by rw [spec_RequestFault.l1, if_neg (by omega)]; rfl) (Ev.now _)
  | succ d ih =>
    intro i hd hi
    have hlt : i < h.length := by omega
    have hr := rdi_Pair h i hlt
    have hw : wrap64 ((i : Int) + 1) = ((i + 1 : Nat) : Int) := by rw [wrap64_id (by have := hh.1; omega) (by have := hh.1; omega)]; rfl
    have hz := hh.2 _ (List.getElem_mem hlt)
    have hn := ih (i + 1) (by omega) (by omega)
    rw [List.drop_eq_getElem_cons hlt, List.all_cons]
    refine Ev.step (fun k => by rw [spec_RequestFault.l1, if_pos (by omega), if_pos (by omega), hr, hw]) (Ev.bind (s_name _ hz.1) ?_)
    unfold headerOk at hn ⊢
    cases nameOk h[i].f0 with
    | false => exact Ev.neg (by decide) (Ev.now _)
    | true =>
      refine Ev.pos rfl (Ev.bind (s_value _ hz.2) ?_)
      cases valueOk h[i].f1 with
      | false => exact Ev.neg (by decide) (Ev.now _)
      | true => exact Ev.pos rfl hn
theorem sfault_l0 (q h : List S45) (m p b : ByteArray) (hq : q.length ≤ 1048576) (hh : sizesOk h) : ∀ (d i : Nat), q.length - i = d → i ≤ q.length → Ev (fun k => spec_RequestFault.l0 k (i : Int) m p q h b) (if ((q.drop i).all queryOk && h.all headerOk) = true then (0 : Int) else 1) := by
  intro d
  induction d with
  | zero =>
    intro i hd hi
    rw [List.drop_eq_nil_of_le (by omega)]
    exact Ev.step (fun k => by rw [spec_RequestFault.l0, if_neg (by omega)]; rfl) (sfault_l1 q h m p b hh h.length 0 rfl (by omega))
  | succ d ih =>
    intro i hd hi
    have hlt : i < q.length := by omega
    have hr := rdi_Pair q i hlt
    have hw : wrap64 ((i : Int) + 1) = ((i + 1 : Nat) : Int) := by rw [wrap64_id (by omega) (by omega)]; rfl
    have hn := ih (i + 1) (by omega) (by omega)
    rw [List.drop_eq_getElem_cons hlt, List.all_cons]
    refine Ev.step (fun k => by rw [spec_RequestFault.l0, if_pos (by omega), if_pos (by omega), hr, hw]) ?_
    unfold queryOk at hn ⊢
    by_cases h1 : (q[i].f0.size : Int) < 1
    · exact Ev.pos h1 (Ev.give (by rw [decide_eq_false (show ¬ 1 ≤ q[i].f0.size by omega)]; rfl))
    · refine Ev.neg h1 ?_
      rw [decide_eq_true (show 1 ≤ q[i].f0.size by omega)]
      by_cases h2 : (q[i].f0.size : Int) > 100
      · exact Ev.pos h2 (Ev.give (by rw [decide_eq_false (show ¬ q[i].f0.size ≤ 100 by omega)]; rfl))
      · refine Ev.neg h2 ?_
        rw [decide_eq_true (show q[i].f0.size ≤ 100 by omega)]
        by_cases h3 : (q[i].f1.size : Int) > 1000
        · exact Ev.pos h3 (Ev.give (by rw [decide_eq_false (show ¬ q[i].f1.size ≤ 1000 by omega)]; rfl))
        · refine Ev.neg h3 ?_
          rw [decide_eq_true (show q[i].f1.size ≤ 1000 by omega)]
          exact hn
theorem s_fault (m p : ByteArray) (q h : List S45) (b : ByteArray) (hm : m.size ≤ 1048576) (hq : sizesOk q) (hh : sizesOk h) : Ev (fun k => spec_RequestFault.f k m p q h b) (reqFault m p q h b) := by
  have J : Ev (fun k => spec_RequestFault.j0 k true m p q h b) 1 := Ev.step (fun k => by rw [spec_RequestFault.j0, if_pos rfl]) (Ev.now _)
  refine Ev.congr (fun k => by rw [spec_RequestFault.f]) ?_
  unfold reqFault reqOk
  refine Ev.bind (s_method m hm) ?_
  cases methodOk m with
  | false => exact Ev.neg (by decide) J
  | true =>
    refine Ev.pos rfl ?_
    unfold pathOk
    by_cases p1 : (p.size : Int) < 1
    · refine Ev.pos p1 ?_
      have e : p.data.toList = [] := List.length_eq_zero_iff.1 (by rw [data_length]; omega)
      rw [e, show decide ((([] : List UInt8).head?) = some 47) = false from rfl, Bool.and_false]
      exact J
    · refine Ev.neg p1 ?_
      by_cases p2 : (p.size : Int) > 1000
      · refine Ev.pos p2 ?_
        rw [decide_eq_false (show ¬ p.size ≤ 1000 by omega)]
        exact J
      · refine Ev.neg p2 ?_
        rw [decide_eq_true (show p.size ≤ 1000 by omega)]
        obtain ⟨c, e1, b1⟩ := head_bt p (by omega)
        refine Ev.pos (by omega) ?_
        rw [b1, e1]
        have k1 : ((c.toNat : Int) = 47) ↔ c = 47 := byte_eq_lit c 47 (by omega)
        by_cases hc : (c.toNat : Int) = 47
        · refine Ev.pos hc ?_
          rw [k1.1 hc, show decide ((some 47 : Option UInt8) = some 47) = true from rfl]
          unfold pairsOk
          by_cases q1 : (q.length : Int) > 30
          · refine Ev.pos q1 ?_
            rw [decide_eq_false (show ¬ q.length ≤ 30 by omega)]; exact J
          · refine Ev.neg q1 ?_
            rw [decide_eq_true (show q.length ≤ 30 by omega)]
            by_cases h1 : (h.length : Int) > 30
            · refine Ev.pos h1 ?_
              rw [decide_eq_false (show ¬ h.length ≤ 30 by omega)]
              cases diffOk q <;> cases q.all queryOk <;> exact J
            · refine Ev.neg h1 ?_
              rw [decide_eq_true (show h.length ≤ 30 by omega)]
              refine Ev.bind (s_diff q hq.1) ?_
              rw [decide_eq_true (show q.length ≤ 30 by omega), Bool.and_true]
              cases diffOk q with
              | false => exact Ev.neg (by decide) J
              | true =>
                refine Ev.pos rfl (Ev.bind (s_diff h hh.1) ?_)
                rw [decide_eq_true (show h.length ≤ 30 by omega), Bool.and_true]
                cases diffOk h with
                | false =>
                  refine Ev.neg (by decide) ?_
                  cases q.all queryOk <;> exact J
                | true =>
                  refine Ev.pos rfl ?_
                  by_cases hb : (b.size : Int) > 100000
                  · rw [decide_eq_true hb, decide_eq_false (show ¬ b.size ≤ 100000 by omega)]
                    cases q.all queryOk <;> cases h.all headerOk <;> exact J
                  · rw [decide_eq_false hb, decide_eq_true (show b.size ≤ 100000 by omega)]
                    refine Ev.step (fun k => by rw [spec_RequestFault.j0, if_neg (by decide)]) ?_
                    have := sfault_l0 q h m p b hq.1 hh q.length 0 rfl (by omega)
                    rw [List.drop_zero] at this
                    simp only [Bool.true_and, Bool.and_true]
                    exact this
        · refine Ev.neg hc ?_
          rw [show decide ((some c : Option UInt8) = some 47) = false from decide_eq_false (fun h => hc (k1.2 (Option.some.inj h))), Bool.and_false]
          exact J

theorem sz_req (m p : ByteArray) (q h : List S71) (b : ByteArray) (g0 : good9 m) (g1 : good9 p) (g2 : good22 q) (g3 : good22 h) (g4 : good9 b) :
    ∃ r, Ev (fun k => laws_szRequest.f k m p q h b 1048576) r ∧ (0 ≤ r → m.size ≤ 1048576 ∧ p.size ≤ 1048576 ∧ (q.length ≤ 1048576 ∧ ∀ x ∈ q, x.f0.size ≤ 1048576 ∧ x.f1.size ≤ 1048576) ∧ (h.length ≤ 1048576 ∧ ∀ x ∈ h, x.f0.size ≤ 1048576 ∧ x.f1.size ≤ 1048576) ∧ b.size ≤ 1048576) := by
  unfold good9 at g0 g1 g4
  have w1 : wrap64 (1048576 - (m.size : Int)) = 1048576 - (m.size : Int) := wrap64_id (by omega) (by omega)
  by_cases c1 : (1048576 : Int) - (m.size : Int) < 0
  · exact ⟨-1, Ev.congr (fun k => by rw [laws_szRequest.f, w1, if_pos c1]) (Ev.now _), fun h => by omega⟩
  have w2 : wrap64 (1048576 - (m.size : Int) - (p.size : Int)) = 1048576 - (m.size : Int) - (p.size : Int) := wrap64_id (by omega) (by omega)
  by_cases c2 : (1048576 : Int) - (m.size : Int) - (p.size : Int) < 0
  · exact ⟨-1, Ev.congr (fun k => by rw [laws_szRequest.f, w1, if_neg c1, w2, if_pos c2]) (Ev.now _), fun h => by omega⟩
  obtain ⟨r1, e1, b1⟩ := szPairS q (1048576 - (m.size : Int) - (p.size : Int)) g2.1 (fun x hx => ⟨(g2.2 x hx).1, (g2.2 x hx).2⟩) (by omega) (by omega)
  by_cases c3 : r1 < 0
  · exact ⟨-1, Ev.congr (fun k => by rw [laws_szRequest.f, w1, if_neg c1, w2, if_neg c2]) (Ev.bind e1 (Ev.pos c3 (Ev.now _))), fun h => by omega⟩
  have q1 := b1 (by omega)
  obtain ⟨r2, e2, b2⟩ := szPairS h r1 g3.1 (fun x hx => ⟨(g3.2 x hx).1, (g3.2 x hx).2⟩) (by omega) (by omega)
  by_cases c4 : r2 < 0
  · exact ⟨-1, Ev.congr (fun k => by rw [laws_szRequest.f, w1, if_neg c1, w2, if_neg c2]) (Ev.bind e1 (Ev.neg c3 (Ev.bind e2 (Ev.pos c4 (Ev.now _))))), fun h => by omega⟩
  have q2 := b2 (by omega)
  have w3 : wrap64 (r2 - (b.size : Int)) = r2 - (b.size : Int) := wrap64_id (by omega) (by omega)
  by_cases c5 : r2 - (b.size : Int) < 0
  · exact ⟨-1, Ev.congr (fun k => by rw [laws_szRequest.f, w1, if_neg c1, w2, if_neg c2]) (Ev.bind e1 (Ev.neg c3 (Ev.bind e2 (Ev.neg c4 (Ev.pos (show wrap64 (r2 - (b.size : Int)) < 0 by rw [w3]; exact c5) (Ev.now _)))))), fun h => by omega⟩
  · exact ⟨r2 - (b.size : Int), Ev.congr (fun k => by rw [laws_szRequest.f, w1, if_neg c1, w2, if_neg c2]) (Ev.bind e1 (Ev.neg c3 (Ev.bind e2 (Ev.neg c4 (Ev.neg (show ¬ wrap64 (r2 - (b.size : Int)) < 0 by rw [w3]; exact c5) (Ev.give w3)))))), fun _ => ⟨by omega, by omega, q1.2, q2.2, by omega⟩⟩
theorem to_req (m p : ByteArray) (q h : List S71) (b : ByteArray) (hq : q.length ≤ 1048576) (hh : h.length ≤ 1048576) : Ev (fun k => laws_toRequest.f k m p q h b) (m, p, q.map pairOf, h.map pairOf, b) := by
  refine Ev.congr (fun k => by rw [laws_toRequest.f]) ?_
  exact Ev.bind (toPairS q hq) (Ev.bind (toPairS h hh) (Ev.now _))
theorem sizes_of (l : List S71) (h : l.length ≤ 1048576 ∧ ∀ x ∈ l, x.f0.size ≤ 1048576 ∧ x.f1.size ≤ 1048576) : sizesOk (l.map pairOf) :=
  ⟨by simpa using h.1, fun x hx => by obtain ⟨y, hy, rfl⟩ := List.mem_map.1 hx; exact h.2 y hy⟩
theorem eq_req (m p : ByteArray) (q h : List S45) (b : ByteArray) (hq : sizesOk q) (hh : sizesOk h) : Ev (fun k => laws_eqRequest.f k m p q h b m p q h b) true := by
  refine Ev.congr (fun k => by rw [laws_eqRequest.f, if_pos rfl, if_pos rfl]) ?_
  exact Ev.bind (eqPairS q hq.1) (Ev.pos rfl (Ev.bind (eqPairS h hh.1) (Ev.pos rfl (Ev.congr (fun k => by rw [if_pos rfl]) (Ev.now _)))))

/-! Pieces with a comma between them. -/
def joinTl (sep : ByteArray) : List ByteArray → ByteArray
  | [] => ⟨#[]⟩
  | y :: r => sep ++ y ++ joinTl sep r
theorem ba_list {a b : ByteArray} (h : a.data.toList = b.data.toList) : a = b := ByteArray.ext (Array.toList_inj.1 h)
theorem ba_app_list (a b : ByteArray) : (a ++ b).data.toList = a.data.toList ++ b.data.toList := by rw [ByteArray.data_append, Array.toList_append]
theorem ba_nil_app (a : ByteArray) : (⟨#[]⟩ : ByteArray) ++ a = a := ba_list (by rw [ba_app_list]; rfl)
theorem ba_app_nil (a : ByteArray) : a ++ (⟨#[]⟩ : ByteArray) = a := ba_list (by rw [ba_app_list]; simp)
theorem joinTl_list (sep : ByteArray) : ∀ r : List ByteArray, (joinTl sep r).data.toList = Lib.joinTail sep.data.toList (r.map (·.data.toList))
  | [] => rfl
  | y :: r => by
    rw [joinTl, ba_app_list, ba_app_list, joinTl_list sep r]
    rfl
theorem joinOf_nil (sep : ByteArray) : joinOf [] sep = ⟨#[]⟩ := rfl
theorem joinOf_cons (x : ByteArray) (r : List ByteArray) (sep : ByteArray) : joinOf (x :: r) sep = x ++ joinTl sep r := by
  apply ba_list
  rw [ba_app_list, joinTl_list]
  show (Lib.join (x.data.toList :: r.map (·.data.toList)) sep.data.toList).toArray.toList = _
  rw [Lib.join_cons]
theorem joinTl_size (sep : ByteArray) (b : Nat) (hs : sep.size = 1) : ∀ r : List ByteArray, (∀ x ∈ r, x.size ≤ b) → (joinTl sep r).size ≤ r.length * (b + 1)
  | [], _ => Nat.zero_le _
  | y :: r, h => by
    have h1 := joinTl_size sep b hs r (fun x hx => h x (List.mem_cons_of_mem _ hx))
    have h2 := h y List.mem_cons_self
    rw [joinTl, ByteArray.size_append, ByteArray.size_append, hs, List.length_cons, Nat.succ_mul]
    omega
theorem joinOf_size (l : List ByteArray) (sep : ByteArray) (b : Nat) (hs : sep.size = 1) (h : ∀ x ∈ l, x.size ≤ b) : (joinOf l sep).size ≤ l.length * (b + 1) := by
  cases l with
  | nil => exact Nat.zero_le _
  | cons x r =>
    have h1 := joinTl_size sep b hs r (fun x hx => h x (List.mem_cons_of_mem _ hx))
    have h2 := h x List.mem_cons_self
    rw [joinOf_cons, ByteArray.size_append, List.length_cons, Nat.succ_mul]
    omega
theorem impl_join (l : List ByteArray) (sep : ByteArray) (b : Nat) (hs : sep.size = 1) (h : ∀ x ∈ l, x.size ≤ b) (hl : l.length ≤ 1000000) (hb : b ≤ 1000000) : strings_Join.f l sep = some (joinOf l sep) := by
  unfold strings_Join.f
  have h1 := joinOf_size l sep b hs h
  have h2 : l.length * (b + 1) ≤ 1000000 * 1000001 := Nat.mul_le_mul hl (by omega)
  rw [if_pos ⟨Nat.le_trans hl (by decide), Nat.le_trans h1 (Nat.le_trans h2 (by decide))⟩]

/-! A number's decimal digits. -/
theorem dec_len : ∀ (d n : Nat), n < 10 ^ (d + 1) → (Lib.decDigits n).length ≤ d + 1 := by
  intro d
  induction d with
  | zero =>
    intro n hn
    rw [Lib.decDigits, dif_pos (by omega)]
    simp
  | succ d ih =>
    intro n hn
    rw [Lib.decDigits]
    split
    · simp
    · have := ih (n / 10) (by rw [Nat.pow_succ] at hn; exact Nat.div_lt_of_lt_mul (by omega))
      simp
      omega
theorem itoa_nat (n : Nat) : itoaOf (n : Int) = ⟨(Lib.decDigits n).toArray⟩ := by
  unfold itoaOf Lib.itoa
  rw [if_neg (by omega), Int.toNat_natCast]
theorem itoa_size (n : Nat) (h : n < 10 ^ 19) : (itoaOf (n : Int)).size ≤ 19 := by
  rw [itoa_nat]
  exact dec_len 18 n h
theorem spec_dec_d : ∀ (d n : Nat), d ≤ 18 → n < 10 ^ (d + 1) → n < 9223372036854775808 → Ev (fun k => spec_l01Dec.f k (n : Int)) (itoaOf (n : Int)) := by
  have one : ∀ n : Nat, n < 10 → Ev (fun k => spec_l01Dec.f k (n : Int)) (itoaOf (n : Int)) := by
    intro n hn
    have w : (wrap64 (48 + (n : Int))) % 256 = ((48 + n : Nat) : Int) := by rw [wrap64_id (by omega) (by omega)]; omega
    refine Ev.step (fun k => by rw [spec_l01Dec.f, if_neg (by omega), if_pos (by omega), w]) (Ev.give ?_)
    rw [itoa_nat, Lib.decDigits, dif_pos hn]
    rfl
  intro d
  induction d with
  | zero => exact fun n _ hn _ => one n (by omega)
  | succ d ih =>
    intro n hd hn hb
    by_cases h : n < 10
    · exact one n h
    · have hr := ih (n / 10) (by omega) (by rw [Nat.pow_succ] at hn; exact Nat.div_lt_of_lt_mul (by omega)) (by omega)
      have hz := itoa_size (n / 10) (Nat.lt_of_lt_of_le (show n / 10 < 10 ^ (d + 1) by rw [Nat.pow_succ] at hn; exact Nat.div_lt_of_lt_mul (by omega)) (Nat.pow_le_pow_right (by decide) (by omega)))
      have w0 : Int.tdiv (n : Int) 10 = ((n / 10 : Nat) : Int) := by rw [Int.tdiv_eq_ediv_of_nonneg (by omega)]; rfl
      have w1 : wrap64 ((n / 10 : Nat) : Int) = ((n / 10 : Nat) : Int) := wrap64_id (by omega) (by omega)
      have w2 : Int.tmod (n : Int) 10 = ((n % 10 : Nat) : Int) := by rw [Int.tmod_eq_emod_of_nonneg (by omega)]; rfl
      have w3 : (wrap64 (48 + ((n % 10 : Nat) : Int))) % 256 = ((48 + n % 10 : Nat) : Int) := by clear w1; rw [wrap64_id (by omega) (by omega)]; omega
      have c1 : ¬ ((n : Int) < 0) := by clear w1 w3; omega
      have c2 : ¬ ((n : Int) < 10) := by clear w1 w3; omega
      refine Ev.step (fun k => by rw [spec_l01Dec.f, if_neg c1, if_neg c2, w0, w1, w2, w3]) (Ev.bind hr (Ev.bindS rfl (Ev.pos ?_ (Ev.give ?_))))
      · rw [size_strOfNums]
        show (itoaOf ((n / 10 : Nat) : Int)).size + 1 ≤ 9223372036854775807
        clear w1 w3
        omega
      · rw [itoa_nat, itoa_nat]
        conv => rhs; rw [Lib.decDigits, dif_neg h]
        apply ByteArray.ext
        rw [ByteArray.data_append]
        apply Array.toList_inj.1
        rw [Array.toList_append]
        rfl
theorem spec_dec (n : Nat) (h : n < 9223372036854775808) : Ev (fun k => spec_l01Dec.f k (n : Int)) (itoaOf (n : Int)) := spec_dec_d 18 n (Nat.le_refl _) (by omega) h

/-! What WriteRequest writes. -/
theorem esc1_len (c : UInt8) : (esc1 c).length ≤ 3 := by unfold esc1; split <;> simp
theorem escL_len : ∀ l : List UInt8, (escL l).length ≤ 3 * l.length
  | [] => Nat.zero_le _
  | c :: l => by
    have h1 := esc1_len c
    have h2 := escL_len l
    rw [escL, List.length_append, List.length_cons]
    omega
def escB (s : ByteArray) : ByteArray := mkB (escL s.data.toList)
theorem escB_size (s : ByteArray) : (escB s).size ≤ 3 * s.size := by
  unfold escB
  rw [mkB_size, ← data_length s]
  exact escL_len _
def pairText (x : S45) : ByteArray := (escB x.f0 ++ (⟨#[61]⟩ : ByteArray)) ++ escB x.f1
def queryText (q : List S45) : ByteArray := joinOf (q.map pairText) (⟨#[38]⟩ : ByteArray)
def hlText (x : S45) : ByteArray := ((x.f0 ++ (⟨#[58, 32]⟩ : ByteArray)) ++ x.f1) ++ (⟨#[10]⟩ : ByteArray)
def headsText : List S45 → ByteArray
  | [] => ⟨#[]⟩
  | x :: r => hlText x ++ headsText r
def lenWord : ByteArray := ⟨#[108, 101, 110, 103, 116, 104, 58, 32]⟩
def endText (b : ByteArray) : ByteArray := ((lenWord ++ itoaOf (b.size : Int)) ++ (⟨#[10, 10]⟩ : ByteArray))
def askText (q : List S45) : ByteArray := match q with
  | [] => ⟨#[]⟩
  | x :: r => (⟨#[63]⟩ : ByteArray) ++ queryText (x :: r)
def headText (m p : ByteArray) (q h : List S45) (b : ByteArray) : ByteArray := ((((m ++ (⟨#[32]⟩ : ByteArray)) ++ escB p) ++ askText q) ++ (⟨#[10]⟩ : ByteArray)) ++ (headsText h ++ endText b)
def reqText (m p : ByteArray) (q h : List S45) (b : ByteArray) : ByteArray := if reqOk m p q h b = true then headText m p q h b ++ b else ⟨#[]⟩
/-! What a right request measures. -/
def qSmall (x : S45) : Prop := x.f0.size ≤ 100 ∧ x.f1.size ≤ 1000
theorem req_small {m p : ByteArray} {q h : List S45} {b : ByteArray} (r : reqOk m p q h b = true) : m.size ≤ 10 ∧ p.size ≤ 1000 ∧ (q.length ≤ 30 ∧ ∀ x ∈ q, qSmall x) ∧ (h.length ≤ 30 ∧ ∀ x ∈ h, qSmall x) ∧ b.size ≤ 100000 := by
  unfold reqOk methodOk madeOk pathOk pairsOk at r
  simp only [Bool.and_eq_true, decide_eq_true_eq, List.all_eq_true] at r
  obtain ⟨⟨_, m1, _⟩, ⟨p1, _⟩, ⟨q1, _, q2⟩, ⟨h1, _, h2⟩, b1⟩ := r
  refine ⟨m1, p1, ⟨q1, fun x hx => ?_⟩, ⟨h1, fun x hx => ?_⟩, b1⟩
  · have := q2 x hx
    unfold queryOk at this
    simp only [Bool.and_eq_true, decide_eq_true_eq] at this
    exact ⟨this.2.1, this.2.2⟩
  · have := h2 x hx
    unfold headerOk nameOk valueOk madeOk at this
    simp only [Bool.and_eq_true, decide_eq_true_eq] at this
    exact ⟨by have := this.1.1.2.1; omega, this.2.1.2.1⟩
theorem pair_size {x : S45} (h : qSmall x) : (pairText x).size ≤ 3301 := by
  have h1 := escB_size x.f0
  have h2 := escB_size x.f1
  have e : (⟨#[61]⟩ : ByteArray).size = 1 := rfl
  unfold qSmall at h
  unfold pairText
  rw [ByteArray.size_append, ByteArray.size_append]
  omega
theorem query_size {q : List S45} (hl : q.length ≤ 30) (h : ∀ x ∈ q, qSmall x) : (queryText q).size ≤ 99060 := by
  unfold queryText
  have := joinOf_size (q.map pairText) (⟨#[38]⟩ : ByteArray) 3301 rfl (fun y hy => by obtain ⟨x, hx, rfl⟩ := List.mem_map.1 hy; exact pair_size (h x hx))
  rw [List.length_map] at this
  have : q.length * 3302 ≤ 30 * 3302 := Nat.mul_le_mul_right _ hl
  omega
theorem hl_size {x : S45} (h : qSmall x) : (hlText x).size ≤ 1103 := by
  have e : (⟨#[58, 32]⟩ : ByteArray).size = 2 := rfl
  have e2 : (⟨#[10]⟩ : ByteArray).size = 1 := rfl
  unfold qSmall at h
  unfold hlText
  rw [ByteArray.size_append, ByteArray.size_append, ByteArray.size_append]
  omega
theorem pair_ev_i (x : S45) (h : qSmall x) : Ev (fun k => impl_writePair.f k x.f0 x.f1) (pairText x) := by
  have h1 := escB_size x.f0
  have h2 := escB_size x.f1
  have e : (⟨#[61]⟩ : ByteArray).size = 1 := rfl
  unfold qSmall at h
  refine Ev.congr (fun k => by rw [impl_writePair.f]) ?_
  refine Ev.bind (impl_escaped_ev x.f0 (by omega)) (Ev.pos (show (escB x.f0).size + 1 ≤ _ by omega) (Ev.bind (impl_escaped_ev x.f1 (by omega)) ?_))
  refine Ev.pos (show (escB x.f0 ++ (⟨#[61]⟩ : ByteArray)).size + (escB x.f1).size ≤ _ by rw [ByteArray.size_append]; omega) (Ev.now _)
theorem esc_small (s : ByteArray) (h : s.size ≤ 1000) : escOf s = escB s := by unfold escOf escB; rw [if_neg (by omega)]
theorem pair_ev_s (x : S45) (h : qSmall x) : Ev (fun k => spec_l10Pair.f k x.f0 x.f1) (pairText x) := by
  have h1 := escB_size x.f0
  have h2 := escB_size x.f1
  have e : (⟨#[61]⟩ : ByteArray).size = 1 := rfl
  unfold qSmall at h
  have s1 := spec_escape x.f0 (by omega)
  have s2 := spec_escape x.f1 (by omega)
  rw [esc_small _ (by omega)] at s1 s2
  refine Ev.congr (fun k => by rw [spec_l10Pair.f]) ?_
  refine Ev.bind s1 (Ev.pos (by omega) (Ev.bind s2 ?_))
  refine Ev.pos (by rw [ByteArray.size_append]; omega) (Ev.now _)
theorem wq_l0 (q : List S45) (hl : q.length ≤ 30) (h : ∀ x ∈ q, qSmall x) : ∀ (d i : Nat), q.length - i = d → i ≤ q.length → Ev (fun k => impl_writeQuery.l0 k ((q.take i).map pairText) q (q.length : Int) (i : Int)) (queryText q) := by
  intro d
  induction d with
  | zero =>
    intro i hd hi
    refine Ev.step (fun k => by rw [impl_writeQuery.l0, if_neg (by omega)]) ?_
    rw [List.take_of_length_le (by omega)]
    refine Ev.bindS (impl_join _ _ 3301 rfl (fun y hy => by obtain ⟨x, hx, rfl⟩ := List.mem_map.1 hy; exact pair_size (h x hx)) (by simp; omega) (by omega)) (Ev.now _)
  | succ d ih =>
    intro i hd hi
    have hlt : i < q.length := by omega
    have hr := rdi_Pair q i hlt
    have hw : wrap64 ((i : Int) + 1) = ((i + 1 : Nat) : Int) := by rw [wrap64_id (by omega) (by omega)]; rfl
    have hn := ih (i + 1) (by omega) (by omega)
    rw [List.take_add_one, List.getElem?_eq_getElem hlt, List.map_append] at hn
    refine Ev.step (fun k => by rw [impl_writeQuery.l0, if_pos (by omega), if_pos (by omega), if_pos (by omega), hr, hw]) (Ev.bind (pair_ev_i _ (h _ (List.getElem_mem hlt))) ?_)
    exact Ev.pos (by simp; omega) hn
theorem wq_f (q : List S45) (hl : q.length ≤ 30) (h : ∀ x ∈ q, qSmall x) : Ev (fun k => impl_writeQuery.f k q) (queryText q) := by
  refine Ev.congr (fun k => by rw [impl_writeQuery.f]) ?_
  exact wq_l0 q hl h q.length 0 rfl (by omega)
theorem itoa42 (n : Nat) (h : n < 9223372036854775808) : strconv_Itoa.f (n : Int) = some (itoaOf (n : Int)) := by
  unfold strconv_Itoa.f
  rw [if_pos ⟨by omega, by omega⟩]
theorem heads_size : ∀ h : List S45, (∀ x ∈ h, qSmall x) → (headsText h).size ≤ h.length * 1103
  | [], _ => Nat.zero_le _
  | x :: r, h => by
    have h1 := hl_size (h x List.mem_cons_self)
    have h2 := heads_size r (fun y hy => h y (List.mem_cons_of_mem _ hy))
    rw [headsText, ByteArray.size_append, List.length_cons, Nat.succ_mul]
    omega
theorem app_assoc (a b c : ByteArray) : a ++ b ++ c = a ++ (b ++ c) := ByteArray.append_assoc
theorem iwr_l0 (m p : ByteArray) (q h : List S45) (b : ByteArray) (hl : h.length ≤ 30) (hh : ∀ x ∈ h, qSmall x) (hb : b.size ≤ 100000) : ∀ (d i : Nat) (acc : ByteArray), h.length - i = d → i ≤ h.length → acc.size ≤ 1000000 + 2000 * i →
    Ev (fun k => impl_WriteRequest.l0 k acc h (h.length : Int) (i : Int) m p q h b) (acc ++ (headsText (h.drop i) ++ endText b) ++ b) := by
  intro d
  induction d with
  | zero =>
    intro i acc hd hi ha
    have z := itoa_size b.size (by omega)
    have e8 : (⟨#[108, 101, 110, 103, 116, 104, 58, 32]⟩ : ByteArray).size = 8 := rfl
    have e2 : (⟨#[10, 10]⟩ : ByteArray).size = 2 := rfl
    refine Ev.step (fun k => by rw [impl_WriteRequest.l0, if_neg (by omega)]) (Ev.pos (by omega) (Ev.bindS (itoa42 b.size (by omega)) ?_))
    refine Ev.pos (by rw [ByteArray.size_append]; omega) (Ev.pos (by rw [ByteArray.size_append, ByteArray.size_append]; omega) (Ev.pos (by rw [ByteArray.size_append, ByteArray.size_append, ByteArray.size_append]; omega) (Ev.give ?_)))
    rw [List.drop_eq_nil_of_le (by omega), headsText, ba_nil_app]
    unfold endText lenWord
    simp only [app_assoc]
  | succ d ih =>
    intro i acc hd hi ha
    have hlt : i < h.length := by omega
    have hr := rdi_Pair h i hlt
    have hw : wrap64 ((i : Int) + 1) = ((i + 1 : Nat) : Int) := by rw [wrap64_id (by omega) (by omega)]; rfl
    have hz := hl_size (hh _ (List.getElem_mem hlt))
    have e2 : (⟨#[58, 32]⟩ : ByteArray).size = 2 := rfl
    have e1 : (⟨#[10]⟩ : ByteArray).size = 1 := rfl
    have hq := hh _ (List.getElem_mem hlt)
    have hn := ih (i + 1) (acc ++ hlText h[i]) (by omega) (by omega) (by rw [ByteArray.size_append]; omega)
    unfold qSmall at hq
    rw [List.drop_eq_getElem_cons hlt, headsText]
    refine Ev.step (fun k => by rw [impl_WriteRequest.l0, if_pos (by omega), if_pos (by omega), if_pos (by omega), hr, hw]) ?_
    refine Ev.pos (by omega) (Ev.pos (by rw [ByteArray.size_append]; omega) (Ev.pos (by rw [ByteArray.size_append, ByteArray.size_append]; omega) (Ev.pos (show acc.size + (hlText h[i]).size ≤ _ by omega) ?_)))
    rw [show (((h[i].f0 ++ (⟨#[58, 32]⟩ : ByteArray)) ++ h[i].f1) ++ (⟨#[10]⟩ : ByteArray)) = hlText h[i] from rfl]
    simp only [app_assoc] at hn ⊢
    exact hn
theorem i_write (m p : ByteArray) (q h : List S45) (b : ByteArray) (hm : m.size ≤ 1048576) (hq : sizesOk q) (hh : sizesOk h) : Ev (fun k => impl_WriteRequest.f k m p q h b) (reqText m p q h b) := by
  refine Ev.congr (fun k => by rw [impl_WriteRequest.f]) ?_
  refine Ev.bind (i_fault m p q h b hm hq hh) ?_
  unfold reqText reqFault
  cases hr : reqOk m p q h b with
  | false => exact Ev.neg (by decide) (Ev.now _)
  | true =>
    obtain ⟨m1, p1, ⟨q1, q2⟩, ⟨h1, h2⟩, b1⟩ := req_small hr
    have zp := escB_size p
    have zq := query_size q1 q2
    have e1 : (⟨#[32]⟩ : ByteArray).size = 1 := rfl
    have e2 : (⟨#[10]⟩ : ByteArray).size = 1 := rfl
    have e3 : (⟨#[63]⟩ : ByteArray).size = 1 := rfl
    have hj : ∀ acc : ByteArray, acc.size ≤ 200000 → Ev (fun k => impl_WriteRequest.j0 k acc m p q h b) ((acc ++ (⟨#[10]⟩ : ByteArray)) ++ (headsText h ++ endText b) ++ b) := fun acc ha => by
      refine Ev.step (fun k => by rw [impl_WriteRequest.j0, if_pos (by omega)]) ?_
      exact iwr_l0 m p q h b h1 h2 b1 h.length 0 _ rfl (by omega) (by rw [ByteArray.size_append]; omega)
    refine Ev.pos rfl (Ev.pos (by omega) (Ev.bind (impl_escaped_ev p (by omega)) (Ev.pos (show (m ++ (⟨#[32]⟩ : ByteArray)).size + (escB p).size ≤ _ by rw [ByteArray.size_append]; omega) ?_)))
    rw [if_pos rfl]
    unfold headText
    cases q with
    | nil =>
      refine Ev.neg (by simp) ?_
      have := hj ((m ++ (⟨#[32]⟩ : ByteArray)) ++ escB p) (by rw [ByteArray.size_append, ByteArray.size_append]; omega)
      unfold askText
      rw [ba_app_nil]
      exact this
    | cons x r =>
      refine Ev.pos (show ((x :: r).length : Int) > 0 by rw [List.length_cons]; omega) (Ev.bind (wq_f (x :: r) q1 q2) (Ev.pos (by omega) (Ev.pos ?_ ?_)))
      · show ((m ++ (⟨#[32]⟩ : ByteArray)) ++ escB p).size + _ ≤ _
        rw [ByteArray.size_append, ByteArray.size_append, ByteArray.size_append]; omega
      · exact hj (((m ++ (⟨#[32]⟩ : ByteArray)) ++ escB p) ++ ((⟨#[63]⟩ : ByteArray) ++ queryText (x :: r))) (by simp only [ByteArray.size_append]; omega)
/-! The reference's. -/
theorem swr_l1 (m p : ByteArray) (q h : List S45) (b : ByteArray) (hl : h.length ≤ 30) (hh : ∀ x ∈ h, qSmall x) (hb : b.size ≤ 100000) : ∀ (d i : Nat) (acc : ByteArray), h.length - i = d → i ≤ h.length → acc.size ≤ 1000000 + 2000 * i →
    Ev (fun k => spec_l10Head.l1 k acc (i : Int) m p q h b) (acc ++ (headsText (h.drop i) ++ endText b)) := by
  intro d
  induction d with
  | zero =>
    intro i acc hd hi ha
    have z := itoa_size b.size (by omega)
    have e8 : (⟨#[108, 101, 110, 103, 116, 104, 58, 32]⟩ : ByteArray).size = 8 := rfl
    have e2 : (⟨#[10, 10]⟩ : ByteArray).size = 2 := rfl
    refine Ev.step (fun k => by rw [spec_l10Head.l1, if_neg (by omega)]) (Ev.pos (by omega) (Ev.bind (spec_dec b.size (by omega)) ?_))
    refine Ev.pos (by rw [ByteArray.size_append]; omega) (Ev.pos (by rw [ByteArray.size_append, ByteArray.size_append]; omega) (Ev.give ?_))
    rw [List.drop_eq_nil_of_le (by omega), headsText, ba_nil_app]
    unfold endText lenWord
    simp only [app_assoc]
  | succ d ih =>
    intro i acc hd hi ha
    have hlt : i < h.length := by omega
    have hr := rdi_Pair h i hlt
    have hw : wrap64 ((i : Int) + 1) = ((i + 1 : Nat) : Int) := by rw [wrap64_id (by omega) (by omega)]; rfl
    have hz := hl_size (hh _ (List.getElem_mem hlt))
    have e2 : (⟨#[58, 32]⟩ : ByteArray).size = 2 := rfl
    have e1 : (⟨#[10]⟩ : ByteArray).size = 1 := rfl
    have hq := hh _ (List.getElem_mem hlt)
    have hn := ih (i + 1) (acc ++ hlText h[i]) (by omega) (by omega) (by rw [ByteArray.size_append]; omega)
    unfold qSmall at hq
    rw [List.drop_eq_getElem_cons hlt, headsText]
    refine Ev.step (fun k => by rw [spec_l10Head.l1, if_pos (by omega), if_pos (by omega), hr, hw]) ?_
    refine Ev.pos (by omega) (Ev.pos (by rw [ByteArray.size_append]; omega) (Ev.pos (by rw [ByteArray.size_append, ByteArray.size_append]; omega) (Ev.pos (by simp only [ByteArray.size_append]; omega) ?_)))
    unfold hlText at hn ⊢
    simp only [app_assoc] at hn ⊢
    exact hn
theorem swr_l0 (m p : ByteArray) (q h : List S45) (b : ByteArray) (hq : q.length ≤ 30) (hqs : ∀ x ∈ q, qSmall x) (hl : h.length ≤ 30) (hh : ∀ x ∈ h, qSmall x) (hb : b.size ≤ 100000) : ∀ (d i : Nat) (acc : ByteArray), q.length - i = d → 1 ≤ i → i ≤ q.length → acc.size ≤ 100000 + 4000 * i →
    Ev (fun k => spec_l10Head.l0 k acc (i : Int) m p q h b) (((acc ++ joinTl (⟨#[38]⟩ : ByteArray) ((q.drop i).map pairText)) ++ (⟨#[10]⟩ : ByteArray)) ++ (headsText h ++ endText b)) := by
  intro d
  induction d with
  | zero =>
    intro i acc hd h1 hi ha
    have e1 : (⟨#[10]⟩ : ByteArray).size = 1 := rfl
    rw [List.drop_eq_nil_of_le (by omega), List.map_nil, joinTl, ba_app_nil]
    refine Ev.step (fun k => by rw [spec_l10Head.l0, if_neg (by omega), if_pos (by omega)]) ?_
    exact swr_l1 m p q h b hl hh hb h.length 0 _ rfl (by omega) (by rw [ByteArray.size_append]; omega)
  | succ d ih =>
    intro i acc hd h1 hi ha
    have hlt : i < q.length := by omega
    have hr := rdi_Pair q i hlt
    have hw : wrap64 ((i : Int) + 1) = ((i + 1 : Nat) : Int) := by rw [wrap64_id (by omega) (by omega)]; rfl
    have hz := pair_size (hqs _ (List.getElem_mem hlt))
    have e1 : (⟨#[38]⟩ : ByteArray).size = 1 := rfl
    have hn := ih (i + 1) ((acc ++ (⟨#[38]⟩ : ByteArray)) ++ pairText q[i]) (by omega) (by omega) (by omega) (by simp only [ByteArray.size_append]; omega)
    rw [List.drop_eq_getElem_cons hlt, List.map_cons, joinTl]
    refine Ev.step (fun k => by rw [spec_l10Head.l0, if_pos (by omega), if_neg (by omega), if_pos (by omega), if_pos (by omega), hr, hw]) ?_
    refine Ev.bind (pair_ev_s _ (hqs _ (List.getElem_mem hlt))) (Ev.pos (by rw [ByteArray.size_append]; omega) ?_)
    simp only [app_assoc] at hn ⊢
    exact hn
theorem s_head (m p : ByteArray) (q h : List S45) (b : ByteArray) (m1 : m.size ≤ 10) (p1 : p.size ≤ 1000) (hq : q.length ≤ 30) (hqs : ∀ x ∈ q, qSmall x) (hl : h.length ≤ 30) (hh : ∀ x ∈ h, qSmall x) (hb : b.size ≤ 100000) :
    Ev (fun k => spec_l10Head.f k m p q h b) (headText m p q h b) := by
  have zp := escB_size p
  have e1 : (⟨#[32]⟩ : ByteArray).size = 1 := rfl
  have e2 : (⟨#[10]⟩ : ByteArray).size = 1 := rfl
  have e3 : (⟨#[63]⟩ : ByteArray).size = 1 := rfl
  have s1 := spec_escape p (by omega)
  rw [esc_small _ p1] at s1
  refine Ev.congr (fun k => by rw [spec_l10Head.f]) ?_
  refine Ev.pos (by omega) (Ev.bind s1 (Ev.pos (by rw [ByteArray.size_append]; omega) ?_))
  unfold headText
  cases q with
  | nil =>
    unfold askText
    rw [ba_app_nil]
    refine Ev.step (fun k => by rw [spec_l10Head.l0, if_neg (by simp), if_pos (by simp only [ByteArray.size_append]; omega)]) ?_
    exact swr_l1 m p [] h b hl hh hb h.length 0 _ rfl (by omega) (by simp only [ByteArray.size_append]; omega)
  | cons x r =>
    have hx := hqs x List.mem_cons_self
    have hz := pair_size hx
    have hr := rdi_Pair (x :: r) 0 (by simp)
    have hn := swr_l0 m p (x :: r) h b hq hqs hl hh hb r.length 1 ((((m ++ (⟨#[32]⟩ : ByteArray)) ++ escB p) ++ (⟨#[63]⟩ : ByteArray)) ++ pairText x) (by simp) (by omega) (by simp) (by simp only [ByteArray.size_append]; omega)
    refine Ev.step (fun k => by rw [spec_l10Head.l0, if_pos (show (0 : Int) < ((x :: r).length : Int) by rw [List.length_cons]; omega), if_pos rfl, if_pos (by simp only [ByteArray.size_append]; omega), if_pos (by omega)]) ?_
    rw [show rd_T45 (x :: r) 0 = x from hr]
    refine Ev.bind (pair_ev_s x hx) (Ev.pos (by simp only [ByteArray.size_append]; omega) ?_)
    rw [show askText (x :: r) = (⟨#[63]⟩ : ByteArray) ++ (pairText x ++ joinTl (⟨#[38]⟩ : ByteArray) (r.map pairText)) by rw [show askText (x :: r) = (⟨#[63]⟩ : ByteArray) ++ joinOf (pairText x :: r.map pairText) (⟨#[38]⟩ : ByteArray) from rfl, joinOf_cons]]
    rw [List.drop_one, List.tail_cons] at hn
    rw [show wrap64 ((0 : Int) + 1) = ((1 : Nat) : Int) from wrap64_id (by omega) (by omega)]
    simp only [app_assoc] at hn ⊢
    exact hn
theorem s_write (m p : ByteArray) (q h : List S45) (b : ByteArray) (hm : m.size ≤ 1048576) (hq : sizesOk q) (hh : sizesOk h) : Ev (fun k => spec_WriteRequest.f k m p q h b) (reqText m p q h b) := by
  refine Ev.congr (fun k => by rw [spec_WriteRequest.f]) ?_
  refine Ev.bind (s_fault m p q h b hm hq hh) ?_
  unfold reqText reqFault
  cases hr : reqOk m p q h b with
  | false => exact Ev.neg (by decide) (Ev.now _)
  | true =>
    obtain ⟨m1, p1, ⟨q1, q2⟩, ⟨h1, h2⟩, b1⟩ := req_small hr
    refine Ev.pos rfl (Ev.bind (s_head m p q h b m1 p1 q1 q2 h1 h2 b1) (Ev.pos ?_ (Ev.now _)))
    have zp := escB_size p
    have zh := heads_size h h2
    have zi := itoa_size b.size (by omega)
    have zq : (askText q).size ≤ 100000 := by
      cases q with
      | nil => exact Nat.zero_le _
      | cons x r =>
        have := query_size q1 q2
        have e3 : (⟨#[63]⟩ : ByteArray).size = 1 := rfl
        unfold askText
        rw [ByteArray.size_append]; omega
    have e1 : (⟨#[32]⟩ : ByteArray).size = 1 := rfl
    have e2 : (⟨#[10]⟩ : ByteArray).size = 1 := rfl
    have e4 : lenWord.size = 8 := rfl
    have e5 : (⟨#[10, 10]⟩ : ByteArray).size = 2 := rfl
    have : h.length * 1103 ≤ 30 * 1103 := Nat.mul_le_mul_right _ h1
    unfold headText endText
    simp only [ByteArray.size_append]
    omega

theorem FnExactWriteRequest : laws_FnExactWriteRequest.Wants := by
  intro m p q h b g0 g1 g2 g3 g4
  refine Ev.rounds (Ev.congr (fun k => by rw [laws_FnExactWriteRequest.f]) ?_)
  obtain ⟨r, e, bd⟩ := sz_req m p q h b g0 g1 g2 g3 g4
  refine Ev.bind e ?_
  by_cases hn : r < 0
  · exact Ev.pos hn (Ev.now _)
  · refine Ev.neg hn ?_
    obtain ⟨b0, b1, b2, b3, b4⟩ := bd (by omega)
    have sq := sizes_of q b2
    have sh := sizes_of h b3
    exact Ev.bind (to_req m p q h b b2.1 b3.1) (Ev.bind (s_write m p _ _ b b0 sq sh) (Ev.bind (to_req m p q h b b2.1 b3.1) (Ev.bind (i_write m p _ _ b b0 sq sh) (Ev.pos rfl (Ev.bind (to_req m p q h b b2.1 b3.1) (Ev.bind (eq_req m p _ _ b sq sh) (Ev.pos rfl (Ev.now _))))))))

end Go.Proofs.YtepnjhmdcaolkaaDoor.Pure
