/- The statement FnExactEscape over numbers and lists alone: the program's Escape and the reference's answer the same text. No condition. -/
import Derived.Test.YtjlbhjacjjkccaaQFnExactEscapex3
import Derived.Laws.BitsAllLaws
import Derived.Laws.Bits64
import Derived.Laws.Strings
set_option linter.all false
namespace Go.Proofs.Ytjlbhjacjjkccaa.Pure
open Go.RowKit Go.Proofs.Ytjlbhjacjjkccaa.QFnExactEscape Go.Proofs.YtjlbhjacjjkccaaW.PrintWords Go.Proofs.YtjlbhjacjjkccaaW.PrintLast Go.Proofs.YtjlbhjacjjkccaaW.PrintMore

/-! Small lemmas on wraps, rounds and lists. -/
theorem wrap64_id {x : Int} (h0 : -9223372036854775808 ≤ x) (h1 : x < 9223372036854775808) : wrap64 x = x := by unfold wrap64; omega
theorem u64_id {x : Int} (h0 : 0 ≤ x) (h1 : x < 18446744073709551616) : IntKind.u64.wrap x = x := by rw [IntKind.wrap_u64]; omega
theorem Ev.pos {α : Type} {c : Prop} [Decidable c] {f g : Nat → Option α} {r : α} (h : c) (e : Ev f r) : Ev (fun k => if c then f k else g k) r := by simpa [h] using e
theorem Ev.neg {α : Type} {c : Prop} [Decidable c] {f g : Nat → Option α} {r : α} (h : ¬ c) (e : Ev g r) : Ev (fun k => if c then f k else g k) r := by simpa [h] using e
theorem Ev.bindS {α β : Type} {g : Option α} {f : Nat → α → Option β} {a : α} {r : β} (h : g = some a) (e : Ev (fun k => f k a) r) : Ev (fun k => g.bind (f k)) r := by subst h; simpa using e
theorem Ev.give {α : Type} {r s : α} (h : s = r) : Ev (fun _ => some s) r := by subst h; exact Ev.now _
theorem bt_drop (s : ByteArray) (i : Nat) (h : i < s.size) : ∃ c : UInt8, s.data.toList.drop i = c :: s.data.toList.drop (i + 1) ∧ bt s (i : Int) = (c.toNat : Int) := by
  have hl : i < s.data.toList.length := by simpa using h
  refine ⟨s.data.toList[i], List.drop_eq_getElem_cons hl, ?_⟩
  unfold bt
  rw [dif_pos (by simpa using h)]
  simp [ByteArray.getElem_eq_getElem_data]
theorem drop_end (s : ByteArray) (i : Nat) (h : s.size ≤ i) : s.data.toList.drop i = [] := List.drop_eq_nil_of_le (by simpa using h)
theorem size_strOfNums (l : List Int) : (strOfNums l).size = l.length := by
  show (strOfNums l).data.size = l.length
  simp [strOfNums]
theorem i64_range {n : Int} (h : (Lit.int .i64 n).wf = true) : -9223372036854775808 ≤ n ∧ n < 9223372036854775808 := by
  simp only [Lit.wf, IntKind.min, IntKind.max, IntKind.signed, IntKind.bits, Bool.and_eq_true, decide_eq_true_eq, if_true] at h; omega
theorem byte_eq_int (c d : UInt8) : ((c.toNat : Int) = (d.toNat : Int)) ↔ c = d := by
  constructor
  · intro h; exact UInt8.toNat_inj.1 (by omega)
  · rintro rfl; rfl
theorem byte_eq_lit (c : UInt8) (n : Nat) (hn : n < 256) : ((c.toNat : Int) = (n : Int)) ↔ c = UInt8.ofNat n := by
  rw [← byte_eq_int]
  have : (UInt8.ofNat n).toNat = n := by simp [UInt8.toNat_ofNat']; omega
  rw [this]
theorem bt_get (s : ByteArray) (i : Nat) (h : i < s.size) : ∃ c : UInt8, s.data.toList[i]? = some c ∧ bt s (i : Int) = (c.toNat : Int) := by
  obtain ⟨c, e, hb⟩ := bt_drop s i h
  refine ⟨c, ?_, hb⟩
  have : (s.data.toList.drop i)[0]? = some c := by rw [e]; rfl
  simpa using this

/-! Go's bits at numbers from 0 on. -/
theorem bits_xor_i64 (a b : Nat) (ha : a < 9223372036854775808) (hb : b < 9223372036854775808) : Go.bits .xor .i64 (a : Int) (b : Int) = ((a ^^^ b : Nat) : Int) := by
  have hx : a ^^^ b < 2 ^ 63 := Nat.xor_lt_two_pow (by simpa using ha) (by simpa using hb)
  show IntKind.i64.wrap (((BitVec.ofInt 64 (a : Int)) ^^^ (BitVec.ofInt 64 (b : Int))).toNat : Int) = _
  rw [BitVec.toNat_xor, BitVec.ofInt_natCast, BitVec.ofInt_natCast, BitVec.toNat_ofNat, BitVec.toNat_ofNat, Nat.mod_eq_of_lt (by omega : a < 2 ^ 64), Nat.mod_eq_of_lt (by omega : b < 2 ^ 64), IntKind.wrap_i64]
  omega
theorem bits_and_i64 (a b : Nat) (ha : a < 9223372036854775808) (hb : b < 9223372036854775808) : Go.bits .and .i64 (a : Int) (b : Int) = ((a &&& b : Nat) : Int) := by
  have hx : a &&& b < 2 ^ 63 := Nat.and_lt_two_pow _ (by simpa using hb)
  show IntKind.i64.wrap (((BitVec.ofInt 64 (a : Int)) &&& (BitVec.ofInt 64 (b : Int))).toNat : Int) = _
  rw [BitVec.toNat_and, BitVec.ofInt_natCast, BitVec.ofInt_natCast, BitVec.toNat_ofNat, BitVec.toNat_ofNat, Nat.mod_eq_of_lt (by omega : a < 2 ^ 64), Nat.mod_eq_of_lt (by omega : b < 2 ^ 64), IntKind.wrap_i64]
  omega
theorem bits_xor_u8 (a b : Nat) (ha : a < 256) (hb : b < 256) : Go.bits .xor .u8 (a : Int) (b : Int) = ((a ^^^ b : Nat) : Int) := by
  have hx : a ^^^ b < 2 ^ 8 := Nat.xor_lt_two_pow (by simpa using ha) (by simpa using hb)
  show IntKind.u8.wrap (((BitVec.ofInt 8 (a : Int)) ^^^ (BitVec.ofInt 8 (b : Int))).toNat : Int) = _
  rw [BitVec.toNat_xor, BitVec.ofInt_natCast, BitVec.ofInt_natCast, BitVec.toNat_ofNat, BitVec.toNat_ofNat, Nat.mod_eq_of_lt (by omega : a < 2 ^ 8), Nat.mod_eq_of_lt (by omega : b < 2 ^ 8), IntKind.wrap_u8]
  omega
theorem bits_and_u8 (a b : Nat) (ha : a < 256) (hb : b < 256) : Go.bits .and .u8 (a : Int) (b : Int) = ((a &&& b : Nat) : Int) := by
  have hx : a &&& b < 2 ^ 8 := Nat.and_lt_two_pow _ (by simpa using hb)
  show IntKind.u8.wrap (((BitVec.ofInt 8 (a : Int)) &&& (BitVec.ofInt 8 (b : Int))).toNat : Int) = _
  rw [BitVec.toNat_and, BitVec.ofInt_natCast, BitVec.ofInt_natCast, BitVec.toNat_ofNat, BitVec.toNat_ofNat, Nat.mod_eq_of_lt (by omega : a < 2 ^ 8), Nat.mod_eq_of_lt (by omega : b < 2 ^ 8), IntKind.wrap_u8]
  omega
theorem bits_xor_u16 (a b : Nat) (ha : a < 65536) (hb : b < 65536) : Go.bits .xor .u16 (a : Int) (b : Int) = ((a ^^^ b : Nat) : Int) := by
  have hx : a ^^^ b < 2 ^ 16 := Nat.xor_lt_two_pow (by simpa using ha) (by simpa using hb)
  show IntKind.u16.wrap (((BitVec.ofInt 16 (a : Int)) ^^^ (BitVec.ofInt 16 (b : Int))).toNat : Int) = _
  rw [BitVec.toNat_xor, BitVec.ofInt_natCast, BitVec.ofInt_natCast, BitVec.toNat_ofNat, BitVec.toNat_ofNat, Nat.mod_eq_of_lt (by omega : a < 2 ^ 16), Nat.mod_eq_of_lt (by omega : b < 2 ^ 16), IntKind.wrap_u16]
  omega
theorem bits_and_u16 (a b : Nat) (ha : a < 65536) (hb : b < 65536) : Go.bits .and .u16 (a : Int) (b : Int) = ((a &&& b : Nat) : Int) := by
  have hx : a &&& b < 2 ^ 16 := Nat.and_lt_two_pow _ (by simpa using hb)
  show IntKind.u16.wrap (((BitVec.ofInt 16 (a : Int)) &&& (BitVec.ofInt 16 (b : Int))).toNat : Int) = _
  rw [BitVec.toNat_and, BitVec.ofInt_natCast, BitVec.ofInt_natCast, BitVec.toNat_ofNat, BitVec.toNat_ofNat, Nat.mod_eq_of_lt (by omega : a < 2 ^ 16), Nat.mod_eq_of_lt (by omega : b < 2 ^ 16), IntKind.wrap_u16]
  omega
theorem and_top (w a : Nat) (h : a < 2 ^ (w + 1)) : a &&& 2 ^ w = 0 ↔ a < 2 ^ w := by
  have hp : 0 < 2 ^ w := Nat.two_pow_pos w
  have ht : a.testBit w = decide (2 ^ w ≤ a) := by
    rw [Nat.testBit_eq_decide_div_mod_eq]
    have h2 : a / 2 ^ w < 2 := Nat.div_lt_of_lt_mul (by rw [Nat.pow_succ] at h; exact h)
    by_cases hc : 2 ^ w ≤ a
    · have : 1 ≤ a / 2 ^ w := (Nat.le_div_iff_mul_le hp).2 (by omega)
      have e : a / 2 ^ w = 1 := by omega
      simp [e, hc]
    · have e : a / 2 ^ w = 0 := Nat.div_eq_of_lt (by omega)
      simp [e, hc]
  constructor
  · intro h0
    have hb : (a &&& 2 ^ w).testBit w = false := by rw [h0]; simp
    rw [Nat.testBit_and, Nat.testBit_two_pow_self, Bool.and_true, ht] at hb
    simpa using hb
  · intro hl
    apply Nat.eq_of_testBit_eq
    intro i
    rw [Nat.testBit_and, Nat.zero_testBit, Nat.testBit_two_pow]
    by_cases hi : w = i
    · subst hi
      rw [ht]; simp; omega
    · simp [hi]

/-! Bytes as the program's numbers, and as texts. -/
def bI (o : List UInt8) : List Int := o.map fun c => (c.toNat : Int)
def mkB (o : List UInt8) : ByteArray := ⟨o.toArray⟩
theorem strOf_bI (o : List UInt8) : strOfNums (bI o) = mkB o := by
  unfold strOfNums bI mkB
  congr 1
  rw [List.map_map]
  congr 1
  conv => rhs; rw [← List.map_id o]
  apply List.map_congr_left
  intro c _
  simp
theorem bI_snoc (o : List UInt8) (c : UInt8) : bI o ++ [(c.toNat : Int)] = bI (o ++ [c]) := by simp [bI]
theorem bI_app (o p : List UInt8) : bI o ++ bI p = bI (o ++ p) := by simp [bI]
theorem bI_length (o : List UInt8) : (bI o).length = o.length := by simp [bI]
theorem mkB_list (o : List UInt8) : (mkB o).data.toList = o := rfl
theorem mkB_toList (o : List UInt8) : (mkB o).toList = o := by rw [ByteArray.toList_eq]; rfl
theorem mkB_size (o : List UInt8) : (mkB o).size = o.length := by show o.toArray.size = _; simp
theorem mkB_data (s : ByteArray) : mkB s.data.toList = s := by unfold mkB; simp
theorem data_len (s : ByteArray) : s.data.toList.length = s.size := by simp
/-- Two bytes on, where there are. -/
theorem bt_next (s : ByteArray) (i : Nat) (h : i < s.size) : ∃ c : UInt8, s.data.toList.drop i = c :: s.data.toList.drop (i + 1) ∧ bt s (i : Int) = (c.toNat : Int) := bt_drop s i h

/-! Escaped texts: what is not safe stands as % and two digits. -/
def safeB (c : UInt8) : Bool := (97 ≤ c.toNat && c.toNat ≤ 122) || (65 ≤ c.toNat && c.toNat ≤ 90) || (48 ≤ c.toNat && c.toNat ≤ 57) || c.toNat == 45 || c.toNat == 95 || c.toNat == 46 || c.toNat == 47
/-- The digit of a number below 16, in capitals. -/
def upD (n : Nat) : UInt8 := UInt8.ofNat (if n < 10 then 48 + n else 55 + n)
/-- The number of a digit, or none. -/
def unD (c : UInt8) : Option Nat := if 48 ≤ c.toNat ∧ c.toNat ≤ 57 then some (c.toNat - 48) else if 65 ≤ c.toNat ∧ c.toNat ≤ 70 then some (c.toNat - 55) else none
def esc1 (c : UInt8) : List UInt8 := if safeB c = true then [c] else [37, upD (c.toNat / 16), upD (c.toNat % 16)]
def escL : List UInt8 → List UInt8
  | [] => []
  | c :: r => esc1 c ++ escL r
theorem unD_lt {c : UInt8} {n : Nat} (h : unD c = some n) : n < 16 := by
  unfold unD at h
  split at h
  · cases h; omega
  · split at h
    · cases h; omega
    · cases h
theorem unD_up {c : UInt8} {n : Nat} (h : unD c = some n) : upD n = c := by
  unfold unD at h
  unfold upD
  apply UInt8.toNat_inj.1
  have hc := c.toNat_lt
  split at h
  · cases h; rw [if_pos (by omega), UInt8.toNat_ofNat']; omega
  · split at h
    · cases h; rw [if_neg (by omega), UInt8.toNat_ofNat']; omega
    · cases h
theorem upD_un (n : Nat) (h : n < 16) : unD (upD n) = some n := by
  have key : ∀ m : Fin 16, unD (upD m.val) = some m.val := by decide
  exact key ⟨n, h⟩
theorem safe37 : safeB 37 = false := by decide
theorem nib (a b : Nat) (ha : a < 16) (hb : b < 16) : (UInt8.ofNat (a * 16 + b)).toNat = a * 16 + b := by rw [UInt8.toNat_ofNat']; omega
/-- Read loosely. -/
def decL : List UInt8 → List UInt8
  | [] => []
  | [c] => [c]
  | [c, d] => [c, d]
  | c :: a :: b :: r =>
    if c = 37 then
      match unD a, unD b with
      | some x, some y => UInt8.ofNat (x * 16 + y) :: decL r
      | _, _ => c :: decL (a :: b :: r)
    else c :: decL (a :: b :: r)
/-- Read strictly. -/
def unescL : List UInt8 → Option (List UInt8)
  | [] => some []
  | [c] => if safeB c = true then some [c] else none
  | [c, d] => if safeB c = true then (if safeB d = true then some [c, d] else none) else none
  | c :: a :: b :: r =>
    if safeB c = true then (unescL (a :: b :: r)).map (c :: ·)
    else if c = 37 then
      match unD a, unD b with
      | some x, some y => if safeB (UInt8.ofNat (x * 16 + y)) = true then none else (unescL r).map (UInt8.ofNat (x * 16 + y) :: ·)
      | _, _ => none
    else none
theorem unescL_safe {c : UInt8} (h : safeB c = true) (r : List UInt8) : unescL (c :: r) = (unescL r).map (c :: ·) := by
  match r with
  | [] => show (if safeB c = true then some [c] else none) = _; rw [if_pos h]; rfl
  | [d] =>
    rw [unescL, unescL, if_pos h]
    by_cases hd : safeB d = true
    · rw [if_pos hd, if_pos hd]; rfl
    · rw [if_neg hd, if_neg hd]; rfl
  | a :: b :: r => rw [unescL, if_pos h]
theorem unescL_odd {c : UInt8} (h : ¬ safeB c = true) (h37 : ¬ c = 37) (r : List UInt8) : unescL (c :: r) = none := by
  match r with
  | [] => rw [unescL, if_neg h]
  | [d] => rw [unescL, if_neg h]
  | a :: b :: r => rw [unescL, if_neg h, if_neg h37]
theorem decL_plain {c : UInt8} (h37 : ¬ c = 37) (r : List UInt8) : decL (c :: r) = c :: decL r := by
  match r with
  | [] => rfl
  | [d] => rfl
  | a :: b :: r => rw [decL, if_neg h37]
theorem not37 {c : UInt8} (h : safeB c = true) : ¬ c = 37 := fun e => by rw [e, safe37] at h; cases h
theorem esc1_nib {x y : Nat} (hx : x < 16) (hy : y < 16) (h : safeB (UInt8.ofNat (x * 16 + y)) = false) : esc1 (UInt8.ofNat (x * 16 + y)) = [37, upD x, upD y] := by
  unfold esc1
  rw [if_neg (by rw [h]; decide), nib x y hx hy]
  rw [show (x * 16 + y) / 16 = x by omega, show (x * 16 + y) % 16 = y by omega]
/-- What is read strictly is what is read loosely, and its escaped form is the text. -/
theorem unescL_some : ∀ (n : Nat) (t o : List UInt8), t.length ≤ n → unescL t = some o → decL t = o ∧ escL o = t := by
  intro n
  induction n with
  | zero =>
    intro t o hn h
    have : t = [] := List.eq_nil_of_length_eq_zero (by omega)
    subst this
    simp only [unescL, Option.some.injEq] at h
    subst h
    exact ⟨rfl, rfl⟩
  | succ n ih =>
    intro t o hn h
    match t, h with
    | [], h =>
      simp only [unescL, Option.some.injEq] at h
      subst h
      exact ⟨rfl, rfl⟩
    | c :: r, h =>
      by_cases hs : safeB c = true
      · rw [unescL_safe hs] at h
        obtain ⟨o', ho', rfl⟩ := Option.map_eq_some_iff.1 h
        obtain ⟨h1, h2⟩ := ih r o' (by simp at hn; omega) ho'
        refine ⟨by rw [decL_plain (not37 hs), h1], ?_⟩
        rw [escL, h2]; unfold esc1; rw [if_pos hs]; rfl
      · by_cases hc : c = 37
        · subst hc
          match r, h, hn with
          | [], h, _ => rw [unescL, if_neg hs] at h; cases h
          | [a], h, _ => rw [unescL, if_neg hs] at h; cases h
          | a :: b :: r', h, hn =>
            rw [unescL, if_neg hs, if_pos rfl] at h
            match ha : unD a, hb : unD b with
            | none, none => rw [ha, hb] at h; cases h
            | none, some _ => rw [ha, hb] at h; cases h
            | some _, none => rw [ha, hb] at h; cases h
            | some x, some y =>
              rw [ha, hb] at h
              simp only at h
              by_cases hv : safeB (UInt8.ofNat (x * 16 + y)) = true
              · rw [if_pos hv] at h; cases h
              · rw [if_neg hv] at h
                obtain ⟨o', ho', rfl⟩ := Option.map_eq_some_iff.1 h
                obtain ⟨h1, h2⟩ := ih r' o' (by simp at hn; omega) ho'
                refine ⟨?_, ?_⟩
                · rw [decL, if_pos rfl, ha, hb]; simp only; rw [h1]
                · rw [escL, h2, esc1_nib (unD_lt ha) (unD_lt hb) (Bool.eq_false_iff.2 hv), unD_up ha, unD_up hb]; rfl
        · rw [unescL_odd hs hc] at h; cases h
/-- Where the loose reading's escaped form is the text, the strict reading reads it. -/
theorem unescL_of : ∀ (n : Nat) (t : List UInt8), t.length ≤ n → escL (decL t) = t → unescL t = some (decL t) := by
  intro n
  induction n with
  | zero =>
    intro t hn h
    have : t = [] := List.eq_nil_of_length_eq_zero (by omega)
    subst this; rfl
  | succ n ih =>
    intro t hn h
    -- the first byte stays as it is
    have plain : ∀ (c : UInt8) (r : List UInt8), t = c :: r → decL t = c :: decL r → (c = 37 → ∀ a b r', r = a :: b :: r' → ¬ ((unD a).isSome ∧ (unD b).isSome)) → unescL t = some (decL t) := by
      intro c r ht hd hno
      rw [hd, ht] at h
      rw [escL] at h
      by_cases hs : safeB c = true
      · unfold esc1 at h
        rw [if_pos hs] at h
        have h' : escL (decL r) = r := by simpa using h
        rw [hd, ht, unescL_safe hs, ih r (by rw [ht] at hn; simp at hn; omega) h']
        rfl
      · unfold esc1 at h
        rw [if_neg hs] at h
        simp only [List.cons_append, List.nil_append, List.cons.injEq] at h
        obtain ⟨h1, h2⟩ := h
        exact absurd ⟨by rw [upD_un _ (by have := c.toNat_lt; omega)]; rfl, by rw [upD_un _ (by omega)]; rfl⟩ (hno h1.symm _ _ _ h2.symm)
    match t, h, hn, plain with
    | [], h, hn, plain => rfl
    | [c], h, hn, plain => exact plain c [] rfl rfl (fun _ a b r' h => by simp at h)
    | [c, d], h, hn, plain => exact plain c [d] rfl rfl (fun _ a b r' h => by simp at h)
    | c :: a :: b :: r, h, hn, plain =>
      by_cases hc : c = 37
      · match ha : unD a, hb : unD b with
        | none, none => exact plain c (a :: b :: r) rfl (by rw [decL, if_pos hc, ha, hb]) (fun _ a' b' r' e => by simp at e; obtain ⟨rfl, rfl, _⟩ := e; simp [ha])
        | none, some _ => exact plain c (a :: b :: r) rfl (by rw [decL, if_pos hc, ha, hb]) (fun _ a' b' r' e => by simp at e; obtain ⟨rfl, rfl, _⟩ := e; simp [ha])
        | some _, none => exact plain c (a :: b :: r) rfl (by rw [decL, if_pos hc, ha, hb]) (fun _ a' b' r' e => by simp at e; obtain ⟨rfl, rfl, _⟩ := e; simp [hb])
        | some x, some y =>
          have hd : decL (c :: a :: b :: r) = UInt8.ofNat (x * 16 + y) :: decL r := by rw [decL, if_pos hc, ha, hb]
          rw [hd] at h ⊢
          rw [escL] at h
          have hx := unD_lt ha
          have hy := unD_lt hb
          by_cases hv : safeB (UInt8.ofNat (x * 16 + y)) = true
          · exfalso
            unfold esc1 at h
            rw [if_pos hv] at h
            simp only [List.cons_append, List.nil_append, List.cons.injEq] at h
            rw [h.1, hc, safe37] at hv
            cases hv
          · have hv' : safeB (UInt8.ofNat (x * 16 + y)) = false := Bool.eq_false_iff.2 hv
            rw [esc1_nib hx hy hv', unD_up ha, unD_up hb] at h
            simp only [List.cons_append, List.nil_append, List.cons.injEq, true_and] at h
            have h' : escL (decL r) = r := h.2
            have := ih r (by simp at hn; omega) h'
            rw [unescL, if_neg (by rw [hc, safe37]; decide), if_pos hc, ha, hb]
            simp only
            rw [if_neg hv, this]
            rfl
      · exact plain c (a :: b :: r) rfl (by rw [decL, if_neg hc]) (fun e => absurd e hc)
theorem decL_len : ∀ (n : Nat) (t : List UInt8), t.length ≤ n → (decL t).length ≤ t.length := by
  intro n
  induction n with
  | zero =>
    intro t hn
    have : t = [] := List.eq_nil_of_length_eq_zero (by omega)
    subst this; simp [decL]
  | succ n ih =>
    intro t hn
    match t, hn with
    | [], _ => simp [decL]
    | [c], _ => simp [decL]
    | [c, d], _ => simp [decL]
    | c :: a :: b :: r, hn =>
      rw [decL]
      have h1 := ih (a :: b :: r) (by simp at hn ⊢; omega)
      have h2 := ih r (by simp at hn ⊢; omega)
      simp at h1 h2
      split
      · split
        · simp; omega
        · simp; omega
      · simp; omega

theorem spec_plain (c : UInt8) : spec_l10Plain.f (c.toNat : Int) = some (safeB c) := by
  have key : ∀ m : Fin 256, spec_l10Plain.f (m.val : Int) = some (safeB (UInt8.ofNat m.val)) := by decide +kernel
  have := key ⟨c.toNat, c.toNat_lt⟩
  simpa using this
def digs : ByteArray := ⟨#[48, 49, 50, 51, 52, 53, 54, 55, 56, 57, 65, 66, 67, 68, 69, 70]⟩
theorem digs_hi (c : UInt8) : bt digs ((Int.tdiv (c.toNat : Int) 16) % 256) = ((upD (c.toNat / 16)).toNat : Int) := by
  have key : ∀ m : Fin 256, bt digs ((Int.tdiv (m.val : Int) 16) % 256) = ((upD (m.val / 16)).toNat : Int) := by decide +kernel
  exact key ⟨c.toNat, c.toNat_lt⟩
theorem digs_lo (c : UInt8) : bt digs (Int.tmod (c.toNat : Int) 16) = ((upD (c.toNat % 16)).toNat : Int) := by
  have key : ∀ m : Fin 256, bt digs (Int.tmod (m.val : Int) 16) = ((upD (m.val % 16)).toNat : Int) := by decide +kernel
  exact key ⟨c.toNat, c.toNat_lt⟩
theorem spec_escape_l0 (s : ByteArray) (hs : s.size ≤ 140737488351232) : ∀ (d i : Nat) (o : List UInt8), s.size - i = d → i ≤ s.size → o.length + 3 * d < 140737488355328 →
    Ev (fun k => spec_Escape.l0 k s (bI o) (i : Int)) (mkB (o ++ escL (s.data.toList.drop i))) := by
  intro d
  induction d with
  | zero =>
    intro i o hd hi hl
    rw [drop_end s i (by omega)]
    refine Ev.step (fun k => by rw [spec_Escape.l0, if_neg (by omega)]) (Ev.give ?_)
    rw [strOf_bI, escL, List.append_nil]
  | succ d ih =>
    intro i o hd hi hl
    obtain ⟨c, e, hb⟩ := bt_drop s i (by omega)
    rw [e, escL]
    have hw : wrap64 ((i : Int) + 1) = ((i + 1 : Nat) : Int) := by rw [wrap64_id (by omega) (by omega)]; rfl
    have hc := c.toNat_lt
    by_cases hsf : safeB c = true
    · have hes : esc1 c = [c] := by unfold esc1; rw [if_pos hsf]
      refine Ev.step (fun k => by rw [spec_Escape.l0, if_pos (by omega), if_pos (by omega), hb, spec_plain, Option.bind_some, if_pos hsf, if_pos (by rw [bI_length]; omega), bI_snoc, hw]) ?_
      have := ih (i + 1) (o ++ [c]) (by omega) (by omega) (by simp; omega)
      rw [hes]
      simpa using this
    · have hes : esc1 c = [37, upD (c.toNat / 16), upD (c.toNat % 16)] := by unfold esc1; rw [if_neg hsf]
      have ht : Int.tdiv (c.toNat : Int) 16 = ((c.toNat / 16 : Nat) : Int) := by rw [Int.tdiv_eq_ediv_of_nonneg (by omega)]; rfl
      have hm : Int.tmod (c.toNat : Int) 16 = ((c.toNat % 16 : Nat) : Int) := by rw [Int.tmod_eq_emod_of_nonneg (by omega)]; rfl
      have h3 : ([37, bt (⟨#[48, 49, 50, 51, 52, 53, 54, 55, 56, 57, 65, 66, 67, 68, 69, 70]⟩ : ByteArray) ((Int.tdiv (c.toNat : Int) 16) % 256), bt (⟨#[48, 49, 50, 51, 52, 53, 54, 55, 56, 57, 65, 66, 67, 68, 69, 70]⟩ : ByteArray) (Int.tmod (c.toNat : Int) 16)] : List Int) = bI [37, upD (c.toNat / 16), upD (c.toNat % 16)] := by
        show [37, bt digs _, bt digs _] = _
        rw [digs_hi, digs_lo]; rfl
      refine Ev.step (fun k => by rw [spec_Escape.l0, if_pos (by omega), if_pos (by omega), hb, spec_plain, Option.bind_some, if_neg hsf, h3, if_pos (by rw [ht]; omega), if_pos (by rw [ht]; omega), if_pos (by rw [hm]; omega), if_pos (by rw [hm]; omega), Option.bind_some, if_pos (by rw [bI_length, bI_length]; simp; omega), bI_app, hw]) ?_
      have := ih (i + 1) (o ++ [37, upD (c.toNat / 16), upD (c.toNat % 16)]) (by omega) (by omega) (by simp; omega)
      rw [hes]
      simpa using this
/-- What Escape writes. -/
def escOf (s : ByteArray) : ByteArray := if (s.size : Int) > 100000 then ⟨#[]⟩ else mkB (escL s.data.toList)
theorem spec_escape (s : ByteArray) (hs : s.size ≤ 140737488351232) : Ev (fun k => spec_Escape.f k s) (escOf s) := by
  unfold escOf
  by_cases h0 : (s.size : Int) > 100000
  · rw [if_pos h0]; exact Ev.congr (fun k => by rw [spec_Escape.f, if_pos h0]) (Ev.now _)
  · rw [if_neg h0]
    refine Ev.congr (fun k => by rw [spec_Escape.f, if_neg h0]) ?_
    exact spec_escape_l0 s hs s.size 0 [] (by omega) (by omega) (by simp; omega)

/-! The program's escaped. -/
theorem impl_safe_plain (c : UInt8) : impl_safe.f (c.toNat : Int) = some (safeB c) := by
  have key : ∀ m : Fin 256, impl_safe.f (m.val : Int) = some (safeB (UInt8.ofNat m.val)) := by decide +kernel
  have := key ⟨c.toNat, c.toNat_lt⟩
  simpa using this
theorem oddFrom_true (s : ByteArray) : ∀ (f pos : Nat), oddFrom s f pos true = true := by
  intro f
  induction f with
  | zero => intro pos; rfl
  | succ f ih =>
    intro pos
    rw [oddFrom]
    split
    · simpa using ih _
    · rfl
theorem odd_false (s : ByteArray) : ∀ (f pos : Nat), s.size ≤ pos + f → oddFrom s f pos false = false → ∀ c ∈ s.data.toList.drop pos, safeB c = true := by
  intro f
  induction f with
  | zero =>
    intro pos hs h c hc
    rw [drop_end s pos (by omega)] at hc
    cases hc
  | succ f ih =>
    intro pos hs h c hc
    by_cases hp : pos < s.size
    · rw [oddFrom, if_pos hp, Bool.false_or] at h
      obtain ⟨d, e, hb⟩ := bt_drop s pos hp
      have hd : d = s[pos]'hp := by
        have h2 := List.drop_eq_getElem_cons (show pos < s.data.toList.length by simpa using hp)
        rw [e] at h2
        have := (List.cons.inj h2).1
        rw [this]
        simp [ByteArray.getElem_eq_getElem_data]
      by_cases ha : (s[pos]'hp).toNat < 128
      · have hdec := decode_ascii s pos hp ha
        rw [hdec] at h
        simp only at h
        rw [← hd, impl_safe_plain d, show decide (((d.toNat : Nat) : Int) > 127) = false from decide_eq_false (by rw [hd]; omega), Bool.false_or, Option.getD_some] at h
        cases hsd : safeB d with
        | false =>
          rw [hsd, show (!false) = true from rfl, oddFrom_true] at h
          cases h
        | true =>
          rw [hsd] at h
          rw [e] at hc
          rcases List.mem_cons.1 hc with rfl | hc
          · exact hsd
          · exact ih (pos + 1) (by omega) h c hc
      · have h2 := (decode_high s pos hp (by omega)).1
        rw [show decide (((Utf8.decode s pos).1 : Int) > 127) = true from decide_eq_true (by omega), Bool.true_or, oddFrom_true] at h
        cases h
    · rw [drop_end s pos (by omega)] at hc
      cases hc
theorem escL_safe : ∀ l : List UInt8, (∀ c ∈ l, safeB c = true) → escL l = l := by
  intro l
  induction l with
  | nil => intro _; rfl
  | cons c l ih =>
    intro h
    rw [escL, ih (fun d hd => h d (List.mem_cons_of_mem _ hd))]
    unfold esc1
    rw [if_pos (h c List.mem_cons_self)]
    rfl
theorem iand15 (c : UInt8) : Go.bits .and .u8 (c.toNat : Int) 15 = ((c.toNat % 16 : Nat) : Int) := by
  have h := bits_and_u8 c.toNat 15 (UInt8.toNat_lt c) (by omega)
  have e : c.toNat &&& 15 = c.toNat % 16 := Nat.and_two_pow_sub_one_eq_mod c.toNat 4
  rw [e] at h
  exact h
theorem upD_at (n : Nat) (h : n < 16) : bt (⟨#[48, 49, 50, 51, 52, 53, 54, 55, 56, 57, 65, 66, 67, 68, 69, 70]⟩ : ByteArray) (n : Int) = ((upD n).toNat : Int) := by
  have key : ∀ m : Fin 16, bt (⟨#[48, 49, 50, 51, 52, 53, 54, 55, 56, 57, 65, 66, 67, 68, 69, 70]⟩ : ByteArray) (m.val : Int) = ((upD m.val).toNat : Int) := by decide +kernel
  exact key ⟨n, h⟩
theorem impl_escaped_l0 (s : ByteArray) (hs : s.size ≤ 40000000000000) : ∀ (d i : Nat) (o : List UInt8), s.size - i = d → i ≤ s.size → o.length + 3 * d < 140737488355328 →
    Ev (fun k => impl_escaped.l0 k s (bI o) (s.size : Int) (i : Int)) (mkB (o ++ escL (s.data.toList.drop i))) := by
  intro d
  induction d with
  | zero =>
    intro i o hd hi hl
    rw [drop_end s i (by omega)]
    refine Ev.step (fun k => by rw [impl_escaped.l0, if_neg (by omega)]) (Ev.give ?_)
    rw [strOf_bI, escL, List.append_nil]
  | succ d ih =>
    intro i o hd hi hl
    obtain ⟨c, e, hb⟩ := bt_drop s i (by omega)
    rw [e, escL]
    have hw : wrap64 ((i : Int) + 1) = ((i + 1 : Nat) : Int) := by rw [wrap64_id (by omega) (by omega)]; rfl
    have hc := c.toNat_lt
    by_cases hsf : safeB c = true
    · have hes : esc1 c = [c] := by unfold esc1; rw [if_pos hsf]
      refine Ev.step (fun k => by rw [impl_escaped.l0, if_pos (by omega), if_pos (by omega), if_pos (by omega), hb, impl_safe_plain, Option.bind_some, if_pos hsf, if_pos (by rw [bI_length]; omega), bI_snoc, hw]) ?_
      have := ih (i + 1) (o ++ [c]) (by omega) (by omega) (by simp; omega)
      rw [hes]
      simpa using this
    · have hes : esc1 c = [37, upD (c.toNat / 16), upD (c.toNat % 16)] := by unfold esc1; rw [if_neg hsf]
      have ht : (c.toNat : Int) / 16 = ((c.toNat / 16 : Nat) : Int) := by omega
      have h3 : ([37, bt (⟨#[48, 49, 50, 51, 52, 53, 54, 55, 56, 57, 65, 66, 67, 68, 69, 70]⟩ : ByteArray) ((c.toNat / 16 : Nat) : Int), bt (⟨#[48, 49, 50, 51, 52, 53, 54, 55, 56, 57, 65, 66, 67, 68, 69, 70]⟩ : ByteArray) ((c.toNat % 16 : Nat) : Int)] : List Int) = bI [37, upD (c.toNat / 16), upD (c.toNat % 16)] := by
        rw [upD_at _ (by omega), upD_at _ (by omega)]; rfl
      refine Ev.step (fun k => by rw [impl_escaped.l0, if_pos (by omega), if_pos (by omega), if_pos (by omega), hb, impl_safe_plain, Option.bind_some, if_neg hsf, ht, iand15, h3, if_pos (by omega), if_pos (by omega), if_pos (by omega), if_pos (by omega), Option.bind_some, if_pos (by rw [bI_length, bI_length]; simp; omega), bI_app, hw]) ?_
      have := ih (i + 1) (o ++ [37, upD (c.toNat / 16), upD (c.toNat % 16)]) (by omega) (by omega) (by simp; omega)
      rw [hes]
      simpa using this
theorem impl_escaped_ev (s : ByteArray) (hs : s.size ≤ 40000000000000) : Ev (fun k => impl_escaped.f k s) (mkB (escL s.data.toList)) := by
  refine Ev.congr (fun k => by rw [impl_escaped.f]) ?_
  refine Ev.bindS (show impl_oddOf.f s = some (oddFrom s s.size 0 false) from rfl) ?_
  cases hod : oddFrom s s.size 0 false with
  | true =>
    refine Ev.pos rfl ?_
    exact impl_escaped_l0 s hs s.size 0 [] (by omega) (by omega) (by simp; omega)
  | false =>
    refine Ev.neg (by decide) (Ev.give ?_)
    have h := odd_false s s.size 0 (by omega) hod
    rw [List.drop_zero] at h
    rw [escL_safe _ h, mkB_data]
theorem impl_escape (s : ByteArray) (hs : s.size ≤ 40000000000000) : Ev (fun k => impl_Escape.f k s) (escOf s) := by
  unfold escOf
  by_cases h0 : (s.size : Int) > 100000
  · rw [if_pos h0]; exact Ev.congr (fun k => by rw [impl_Escape.f, if_pos h0]) (Ev.now _)
  · rw [if_neg h0]
    refine Ev.congr (fun k => by rw [impl_Escape.f, if_neg h0]) ?_
    refine Ev.bind (impl_escaped_ev s hs) ?_
    exact Ev.now _

theorem FnExactEscape : laws_FnExactEscape.Pure := by
  intro s hs
  refine Ev.rounds (Ev.congr (fun k => by rw [laws_FnExactEscape.f]) ?_)
  by_cases h0 : (s.size : Int) > 1048576
  · exact Ev.pos h0 (Ev.now _)
  · refine Ev.neg h0 ?_
    exact Ev.bind (spec_escape s (by omega)) (Ev.bind (impl_escape s (by omega)) (Ev.pos rfl (Ev.now true)))

end Go.Proofs.Ytjlbhjacjjkccaa.Pure
