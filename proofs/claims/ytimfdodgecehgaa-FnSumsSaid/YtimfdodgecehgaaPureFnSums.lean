/- The statement FnSums over numbers and lists alone: a drawn text with one byte turned has another sum, under a seed from 0 on. No condition. -/
import Derived.Test.YtimfdodgecehgaaQFnSumsx3
import Derived.Laws.BitsAllLaws
import Derived.Laws.Bits64
set_option linter.all false
namespace Go.Proofs.Ytimfdodgecehgaa.Pure
open Go.RowKit Go.Proofs.Ytimfdodgecehgaa.QFnSums Go.Proofs.YtimfdodgecehgaaW.PrintWords Go.Proofs.YtimfdodgecehgaaW.PrintLast Go.Proofs.YtimfdodgecehgaaW.PrintMore

/-! Small lemmas on wraps, rounds and lists. -/
theorem wrap64_id {x : Int} (h0 : -9223372036854775808 ≤ x) (h1 : x < 9223372036854775808) : wrap64 x = x := by unfold wrap64; omega
theorem u64_id {x : Int} (h0 : 0 ≤ x) (h1 : x < 18446744073709551616) : IntKind.u64.wrap x = x := by rw [IntKind.wrap_u64]; omega
theorem Ev.pos {α : Type} {c : Prop} [Decidable c] {f g : Nat → Option α} {r : α} (h : c) (e : Ev f r) : Ev (fun k => if c then f k else g k) r := by simpa [h] using e
theorem Ev.neg {α : Type} {c : Prop} [Decidable c] {f g : Nat → Option α} {r : α} (h : ¬ c) (e : Ev g r) : Ev (fun k => if c then f k else g k) r := by simpa [h] using e
theorem Ev.bindS {α β : Type} {g : Option α} {f : Nat → α → Option β} {a : α} {r : β} (h : g = some a) (e : Ev (fun k => f k a) r) : Ev (fun k => g.bind (f k)) r := by subst h; simpa using e
theorem Ev.give {α : Type} {r s : α} (h : s = r) : Ev (fun _ => some s) r := by subst h; exact Ev.now _
theorem bt_drop (s : ByteArray) (i : Nat) (h : i < s.size) : ∃ c : UInt8, s.data.toList.drop i = c :: s.data.toList.drop (i + 1) ∧ bt s (i : Int) = (c.toNat : Int) := by
  have hl : i < s.data.toList.length := by simpa using h
  refine ⟨s.data.toList[i], List.drop_eq_getElem_cons hl, ?_⟩
  unfold bt
  rw [dif_pos (by simpa using h)]
  simp [ByteArray.getElem_eq_getElem_data]
theorem drop_end (s : ByteArray) (i : Nat) (h : s.size ≤ i) : s.data.toList.drop i = [] := List.drop_eq_nil_of_le (by simpa using h)
theorem size_strOfNums (l : List Int) : (strOfNums l).size = l.length := by
  show (strOfNums l).data.size = l.length
  simp [strOfNums]
theorem i64_range {n : Int} (h : (Lit.int .i64 n).wf = true) : -9223372036854775808 ≤ n ∧ n < 9223372036854775808 := by
  simp only [Lit.wf, IntKind.min, IntKind.max, IntKind.signed, IntKind.bits, Bool.and_eq_true, decide_eq_true_eq, if_true] at h; omega
theorem byte_eq_int (c d : UInt8) : ((c.toNat : Int) = (d.toNat : Int)) ↔ c = d := by
  constructor
  · intro h; exact UInt8.toNat_inj.1 (by omega)
  · rintro rfl; rfl
theorem byte_eq_lit (c : UInt8) (n : Nat) (hn : n < 256) : ((c.toNat : Int) = (n : Int)) ↔ c = UInt8.ofNat n := by
  rw [← byte_eq_int]
  have : (UInt8.ofNat n).toNat = n := by simp [UInt8.toNat_ofNat']; omega
  rw [this]
theorem bt_get (s : ByteArray) (i : Nat) (h : i < s.size) : ∃ c : UInt8, s.data.toList[i]? = some c ∧ bt s (i : Int) = (c.toNat : Int) := by
  obtain ⟨c, e, hb⟩ := bt_drop s i h
  refine ⟨c, ?_, hb⟩
  have : (s.data.toList.drop i)[0]? = some c := by rw [e]; rfl
  simpa using this

/-! Go's bits at numbers from 0 on. -/
theorem bits_xor_i64 (a b : Nat) (ha : a < 9223372036854775808) (hb : b < 9223372036854775808) : Go.bits .xor .i64 (a : Int) (b : Int) = ((a ^^^ b : Nat) : Int) := by
  have hx : a ^^^ b < 2 ^ 63 := Nat.xor_lt_two_pow (by simpa using ha) (by simpa using hb)
  show IntKind.i64.wrap (((BitVec.ofInt 64 (a : Int)) ^^^ (BitVec.ofInt 64 (b : Int))).toNat : Int) = _
  rw [BitVec.toNat_xor, BitVec.ofInt_natCast, BitVec.ofInt_natCast, BitVec.toNat_ofNat, BitVec.toNat_ofNat, Nat.mod_eq_of_lt (by omega : a < 2 ^ 64), Nat.mod_eq_of_lt (by omega : b < 2 ^ 64), IntKind.wrap_i64]
  omega
theorem bits_and_i64 (a b : Nat) (ha : a < 9223372036854775808) (hb : b < 9223372036854775808) : Go.bits .and .i64 (a : Int) (b : Int) = ((a &&& b : Nat) : Int) := by
  have hx : a &&& b < 2 ^ 63 := Nat.and_lt_two_pow _ (by simpa using hb)
  show IntKind.i64.wrap (((BitVec.ofInt 64 (a : Int)) &&& (BitVec.ofInt 64 (b : Int))).toNat : Int) = _
  rw [BitVec.toNat_and, BitVec.ofInt_natCast, BitVec.ofInt_natCast, BitVec.toNat_ofNat, BitVec.toNat_ofNat, Nat.mod_eq_of_lt (by omega : a < 2 ^ 64), Nat.mod_eq_of_lt (by omega : b < 2 ^ 64), IntKind.wrap_i64]
  omega
theorem bits_xor_u8 (a b : Nat) (ha : a < 256) (hb : b < 256) : Go.bits .xor .u8 (a : Int) (b : Int) = ((a ^^^ b : Nat) : Int) := by
  have hx : a ^^^ b < 2 ^ 8 := Nat.xor_lt_two_pow (by simpa using ha) (by simpa using hb)
  show IntKind.u8.wrap (((BitVec.ofInt 8 (a : Int)) ^^^ (BitVec.ofInt 8 (b : Int))).toNat : Int) = _
  rw [BitVec.toNat_xor, BitVec.ofInt_natCast, BitVec.ofInt_natCast, BitVec.toNat_ofNat, BitVec.toNat_ofNat, Nat.mod_eq_of_lt (by omega : a < 2 ^ 8), Nat.mod_eq_of_lt (by omega : b < 2 ^ 8), IntKind.wrap_u8]
  omega
theorem bits_and_u8 (a b : Nat) (ha : a < 256) (hb : b < 256) : Go.bits .and .u8 (a : Int) (b : Int) = ((a &&& b : Nat) : Int) := by
  have hx : a &&& b < 2 ^ 8 := Nat.and_lt_two_pow _ (by simpa using hb)
  show IntKind.u8.wrap (((BitVec.ofInt 8 (a : Int)) &&& (BitVec.ofInt 8 (b : Int))).toNat : Int) = _
  rw [BitVec.toNat_and, BitVec.ofInt_natCast, BitVec.ofInt_natCast, BitVec.toNat_ofNat, BitVec.toNat_ofNat, Nat.mod_eq_of_lt (by omega : a < 2 ^ 8), Nat.mod_eq_of_lt (by omega : b < 2 ^ 8), IntKind.wrap_u8]
  omega
theorem bits_xor_u16 (a b : Nat) (ha : a < 65536) (hb : b < 65536) : Go.bits .xor .u16 (a : Int) (b : Int) = ((a ^^^ b : Nat) : Int) := by
  have hx : a ^^^ b < 2 ^ 16 := Nat.xor_lt_two_pow (by simpa using ha) (by simpa using hb)
  show IntKind.u16.wrap (((BitVec.ofInt 16 (a : Int)) ^^^ (BitVec.ofInt 16 (b : Int))).toNat : Int) = _
  rw [BitVec.toNat_xor, BitVec.ofInt_natCast, BitVec.ofInt_natCast, BitVec.toNat_ofNat, BitVec.toNat_ofNat, Nat.mod_eq_of_lt (by omega : a < 2 ^ 16), Nat.mod_eq_of_lt (by omega : b < 2 ^ 16), IntKind.wrap_u16]
  omega
theorem bits_and_u16 (a b : Nat) (ha : a < 65536) (hb : b < 65536) : Go.bits .and .u16 (a : Int) (b : Int) = ((a &&& b : Nat) : Int) := by
  have hx : a &&& b < 2 ^ 16 := Nat.and_lt_two_pow _ (by simpa using hb)
  show IntKind.u16.wrap (((BitVec.ofInt 16 (a : Int)) &&& (BitVec.ofInt 16 (b : Int))).toNat : Int) = _
  rw [BitVec.toNat_and, BitVec.ofInt_natCast, BitVec.ofInt_natCast, BitVec.toNat_ofNat, BitVec.toNat_ofNat, Nat.mod_eq_of_lt (by omega : a < 2 ^ 16), Nat.mod_eq_of_lt (by omega : b < 2 ^ 16), IntKind.wrap_u16]
  omega
theorem and_top (w a : Nat) (h : a < 2 ^ (w + 1)) : a &&& 2 ^ w = 0 ↔ a < 2 ^ w := by
  have hp : 0 < 2 ^ w := Nat.two_pow_pos w
  have ht : a.testBit w = decide (2 ^ w ≤ a) := by
    rw [Nat.testBit_eq_decide_div_mod_eq]
    have h2 : a / 2 ^ w < 2 := Nat.div_lt_of_lt_mul (by rw [Nat.pow_succ] at h; exact h)
    by_cases hc : 2 ^ w ≤ a
    · have : 1 ≤ a / 2 ^ w := (Nat.le_div_iff_mul_le hp).2 (by omega)
      have e : a / 2 ^ w = 1 := by omega
      simp [e, hc]
    · have e : a / 2 ^ w = 0 := Nat.div_eq_of_lt (by omega)
      simp [e, hc]
  constructor
  · intro h0
    have hb : (a &&& 2 ^ w).testBit w = false := by rw [h0]; simp
    rw [Nat.testBit_and, Nat.testBit_two_pow_self, Bool.and_true, ht] at hb
    simpa using hb
  · intro hl
    apply Nat.eq_of_testBit_eq
    intro i
    rw [Nat.testBit_and, Nat.zero_testBit, Nat.testBit_two_pow]
    by_cases hi : w = i
    · subst hi
      rw [ht]; simp; omega
    · simp [hi]

/-! Bytes as the program's numbers, and as texts. -/
def bI (o : List UInt8) : List Int := o.map fun c => (c.toNat : Int)
def mkB (o : List UInt8) : ByteArray := ⟨o.toArray⟩
theorem strOf_bI (o : List UInt8) : strOfNums (bI o) = mkB o := by
  unfold strOfNums bI mkB
  congr 1
  rw [List.map_map]
  congr 1
  conv => rhs; rw [← List.map_id o]
  apply List.map_congr_left
  intro c _
  simp
theorem bI_snoc (o : List UInt8) (c : UInt8) : bI o ++ [(c.toNat : Int)] = bI (o ++ [c]) := by simp [bI]
theorem bI_app (o p : List UInt8) : bI o ++ bI p = bI (o ++ p) := by simp [bI]
theorem bI_length (o : List UInt8) : (bI o).length = o.length := by simp [bI]
theorem mkB_list (o : List UInt8) : (mkB o).data.toList = o := rfl
theorem mkB_toList (o : List UInt8) : (mkB o).toList = o := by rw [ByteArray.toList_eq]; rfl
theorem mkB_size (o : List UInt8) : (mkB o).size = o.length := by show o.toArray.size = _; simp
theorem mkB_data (s : ByteArray) : mkB s.data.toList = s := by unfold mkB; simp
theorem data_len (s : ByteArray) : s.data.toList.length = s.size := by simp
/-- Two bytes on, where there are. -/
theorem bt_next (s : ByteArray) (i : Nat) (h : i < s.size) : ∃ c : UInt8, s.data.toList.drop i = c :: s.data.toList.drop (i + 1) ∧ bt s (i : Int) = (c.toNat : Int) := bt_drop s i h

/-! Draws: a number out of a code, at a place. -/
def Bytes8 (l : List Int) : Prop := ∀ x ∈ l, (Lit.int .u8 x).wf = true
theorem u8_in {x : Int} (h : (Lit.int .u8 x).wf = true) : 0 ≤ x ∧ x < 256 := by
  simp only [Lit.wf, IntKind.min, IntKind.max, IntKind.signed, IntKind.bits, Bool.and_eq_true, decide_eq_true_eq] at h
  simp at h
  omega
def codeAt (l : List Int) (i : Nat) : Nat := (rd l (i : Int)).toNat
theorem codeAt_ok (l : List Int) (hl : Bytes8 l) (i : Nat) (h : i < l.length) : rd l (i : Int) = ((codeAt l i : Nat) : Int) ∧ codeAt l i < 256 := by
  have hr : rd l (i : Int) = l[i] := by unfold rd; rw [Int.toNat_natCast, List.getD_eq_getElem?_getD, List.getElem?_eq_getElem h]; rfl
  have := u8_in (hl _ (List.getElem_mem h))
  unfold codeAt
  rw [hr]
  omega
def drawV (l : List Int) (a most : Nat) : Nat :=
  if most = 0 then 0 else if l.length = 0 then a * 7 % most else
    if most > 200 then ((codeAt l (a % l.length) + a / l.length * 37) * 251 + codeAt l ((a + 1) % l.length) * 13 + a) % most
    else (codeAt l (a % l.length) + a / l.length * 37) % most
theorem drawV_lt (l : List Int) (a most : Nat) (h : 0 < most) : drawV l a most < most := by
  unfold drawV
  rw [if_neg (by omega)]
  split
  · exact Nat.mod_lt _ h
  · split
    · exact Nat.mod_lt _ h
    · exact Nat.mod_lt _ h
theorem draw_small (c q most : Nat) (hc : c < 256) (hq : q < 1099511627776) : Int.tmod (wrap64 ((wrap64 (c : Int)) + (wrap64 ((wrap64 (q : Int)) * 37)))) (most : Int) = (((c + q * 37) % most : Nat) : Int) := by
  rw [wrap64_id (x := (c : Int)) (by omega) (by omega), wrap64_id (x := (q : Int)) (by omega) (by omega), wrap64_id (x := (q : Int) * 37) (by omega) (by omega), wrap64_id (x := (c : Int) + (q : Int) * 37) (by omega) (by omega), Int.tmod_eq_emod_of_nonneg (by omega)]
  rfl
theorem draw_big (c q c1 a most : Nat) (hc : c < 256) (hc1 : c1 < 256) (hq : q < 1099511627776) (ha : a < 1099511627776) :
    Int.tmod (wrap64 ((wrap64 ((wrap64 ((wrap64 ((wrap64 (c : Int)) + (wrap64 ((wrap64 (q : Int)) * 37)))) * 251)) + (wrap64 ((wrap64 (c1 : Int)) * 13)))) + (a : Int))) (most : Int) = ((((c + q * 37) * 251 + c1 * 13 + a) % most : Nat) : Int) := by
  rw [wrap64_id (x := (c : Int)) (by omega) (by omega), wrap64_id (x := (q : Int)) (by omega) (by omega), wrap64_id (x := (q : Int) * 37) (by omega) (by omega), wrap64_id (x := (c : Int) + (q : Int) * 37) (by omega) (by omega),
    wrap64_id (x := ((c : Int) + (q : Int) * 37) * 251) (by omega) (by omega), wrap64_id (x := (c1 : Int)) (by omega) (by omega), wrap64_id (x := (c1 : Int) * 13) (by omega) (by omega), wrap64_id (x := ((c : Int) + (q : Int) * 37) * 251 + (c1 : Int) * 13) (by omega) (by omega),
    wrap64_id (x := ((c : Int) + (q : Int) * 37) * 251 + (c1 : Int) * 13 + (a : Int)) (by omega) (by omega), Int.tmod_eq_emod_of_nonneg (by omega)]
  rfl
theorem next_at (a : Nat) (ha : a < 1099511627776) : wrap64 ((a : Int) + 1) = ((a + 1 : Nat) : Int) := by rw [wrap64_id (by omega) (by omega)]; rfl
theorem back_at (a : Nat) (ha : a < 1099511627776) : wrap64 (wrap64 ((a : Int) + 1) - 1) = (a : Int) := by rw [wrap64_id (x := (a : Int) + 1) (by omega) (by omega), wrap64_id (by omega) (by omega)]; omega
theorem tmod_nat (a b : Nat) : Int.tmod (a : Int) (b : Int) = ((a % b : Nat) : Int) := by rw [Int.tmod_eq_emod_of_nonneg (by omega)]; rfl
theorem tdiv_nat (a b : Nat) : Int.tdiv (a : Int) (b : Int) = ((a / b : Nat) : Int) := by rw [Int.tdiv_eq_ediv_of_nonneg (by omega)]; rfl
theorem drawN_nil (l : List Int) (hk : l.length = 0) (a most : Nat) (ha : a < 1099511627776) (sz : Int) :
    spec_l01Src_n.f l (a : Int) sz (most : Int) = some (((drawV l a most : Nat) : Int), ((a + 1 : Nat) : Int), sz) := by
  unfold spec_l01Src_n.f drawV
  rw [back_at a ha, next_at a ha]
  by_cases h0 : most = 0
  · subst h0
    rw [if_pos (by omega), if_pos rfl]; rfl
  · rw [if_neg (by omega), if_neg h0, if_pos (by omega), if_neg (by omega), if_pos hk, wrap64_id (by omega) (by omega), Int.tmod_eq_emod_of_nonneg (by omega)]
    rfl
theorem drawN (l : List Int) (hl : Bytes8 l) (hlen : l.length ≤ 1048576) (a most : Nat) (ha : a < 1099511627776) (hm : most < 4611686018427387904) (sz : Int) :
    spec_l01Src_n.f l (a : Int) sz (most : Int) = some (((drawV l a most : Nat) : Int), ((a + 1 : Nat) : Int), sz) := by
  by_cases hk : l.length = 0
  · exact drawN_nil l hk a most ha sz
  · unfold spec_l01Src_n.f drawV
    rw [back_at a ha]
    by_cases h0 : most = 0
    · rw [if_pos (by omega), if_pos h0, next_at a ha]; rfl
    · have hkp : 0 < l.length := by omega
      obtain ⟨r0, b0⟩ := codeAt_ok l hl _ (Nat.mod_lt a hkp)
      obtain ⟨r1, b1⟩ := codeAt_ok l hl _ (Nat.mod_lt (a + 1) hkp)
      have hdl : a / l.length < 1099511627776 := Nat.lt_of_le_of_lt (Nat.div_le_self _ _) ha
      have m0 := Nat.mod_lt a hkp
      have m1 := Nat.mod_lt (a + 1) hkp
      rw [if_neg (by omega), if_neg h0, if_neg (by omega), if_neg hk, next_at a ha, tmod_nat, tmod_nat, tdiv_nat, r0, r1]
      generalize a % l.length = i0 at m0 b0 ⊢
      generalize (a + 1) % l.length = i1 at m1 b1 ⊢
      generalize a / l.length = q at hdl ⊢
      generalize codeAt l i0 = c0 at b0 ⊢
      generalize codeAt l i1 = c1 at b1 ⊢
      rw [if_pos (by omega), if_pos (by omega)]
      by_cases hbig : most > 200
      · rw [if_pos (by omega), if_pos (by omega), if_pos (by omega), if_neg (by omega), if_pos hbig, draw_big c0 q c1 a most b0 b1 hdl ha]
      · rw [if_neg (by omega), if_neg (by omega), if_neg hbig, draw_small c0 q most b0 hdl]
/-- A source: the code, and where its reading stands. -/
theorem source_ok (l : List Int) (hlen : l.length ≤ 1048576) : ∃ sz : Nat, sz ≤ 12 ∧ spec_l01Source.f l = some (l, 0, (sz : Int)) := by
  unfold spec_l01Source.f
  have h : wrap64 ((l.length : Int) / 16) = ((l.length / 16 : Nat) : Int) := by rw [wrap64_id (by omega) (by omega)]; rfl
  rw [h]
  by_cases h12 : ((l.length / 16 : Nat) : Int) > 12
  · rw [if_pos h12]; exact ⟨12, by omega, rfl⟩
  · rw [if_neg h12]; exact ⟨l.length / 16, by omega, rfl⟩
/-- What was drawn, kept out of arithmetic's sight. -/
structure Drew (l : List Int) (a most v : Nat) : Prop where mk ::
  out : drawV l a most = v
theorem drawE (l : List Int) (hl : Bytes8 l) (hlen : l.length ≤ 1048576) (a most : Nat) (h0 : 0 < most) (ha : a < 1099511627776) (hm : most < 4611686018427387904) (sz : Int) :
    ∃ v : Nat, v < most ∧ Drew l a most v ∧ spec_l01Src_n.f l (a : Int) sz (most : Int) = some ((v : Int), ((a + 1 : Nat) : Int), sz) :=
  ⟨drawV l a most, drawV_lt l a most h0, ⟨rfl⟩, drawN l hl hlen a most ha hm sz⟩

theorem drawOne (l : List Int) (hl : Bytes8 l) (hlen : l.length ≤ 1048576) (a most : Nat) (ha : a < 1099511627776) (hm : most < 4611686018427387904) (sz : Int) :
    spec_l01Src_one.f l (a : Int) sz (most : Int) = some (decide (drawV l a most = 0), ((a + 1 : Nat) : Int), sz) := by
  unfold spec_l01Src_one.f
  rw [drawN l hl hlen a most ha hm sz, Option.bind_some]
  have : (((drawV l a most : Nat) : Int) == 0) = decide (drawV l a most = 0) := by
    by_cases h : drawV l a most = 0
    · simp [h]
    · have : ¬ ((drawV l a most : Nat) : Int) = 0 := by omega
      simp [h, this]
  rw [this]
theorem oneE (l : List Int) (hl : Bytes8 l) (hlen : l.length ≤ 1048576) (a most : Nat) (ha : a < 1099511627776) (hm : most < 4611686018427387904) (sz : Int) :
    ∃ b : Bool, spec_l01Src_one.f l (a : Int) sz (most : Int) = some (b, ((a + 1 : Nat) : Int), sz) := ⟨_, drawOne l hl hlen a most ha hm sz⟩

/-- Drawn bytes: at most n of them. -/
theorem drawBytes_l0 (l : List Int) (hl : Bytes8 l) (hlen : l.length ≤ 1048576) (sz : Int) (n kind : Nat) (hn : n ≤ 1000000) (hk : kind < 6) : ∀ (d i : Nat) (o : List UInt8) (a : Nat), n - i = d → i ≤ n → o.length ≤ 3 * i → a + 2 * d < 1099511627776 →
    ∃ (s : ByteArray) (a' : Nat), Ev (fun k => spec_l01Src_bytes.l0 k (n : Int) (bI o) (kind : Int) (i : Int) l (a : Int) sz) (s, (a' : Int), sz) ∧ s.size ≤ n ∧ a ≤ a' ∧ a' ≤ a + 2 * d := by
  intro d
  induction d with
  | zero =>
    intro i o a hd hi ho ha
    have hin : i = n := by omega
    by_cases hlong : o.length > n
    · refine ⟨mkB (o.take n), a, ?_, by rw [mkB_size]; simp; omega, by omega, by omega⟩
      refine Ev.step (fun k => by rw [spec_l01Src_bytes.l0, if_neg (by omega), if_pos (by rw [bI_length]; omega), if_pos (by omega), if_pos (by omega), if_pos (by rw [bI_length]; omega), Int.toNat_natCast]) (Ev.give ?_)
      rw [show (bI o).take n = bI (o.take n) by simp [bI, List.map_take], strOf_bI]
    · refine ⟨mkB o, a, ?_, by rw [mkB_size]; omega, by omega, by omega⟩
      refine Ev.step (fun k => by rw [spec_l01Src_bytes.l0, if_neg (by omega), if_neg (by rw [bI_length]; omega), strOf_bI]) (Ev.now _)
  | succ d ih =>
    intro i o a hd hi ho ha
    have hw : wrap64 ((i : Int) + 1) = ((i + 1 : Nat) : Int) := by rw [wrap64_id (by omega) (by omega)]; rfl
    have byte : ∀ x : Nat, ∃ c : UInt8, ((x : Int) % 256) = (c.toNat : Int) := fun x => ⟨UInt8.ofNat x, by rw [UInt8.toNat_ofNat']; omega⟩
    by_cases h0 : kind = 0
    · have dn : spec_l01Src_n.f l ((a : Nat) : Int) sz 256 = some (((drawV l a 256 : Nat) : Int), ((a + 1 : Nat) : Int), sz) := drawN l hl hlen a 256 (by omega) (by omega) sz
      obtain ⟨c, hc⟩ := byte (drawV l a 256)
      obtain ⟨s, a', hE, h1, h2, h3⟩ := ih (i + 1) (o ++ [c]) (a + 1) (by omega) (by omega) (by simp; omega) (by omega)
      refine ⟨s, a', ?_, h1, by omega, by omega⟩
      exact Ev.step (fun k => by rw [spec_l01Src_bytes.l0, if_pos (by omega), if_pos (by omega), dn, Option.bind_some]; simp only; rw [if_pos (by rw [bI_length]; omega), hc, bI_snoc, hw]) hE
    · by_cases h1k : kind = 1
      · have dn : spec_l01Src_n.f l ((a : Nat) : Int) sz 9 = some (((drawV l a 9 : Nat) : Int), ((a + 1 : Nat) : Int), sz) := drawN l hl hlen a 9 (by omega) (by omega) sz
        have dl := drawV_lt l a 9 (by decide)
        obtain ⟨c, _, hc⟩ := bt_get (⟨#[32, 9, 61, 46, 13, 10, 45, 97, 95]⟩ : ByteArray) (drawV l a 9) (by exact dl)
        obtain ⟨s, a', hE, h1, h2, h3⟩ := ih (i + 1) (o ++ [c]) (a + 1) (by omega) (by omega) (by simp; omega) (by omega)
        refine ⟨s, a', ?_, h1, by omega, by omega⟩
        exact Ev.step (fun k => by rw [spec_l01Src_bytes.l0, if_pos (by omega), if_neg (by omega), if_pos (by omega), dn, Option.bind_some]; simp only; rw [if_pos (by omega), if_pos (by omega), if_pos (by rw [bI_length]; omega), hc, bI_snoc, hw]) hE
      · by_cases h2k : kind = 2
        · have dn : spec_l01Src_one.f l ((a : Nat) : Int) sz 12 = some (decide (drawV l a 12 = 0), ((a + 1 : Nat) : Int), sz) := drawOne l hl hlen a 12 (by omega) (by omega) sz
          have dm : spec_l01Src_n.f l (((a + 1) : Nat) : Int) sz 95 = some (((drawV l (a + 1) 95 : Nat) : Int), (((a + 1) + 1 : Nat) : Int), sz) := drawN l hl hlen (a + 1) 95 (by omega) (by omega) sz
          have dl := drawV_lt l (a + 1) 95 (by decide)
          obtain ⟨c, hc⟩ := byte (32 + drawV l (a + 1) 95)
          have hc' : (wrap64 (32 + ((drawV l (a + 1) 95 : Nat) : Int))) % 256 = (c.toNat : Int) := by rw [wrap64_id (by omega) (by omega), ← hc]; rfl
          by_cases hz : drawV l a 12 = 0
          · obtain ⟨s, a', hE, h1, h2, h3⟩ := ih (i + 1) (o ++ [13, 10] ++ [c]) (a + 2) (by omega) (by omega) (by simp; omega) (by omega)
            refine ⟨s, a', ?_, h1, by omega, by omega⟩
            exact Ev.step (fun k => by rw [spec_l01Src_bytes.l0, if_pos (by omega), if_neg (by omega), if_neg (by omega), if_pos (by omega), dn, Option.bind_some]; simp only; rw [if_pos (by simpa using hz), Option.bind_some, if_pos (by rw [bI_length]; simp; omega), Option.bind_some, show ([13, 10] : List Int) = bI [13, 10] from rfl, bI_app, dm, Option.bind_some]; simp only; rw [if_pos (by rw [bI_length]; simp; omega), hc', bI_snoc, hw]) hE
          · obtain ⟨s, a', hE, h1, h2, h3⟩ := ih (i + 1) (o ++ [c]) (a + 2) (by omega) (by omega) (by simp; omega) (by omega)
            refine ⟨s, a', ?_, h1, by omega, by omega⟩
            exact Ev.step (fun k => by rw [spec_l01Src_bytes.l0, if_pos (by omega), if_neg (by omega), if_neg (by omega), if_pos (by omega), dn, Option.bind_some]; simp only; rw [if_neg (by simpa using hz), dm, Option.bind_some]; simp only; rw [if_pos (by rw [bI_length]; omega), hc', bI_snoc, hw]) hE
        · have dn : spec_l01Src_n.f l ((a : Nat) : Int) sz 23 = some (((drawV l a 23 : Nat) : Int), ((a + 1 : Nat) : Int), sz) := drawN l hl hlen a 23 (by omega) (by omega) sz
          have dl := drawV_lt l a 23 (by decide)
          obtain ⟨c, _, hc⟩ := bt_get (⟨#[97, 98, 99, 100, 101, 102, 103, 104, 32, 105, 106, 107, 108, 109, 110, 111, 112, 46, 32, 101, 116, 97, 111]⟩ : ByteArray) (drawV l a 23) (by exact dl)
          obtain ⟨s, a', hE, h1, h2, h3⟩ := ih (i + 1) (o ++ [c]) (a + 1) (by omega) (by omega) (by simp; omega) (by omega)
          refine ⟨s, a', ?_, h1, by omega, by omega⟩
          exact Ev.step (fun k => by rw [spec_l01Src_bytes.l0, if_pos (by omega), if_neg (by omega), if_neg (by omega), if_neg (by omega), dn, Option.bind_some]; simp only; rw [if_pos (by omega), if_pos (by omega), if_pos (by rw [bI_length]; omega), hc, bI_snoc, hw]) hE
theorem drawBytes (l : List Int) (hl : Bytes8 l) (hlen : l.length ≤ 1048576) (sz : Int) (n : Nat) (hn : n ≤ 1000000) (a : Nat) (ha : a < 1000000000000) :
    ∃ (s : ByteArray) (a' : Nat), Ev (fun k => spec_l01Src_bytes.f k l (a : Int) sz (n : Int)) (s, (a' : Int), sz) ∧ s.size ≤ n ∧ a ≤ a' ∧ a' ≤ a + 1 + 2 * n := by
  have dn : spec_l01Src_n.f l ((a : Nat) : Int) sz 6 = some (((drawV l a 6 : Nat) : Int), ((a + 1 : Nat) : Int), sz) := drawN l hl hlen a 6 (by omega) (by omega) sz
  have dl := drawV_lt l a 6 (by decide)
  obtain ⟨s, a', hE, h1, h2, h3⟩ := drawBytes_l0 l hl hlen sz n (drawV l a 6) hn dl n 0 [] (a + 1) (by omega) (by omega) (by simp) (by omega)
  refine ⟨s, a', ?_, h1, by omega, by omega⟩
  exact Ev.congr (fun k => by rw [spec_l01Src_bytes.f, dn, Option.bind_some]; rfl) hE

/-! A drawn text and seed. -/
theorem drawLong (l : List Int) (hl : Bytes8 l) (hlen : l.length ≤ 1048576) (sz : Nat) (hsz : sz ≤ 12) (a : Nat) (ha : a < 1000000000) :
    ∃ (s : ByteArray) (a' : Nat), Ev (fun k => spec_l01Src_long.f k l (a : Int) (sz : Int)) (s, (a' : Int), (sz : Int)) ∧ s.size ≤ 300 ∧ a' ≤ a + 1000 := by
  have hw : wrap64 (20 + (wrap64 (20 * (sz : Int)))) = ((20 + 20 * sz : Nat) : Int) := by rw [wrap64_id (x := 20 * (sz : Int)) (by omega) (by omega), wrap64_id (by omega) (by omega)]; rfl
  obtain ⟨v, hv, _, dn⟩ := drawE l hl hlen a (20 + 20 * sz) (by omega) (by omega) (by omega) (sz : Int)
  have d1 : spec_l01Src_one.f l ((a + 1 : Nat) : Int) (sz : Int) 8 = some (decide (drawV l (a + 1) 8 = 0), ((a + 1 + 1 : Nat) : Int), (sz : Int)) := drawOne l hl hlen (a + 1) 8 (by omega) (by omega) (sz : Int)
  by_cases hz : drawV l (a + 1) 8 = 0
  · obtain ⟨v2, hv2, _, d2⟩ := drawE l hl hlen (a + 1 + 1) 30 (by omega) (by omega) (by omega) (sz : Int)
    obtain ⟨s, a', hE, h1, h2, h3⟩ := drawBytes l hl hlen (sz : Int) (55 + v2) (by omega) (a + 1 + 1 + 1) (by omega)
    refine ⟨s, a', ?_, by omega, by omega⟩
    have hw2 : wrap64 (55 + (v2 : Int)) = ((55 + v2 : Nat) : Int) := by rw [wrap64_id (by omega) (by omega)]; rfl
    refine Ev.congr (fun k => by rw [spec_l01Src_long.f, hw]) ?_
    refine Ev.bindS dn (Ev.bindS d1 (Ev.pos (by simpa using hz) (Ev.bindS d2 ?_)))
    refine Ev.bind (a := (s, (a' : Int), (sz : Int))) ?_ (Ev.now _)
    have hE2 := hE
    rw [← hw2] at hE2
    exact hE2
  · obtain ⟨s, a', hE, h1, h2, h3⟩ := drawBytes l hl hlen (sz : Int) v (by omega) (a + 1 + 1) (by omega)
    refine ⟨s, a', ?_, by omega, by omega⟩
    refine Ev.congr (fun k => by rw [spec_l01Src_long.f, hw]) ?_
    refine Ev.bindS dn (Ev.bindS d1 (Ev.neg (by simpa using hz) ?_))
    exact Ev.bind (a := (s, (a' : Int), (sz : Int))) hE (Ev.now _)
theorem drawSum (l : List Int) (hl : Bytes8 l) (hlen : l.length ≤ 1048576) :
    ∃ (s : ByteArray) (seed : Int), Ev (fun k => spec_DrawSumOf.f k l) (s, seed) ∧ s.size ≤ 300 := by
  obtain ⟨sz, hsz, hsrc⟩ := source_ok l hlen
  obtain ⟨s, a1, hE, h1, h2⟩ := drawLong l hl hlen sz hsz 0 (by omega)
  obtain ⟨v, hv, _, dn⟩ := drawE l hl hlen a1 100000 (by omega) (by omega) (by omega) (sz : Int)
  obtain ⟨u, hu, _, dm⟩ := drawE l hl hlen (a1 + 1) 6 (by omega) (by omega) (by omega) (sz : Int)
  refine ⟨s, rd [0, 1, (v : Int), 2147483647, 9223372036854775807, (-1)] (u : Int), ?_, h1⟩
  refine Ev.congr (fun k => by rw [spec_DrawSumOf.f, hsrc, Option.bind_some]) ?_
  refine Ev.bind hE ?_
  refine Ev.bindS dn ?_
  refine Ev.bindS rfl ?_
  refine Ev.bindS dm ?_
  exact Ev.pos (by simp) (Ev.pos (by simp; omega) (Ev.now _))

def sumStep (x d : Nat) : Nat := (x * 65539 + d + 1) % 2147483647
def sumL (l : List UInt8) (x : Nat) : Nat := l.foldl (fun x c => sumStep x c.toNat) x
/-- What SumOf answers. -/
def sumOf (s : ByteArray) (seed : Int) : Int := if seed < 0 then 0 else if (s.size : Int) > 400000 then 0 else ((sumL s.data.toList (seed.toNat % 2147483647 + 1) : Nat) : Int)
theorem sumL_lt (l : List UInt8) : ∀ x, x ≤ 2147483647 → sumL l x ≤ 2147483647 := by
  induction l with
  | nil => intro x h; exact h
  | cons c l ih => intro x h; show sumL l (sumStep x c.toNat) ≤ _; exact ih _ (by unfold sumStep; omega)
theorem sumOf_range (s : ByteArray) (seed : Int) : 0 ≤ sumOf s seed ∧ sumOf s seed ≤ 2147483647 := by
  unfold sumOf
  split
  · omega
  · split
    · omega
    · have := sumL_lt s.data.toList (seed.toNat % 2147483647 + 1) (by omega); omega
theorem step_sum (x : Nat) (hx : x ≤ 2147483647) (c : UInt8) : Int.tmod (wrap64 ((wrap64 ((wrap64 ((x : Int) * 65539)) + (wrap64 (c.toNat : Int)))) + 1)) 2147483647 = ((sumStep x c.toNat : Nat) : Int) := by
  have hc := c.toNat_lt
  rw [wrap64_id (x := (x : Int) * 65539) (by omega) (by omega), wrap64_id (x := (c.toNat : Int)) (by omega) (by omega), wrap64_id (x := (x : Int) * 65539 + (c.toNat : Int)) (by omega) (by omega), wrap64_id (by omega) (by omega), Int.tmod_eq_emod_of_nonneg (by omega)]
  rfl

theorem spec_sumOf_l0 (s : ByteArray) (hs : s.size ≤ 140737488351232) : ∀ (d i x : Nat), s.size - i = d → i ≤ s.size → x ≤ 2147483647 → Ev (fun k => spec_SumOf.l0 k s (x : Int) (i : Int)) ((sumL (s.data.toList.drop i) x : Nat) : Int) := by
  intro d
  induction d with
  | zero =>
    intro i x hd hi hx
    rw [drop_end s i (by omega)]
    refine Ev.step (fun k => by rw [spec_SumOf.l0, if_neg (by omega)]) (Ev.give ?_)
    rfl
  | succ d ih =>
    intro i x hd hi hx
    obtain ⟨c, e, hb⟩ := bt_drop s i (by omega)
    rw [e]
    refine Ev.step (fun k => by rw [spec_SumOf.l0, if_pos (by omega), if_pos (by omega), hb, step_sum x hx c, wrap64_id (x := (i : Int) + 1) (by omega) (by omega)]) ?_
    exact ih (i + 1) (sumStep x c.toNat) (by omega) (by omega) (by unfold sumStep; omega)
theorem impl_sumOf_l0 (s : ByteArray) (hs : s.size ≤ 140737488351232) : ∀ (d i x : Nat), s.size - i = d → i ≤ s.size → x ≤ 2147483647 → Ev (fun k => impl_SumOf.l0 k s (x : Int) (s.size : Int) (i : Int)) ((sumL (s.data.toList.drop i) x : Nat) : Int) := by
  intro d
  induction d with
  | zero =>
    intro i x hd hi hx
    rw [drop_end s i (by omega)]
    refine Ev.step (fun k => by rw [impl_SumOf.l0, if_neg (by omega)]) (Ev.give ?_)
    rfl
  | succ d ih =>
    intro i x hd hi hx
    obtain ⟨c, e, hb⟩ := bt_drop s i (by omega)
    rw [e]
    refine Ev.step (fun k => by rw [impl_SumOf.l0, if_pos (by omega), if_pos (by omega), if_pos (by omega), hb, step_sum x hx c, wrap64_id (x := (i : Int) + 1) (by omega) (by omega)]) ?_
    exact ih (i + 1) (sumStep x c.toNat) (by omega) (by omega) (by unfold sumStep; omega)
theorem seed_start {seed : Int} (h0 : ¬ seed < 0) : wrap64 (Int.tmod seed 2147483647 + 1) = ((seed.toNat % 2147483647 + 1 : Nat) : Int) := by
  obtain ⟨m, rfl⟩ := Int.eq_ofNat_of_zero_le (by omega : 0 ≤ seed)
  rw [Int.tmod_eq_emod_of_nonneg (by omega), wrap64_id (by omega) (by omega)]; rfl
theorem spec_sumOf (s : ByteArray) (hs : s.size ≤ 140737488351232) (seed : Int) : Ev (fun k => spec_SumOf.f k s seed) (sumOf s seed) := by
  unfold sumOf
  by_cases h0 : seed < 0
  · rw [if_pos h0]
    refine Ev.congr (fun k => by rw [spec_SumOf.f, if_pos h0]) ?_
    exact Ev.step (fun k => by rw [spec_SumOf.j0, if_pos rfl]) (Ev.now _)
  · rw [if_neg h0]
    refine Ev.congr (fun k => by rw [spec_SumOf.f, if_neg h0]) ?_
    by_cases h1 : (s.size : Int) > 400000
    · rw [if_pos h1]
      exact Ev.step (fun k => by rw [spec_SumOf.j0, if_pos (by simpa using h1)]) (Ev.now _)
    · rw [if_neg h1]
      refine Ev.step (fun k => by rw [spec_SumOf.j0, if_neg (by simpa using h1), seed_start h0]) ?_
      exact spec_sumOf_l0 s hs s.size 0 _ (by omega) (by omega) (by omega)
theorem impl_sumOf (s : ByteArray) (hs : s.size ≤ 140737488351232) (seed : Int) : Ev (fun k => impl_SumOf.f k s seed) (sumOf s seed) := by
  unfold sumOf
  by_cases h0 : seed < 0
  · rw [if_pos h0]
    refine Ev.congr (fun k => by rw [impl_SumOf.f, if_pos h0]) ?_
    exact Ev.step (fun k => by rw [impl_SumOf.j0, if_pos rfl]) (Ev.now _)
  · rw [if_neg h0]
    refine Ev.congr (fun k => by rw [impl_SumOf.f, if_neg h0]) ?_
    by_cases h1 : (s.size : Int) > 400000
    · rw [if_pos h1]
      exact Ev.step (fun k => by rw [impl_SumOf.j0, if_pos (by simpa using h1)]) (Ev.now _)
    · rw [if_neg h1]
      refine Ev.step (fun k => by rw [impl_SumOf.j0, if_neg (by simpa using h1), seed_start h0]) ?_
      exact impl_sumOf_l0 s hs s.size 0 _ (by omega) (by omega) (by omega)

/-! One byte turned: another sum. -/
theorem sumStep_lt (x d : Nat) : sumStep x d < 2147483647 := by unfold sumStep; omega
theorem sumStep_inj (x y d : Nat) (hx : x < 2147483647) (hy : y < 2147483647) (h : sumStep x d = sumStep y d) : x = y := by unfold sumStep at h; omega
theorem sumStep_byte (x c d : Nat) (hc : c < 256) (hd : d < 256) (h : sumStep x c = sumStep x d) : c = d := by unfold sumStep at h; omega
theorem sumL_inj (l : List UInt8) : ∀ x y : Nat, x < 2147483647 → y < 2147483647 → sumL l x = sumL l y → x = y := by
  induction l with
  | nil => intro x y _ _ h; exact h
  | cons c l ih =>
    intro x y hx hy h
    exact sumStep_inj x y c.toNat hx hy (ih _ _ (sumStep_lt _ _) (sumStep_lt _ _) h)
theorem sumL_turn (l : List UInt8) (v : UInt8) : ∀ (i x : Nat) (c : UInt8), l[i]? = some c → c ≠ v → sumL (l.set i v) x ≠ sumL l x := by
  induction l with
  | nil => intro i x c h; simp at h
  | cons d l ih =>
    intro i x c h hne
    cases i with
    | zero =>
      simp at h
      subst h
      intro e
      have h1 := sumL_inj l _ _ (sumStep_lt _ _) (sumStep_lt _ _) (show sumL l (sumStep x v.toNat) = sumL l (sumStep x d.toNat) from e)
      exact hne (UInt8.toNat_inj.1 (sumStep_byte x _ _ d.toNat_lt v.toNat_lt h1.symm))
    | succ i => exact ih i (sumStep x d.toNat) c (by simpa using h) hne

/-- A drawn byte. -/
def lwAtN (l : List Int) (i : Nat) : Nat := if i < l.length then (rd l (i : Int)).toNat else (i * 61 + 29) % 256
theorem u8_range {x : Int} (h : (Lit.int .u8 x).wf = true) : 0 ≤ x ∧ x < 256 := by
  simp only [Lit.wf, IntKind.min, IntKind.max, IntKind.signed, IntKind.bits, Bool.and_eq_true, decide_eq_true_eq] at h
  simp at h
  omega
theorem lwAtN_lt (l : List Int) (hl : ∀ x ∈ l, (Lit.int .u8 x).wf = true) (i : Nat) : lwAtN l i < 256 := by
  unfold lwAtN
  by_cases h : i < l.length
  · rw [if_pos h]
    have hr : rd l (i : Int) = l[i] := by unfold rd; rw [Int.toNat_natCast, List.getD_eq_getElem?_getD, List.getElem?_eq_getElem h]; rfl
    have := u8_range (hl _ (List.getElem_mem h))
    rw [hr]; omega
  · rw [if_neg h]; omega
theorem lwAt (l : List Int) (hl : ∀ x ∈ l, (Lit.int .u8 x).wf = true) (i : Nat) (hi : i < 100000) : laws_lwAt.f l (i : Int) = some ((lwAtN l i : Nat) : Int) := by
  unfold laws_lwAt.f lwAtN
  by_cases h : i < l.length
  · have hr : rd l (i : Int) = l[i] := by unfold rd; rw [Int.toNat_natCast, List.getD_eq_getElem?_getD, List.getElem?_eq_getElem h]; rfl
    have := u8_range (hl _ (List.getElem_mem h))
    rw [if_pos (by omega), if_pos (by omega), if_pos h, hr, wrap64_id (by omega) (by omega)]
    congr 1; omega
  · rw [if_neg (by omega), if_neg h, wrap64_id (x := (i : Int) * 61) (by omega) (by omega), wrap64_id (x := (i : Int) * 61 + 29) (by omega) (by omega)]
    try rw [wrap64_id (by omega) (by omega)]
    rw [Int.tmod_eq_emod_of_nonneg (by omega)]
    rfl

theorem lwText_eq (s : ByteArray) (i : Nat) (y : Nat) (c : UInt8) (hi : s.data.toList[i]? = some c) (hy : y < 255) : lwText s i (y : Int) = mkB (s.data.toList.set i (c ^^^ UInt8.ofNat (1 + y))) := by
  obtain ⟨hlt, e⟩ := List.getElem?_eq_some_iff.1 hi
  have hby : lwBy (y : Int) = ((1 + y : Nat) : Int) := by
    unfold lwBy
    rw [Int.tmod_eq_emod_of_nonneg (by omega), wrap64_id (by omega) (by omega)]
    omega
  have hb : ∀ j (hj : j < s.data.toList.length), bt s (j : Int) = ((s.data.toList[j]).toNat : Int) := fun j hj => by
    obtain ⟨d, h1, h2⟩ := bt_get s j (by simpa using hj)
    rw [h2]
    rw [List.getElem?_eq_getElem hj] at h1
    rw [← Option.some.inj h1]
  unfold lwText strOfNums mkB
  congr 2
  apply List.ext_getElem
  · simp
  · intro j h1 h2
    have hj : j < s.data.toList.length := by simpa using h2
    rw [List.getElem_map, List.getElem_map, List.getElem_range, List.getElem_set]
    unfold lwOut
    by_cases e1 : j = i
    · subst e1
      rw [if_pos rfl, if_pos rfl, hby, hb j hj, e, bits_xor_u8 _ _ c.toNat_lt (by omega), Int.toNat_natCast]
      apply UInt8.toNat_inj.1
      rw [UInt8.toNat_ofNat', UInt8.toNat_xor, UInt8.toNat_ofNat', Nat.mod_eq_of_lt (show 1 + y < 2 ^ 8 by omega)]
      exact Nat.mod_eq_of_lt (Nat.xor_lt_two_pow c.toNat_lt (by omega))
    · rw [if_neg e1, if_neg (fun e2 => e1 e2.symm), hb j hj, Int.toNat_natCast, UInt8.ofNat_toNat]
theorem xor_other (c : UInt8) (y : Nat) (hy : y < 255) : c ≠ c ^^^ UInt8.ofNat (1 + y) := by
  intro h
  have h2 := congrArg UInt8.toNat h
  rw [UInt8.toNat_xor, UInt8.toNat_ofNat', Nat.mod_eq_of_lt (show 1 + y < 2 ^ 8 by omega)] at h2
  have h3 : c.toNat ^^^ 0 = c.toNat ^^^ (1 + y) := by rw [Nat.xor_zero]; exact h2
  have h4 : c.toNat ^^^ (c.toNat ^^^ 0) = c.toNat ^^^ (c.toNat ^^^ (1 + y)) := congrArg (fun z => c.toNat ^^^ z) h3
  rw [← Nat.xor_assoc, ← Nat.xor_assoc, Nat.xor_self, Nat.zero_xor, Nat.zero_xor] at h4
  omega
theorem sums_last (s : ByteArray) (hs : s.size ≤ 300) (h0 : ¬ s.toList = []) (seed : Int) (hseed : ¬ seed < 0) (at_ y : Nat) (hy : y < 256) :
    ∃ t : ByteArray, laws_lwTurn.f s (at_ : Int) (y : Int) = some t ∧ t.size ≤ 300 ∧ sumOf t seed ≠ sumOf s seed := by
  have hne : s.size ≠ 0 := fun e => h0 (by rw [ByteArray.toList_eq]; exact List.eq_nil_of_length_eq_zero (by simpa using e))
  have hm : Int.tmod (at_ : Int) (s.size : Int) = ((at_ % s.size : Nat) : Int) := by rw [Int.tmod_eq_emod_of_nonneg (by omega)]; rfl
  have hlt := Nat.mod_lt at_ (Nat.pos_of_ne_zero hne)
  -- the turn's number: as its remainder by 255
  have hy2 : lwText s (at_ % s.size) (y : Int) = lwText s (at_ % s.size) ((y % 255 : Nat) : Int) := by
    have : lwBy (y : Int) = lwBy ((y % 255 : Nat) : Int) := by
      unfold lwBy
      rw [Int.tmod_eq_emod_of_nonneg (by omega), Int.tmod_eq_emod_of_nonneg (by omega)]
      congr 2
      omega
    unfold lwText
    congr 1
    apply List.map_congr_left
    intro j _
    unfold lwOut
    rw [this]
  obtain ⟨c, hc⟩ : ∃ c, s.data.toList[at_ % s.size]? = some c := ⟨_, List.getElem?_eq_getElem (by simpa using hlt)⟩
  have ht := lwText_eq s (at_ % s.size) (y % 255) c hc (Nat.mod_lt _ (by decide))
  refine ⟨mkB (s.data.toList.set (at_ % s.size) (c ^^^ UInt8.ofNat (1 + y % 255))), ?_, ?_, ?_⟩
  · unfold laws_lwTurn.f
    rw [if_neg (by omega), hm, if_pos (by omega), if_pos (by omega), Int.toNat_natCast, hy2, ht]
  · rw [mkB_size]; simpa using hs
  · unfold sumOf
    rw [if_neg hseed, if_neg hseed, if_neg (by rw [mkB_size]; simp; omega), if_neg (by omega), mkB_list]
    have := sumL_turn s.data.toList (c ^^^ UInt8.ofNat (1 + y % 255)) (at_ % s.size) (seed.toNat % 2147483647 + 1) c hc (xor_other c _ (Nat.mod_lt _ (by decide)))
    omega
theorem FnSums : laws_FnSums.Pure := by
  intro l0 l1 _ _ hw0 _ _ hw1
  refine Ev.rounds (Ev.congr (fun k => by rw [laws_FnSums.f]) ?_)
  have out : Ev (fun k => laws_FnSums.j0 k l0 l1 true) true := Ev.step (fun k => by rw [laws_FnSums.j0, if_pos rfl]) (Ev.now _)
  by_cases h0 : (l0.length : Int) > 1048576
  · exact Ev.pos h0 out
  · refine Ev.neg h0 ?_
    by_cases h1 : (l1.length : Int) > 1048576
    · rw [show decide ((l1.length : Int) > 1048576) = true from decide_eq_true h1]; exact out
    · rw [show decide ((l1.length : Int) > 1048576) = false from decide_eq_false h1]
      refine Ev.step (fun k => by rw [laws_FnSums.j0, if_neg (by decide)]) ?_
      obtain ⟨s, seed, hE, hs⟩ := drawSum l0 hw0 (by omega)
      refine Ev.bind hE (Ev.bind (impl_sumOf s (by omega) seed) (Ev.bind (spec_sumOf s (by omega) seed) (Ev.pos rfl ?_)))
      by_cases hseed : seed < 0
      · exact Ev.pos hseed (Ev.now _)
      · refine Ev.neg hseed ?_
        by_cases hn : s.toList = []
        · exact Ev.pos hn (Ev.now _)
        · refine Ev.neg hn ?_
          have e0 := lwAt l1 hw1 0 (by decide)
          have e1 := lwAt l1 hw1 1 (by decide)
          have e2 := lwAt l1 hw1 2 (by decide)
          have b0 := lwAtN_lt l1 hw1 0
          have b1 := lwAtN_lt l1 hw1 1
          have b2 := lwAtN_lt l1 hw1 2
          have hw : wrap64 ((wrap64 (((lwAtN l1 0 : Nat) : Int) * 256)) + ((lwAtN l1 1 : Nat) : Int)) = ((lwAtN l1 0 * 256 + lwAtN l1 1 : Nat) : Int) := by
            rw [wrap64_id (x := ((lwAtN l1 0 : Nat) : Int) * 256) (by omega) (by omega), wrap64_id (by omega) (by omega)]; rfl
          obtain ⟨t, ht, hts, hne⟩ := sums_last s hs hn seed hseed (lwAtN l1 0 * 256 + lwAtN l1 1) (lwAtN l1 2) b2
          refine Ev.bindS e0 (Ev.bindS e1 (Ev.bindS e2 ?_))
          rw [hw]
          refine Ev.bindS ht (Ev.bind (impl_sumOf t (by omega) seed) (Ev.give ?_))
          exact bne_iff_ne.2 hne

end Go.Proofs.Ytimfdodgecehgaa.Pure
