/- The statement FnExactPutRecord over numbers and lists alone: the program's PutRecord and the reference's write the same bytes. No condition. -/
import Derived.Test.YtnailhkgnccloaaQFnExactPutRecordx4
import Derived.Laws.BitsAllLaws
import Derived.Laws.Bits64
set_option linter.all false
namespace Go.Proofs.Ytnailhkgnccloaa.Pure
open Go.RowKit Go.Proofs.Ytnailhkgnccloaa.QFnExactPutRecord Go.Proofs.YtnailhkgnccloaaW.PrintWords Go.Proofs.YtnailhkgnccloaaW.PrintLast Go.Proofs.YtnailhkgnccloaaW.PrintMore

/-! Small lemmas on wraps, rounds and lists. -/
theorem wrap64_id {x : Int} (h0 : -9223372036854775808 ≤ x) (h1 : x < 9223372036854775808) : wrap64 x = x := by unfold wrap64; omega
theorem u64_id {x : Int} (h0 : 0 ≤ x) (h1 : x < 18446744073709551616) : IntKind.u64.wrap x = x := by rw [IntKind.wrap_u64]; omega
theorem Ev.pos {α : Type} {c : Prop} [Decidable c] {f g : Nat → Option α} {r : α} (h : c) (e : Ev f r) : Ev (fun k => if c then f k else g k) r := by simpa [h] using e
theorem Ev.neg {α : Type} {c : Prop} [Decidable c] {f g : Nat → Option α} {r : α} (h : ¬ c) (e : Ev g r) : Ev (fun k => if c then f k else g k) r := by simpa [h] using e
theorem Ev.bindS {α β : Type} {g : Option α} {f : Nat → α → Option β} {a : α} {r : β} (h : g = some a) (e : Ev (fun k => f k a) r) : Ev (fun k => g.bind (f k)) r := by subst h; simpa using e
theorem Ev.give {α : Type} {r s : α} (h : s = r) : Ev (fun _ => some s) r := by subst h; exact Ev.now _
theorem bt_drop (s : ByteArray) (i : Nat) (h : i < s.size) : ∃ c : UInt8, s.data.toList.drop i = c :: s.data.toList.drop (i + 1) ∧ bt s (i : Int) = (c.toNat : Int) := by
  have hl : i < s.data.toList.length := by simpa using h
  refine ⟨s.data.toList[i], List.drop_eq_getElem_cons hl, ?_⟩
  unfold bt
  rw [dif_pos (by simpa using h)]
  simp [ByteArray.getElem_eq_getElem_data]
theorem drop_end (s : ByteArray) (i : Nat) (h : s.size ≤ i) : s.data.toList.drop i = [] := List.drop_eq_nil_of_le (by simpa using h)
theorem size_strOfNums (l : List Int) : (strOfNums l).size = l.length := by
  show (strOfNums l).data.size = l.length
  simp [strOfNums]
theorem i64_range {n : Int} (h : (Lit.int .i64 n).wf = true) : -9223372036854775808 ≤ n ∧ n < 9223372036854775808 := by
  simp only [Lit.wf, IntKind.min, IntKind.max, IntKind.signed, IntKind.bits, Bool.and_eq_true, decide_eq_true_eq, if_true] at h; omega

/-! The bytes of a number, seven bits a byte. -/
def vb (n : Nat) : List Int := if _h : n < 128 then [(n : Int)] else ((128 + n % 128 : Nat) : Int) :: vb (n / 128)
  termination_by n
  decreasing_by omega
theorem vb_small {n : Nat} (h : n < 128) : vb n = [(n : Int)] := by rw [vb, dif_pos h]
theorem vb_big {n : Nat} (h : ¬ n < 128) : vb n = ((128 + n % 128 : Nat) : Int) :: vb (n / 128) := by rw [vb, dif_neg h]
theorem vb_len : ∀ (d n : Nat), n < 128 ^ (d + 1) → (vb n).length ≤ d + 1 := by
  intro d
  induction d with
  | zero => intro n h; rw [vb_small (by omega)]; simp
  | succ d ih =>
    intro n h
    by_cases hn : n < 128
    · rw [vb_small hn]; simp
    · rw [vb_big hn, List.length_cons]
      have := ih (n / 128) (by rw [Nat.pow_succ] at h; exact Nat.div_lt_of_lt_mul (by omega))
      omega
theorem vb_len64 {n : Nat} (h : n < 9223372036854775808) : (vb n).length ≤ 9 := vb_len 8 n (by simp only [Nat.reduceAdd, Nat.reducePow]; omega)
theorem or128 (x : Int) (h0 : 0 ≤ x) (h1 : x < 256) : Go.bits .or .u8 x 128 = 128 + x % 128 := by
  obtain ⟨n, rfl⟩ := Int.eq_ofNat_of_zero_le h0
  have hn : n < 256 := by omega
  have key : ∀ m : Fin 256, Go.bits .or .u8 (m.val : Int) 128 = 128 + (m.val : Int) % 128 := by decide +kernel
  exact key ⟨n, hn⟩

theorem spec_putNum_l0 : ∀ (d n : Nat) (xs : List Int), n < 128 ^ (d + 1) → n < 9223372036854775808 → xs.length + (d + 1) < 1000000 → Ev (fun k => spec_PutNum.l0 k (n : Int) xs) (strOfNums (xs ++ vb n)) := by
  intro d
  induction d with
  | zero =>
    intro n xs h h64 hl
    have hn : n < 128 := by omega
    refine Ev.step (fun k => by rw [spec_PutNum.l0, if_neg (by omega), if_pos (by omega)]) (Ev.give ?_)
    rw [vb_small hn]
    congr 3; omega
  | succ d ih =>
    intro n xs h h64 hl
    by_cases hn : n < 128
    · refine Ev.step (fun k => by rw [spec_PutNum.l0, if_neg (by omega), if_pos (by omega)]) (Ev.give ?_)
      rw [vb_small hn]
      congr 3; omega
    · refine Ev.step (fun k => by rw [spec_PutNum.l0, if_pos (by omega), if_pos (by omega)]) ?_
      have h1 : wrap64 (Int.tdiv (n : Int) 128) = ((n / 128 : Nat) : Int) := by
        rw [Int.tdiv_eq_ediv_of_nonneg (by omega), wrap64_id (by omega) (by omega)]; rfl
      have h2 : wrap64 (128 + Int.tmod (n : Int) 128) % 256 = ((128 + n % 128 : Nat) : Int) := by
        rw [Int.tmod_eq_emod_of_nonneg (by omega), wrap64_id (by omega) (by omega)]; omega
      rw [h1, h2, vb_big hn]
      have := ih (n / 128) (xs ++ [((128 + n % 128 : Nat) : Int)]) (by rw [Nat.pow_succ] at h; exact Nat.div_lt_of_lt_mul (by omega)) (by omega) (by simp; omega)
      simpa using this
theorem impl_putNum_l0 : ∀ (d n : Nat) (xs : List Int), n < 128 ^ (d + 1) → n < 9223372036854775808 → xs.length + (d + 1) < 1000000 → Ev (fun k => impl_PutNum.l0 k xs (n : Int)) (strOfNums (xs ++ vb n)) := by
  intro d
  induction d with
  | zero =>
    intro n xs h h64 hl
    have hn : n < 128 := by omega
    refine Ev.step (fun k => by rw [impl_PutNum.l0, if_neg (by omega), if_pos (by omega)]) (Ev.give ?_)
    rw [vb_small hn]
    congr 3; omega
  | succ d ih =>
    intro n xs h h64 hl
    by_cases hn : n < 128
    · refine Ev.step (fun k => by rw [impl_PutNum.l0, if_neg (by omega), if_pos (by omega)]) (Ev.give ?_)
      rw [vb_small hn]
      congr 3; omega
    · refine Ev.step (fun k => by rw [impl_PutNum.l0, if_pos (by omega), if_pos (by omega)]) ?_
      have h1 : (n : Int) / 128 = ((n / 128 : Nat) : Int) := rfl
      have h2 : Go.bits .or .u8 ((n : Int) % 256) 128 = ((128 + n % 128 : Nat) : Int) := by
        rw [or128 _ (by omega) (by omega)]; omega
      rw [h1, h2, vb_big hn]
      have := ih (n / 128) (xs ++ [((128 + n % 128 : Nat) : Int)]) (by rw [Nat.pow_succ] at h; exact Nat.div_lt_of_lt_mul (by omega)) (by omega) (by simp; omega)
      simpa using this
/-- What PutNum writes. -/
def putNum (n : Int) : ByteArray := if n < 0 then ⟨#[]⟩ else strOfNums (vb n.toNat)
theorem spec_putNum (n : Int) (h : n < 9223372036854775808) : Ev (fun k => spec_PutNum.f k n) (putNum n) := by
  unfold putNum
  by_cases h0 : n < 0
  · rw [if_pos h0]; exact Ev.congr (fun k => by rw [spec_PutNum.f, if_pos h0]) (Ev.now _)
  · rw [if_neg h0]
    refine Ev.congr (fun k => by rw [spec_PutNum.f, if_neg h0]) ?_
    obtain ⟨m, rfl⟩ := Int.eq_ofNat_of_zero_le (by omega : 0 ≤ n)
    exact spec_putNum_l0 8 m [] (by simp; omega) (by omega) (by simp)
theorem impl_putNum (n : Int) (h : n < 9223372036854775808) : Ev (fun k => impl_PutNum.f k n) (putNum n) := by
  unfold putNum
  by_cases h0 : n < 0
  · rw [if_pos h0]; exact Ev.congr (fun k => by rw [impl_PutNum.f, if_pos h0]) (Ev.now _)
  · rw [if_neg h0]
    refine Ev.congr (fun k => by rw [impl_PutNum.f, if_neg h0]) ?_
    obtain ⟨m, rfl⟩ := Int.eq_ofNat_of_zero_le (by omega : 0 ≤ n)
    rw [u64_id (by omega) (by omega)]
    exact impl_putNum_l0 8 m [] (by simp; omega) (by omega) (by simp)
theorem putNum_size (n : Int) (h : n < 9223372036854775808) : (putNum n).size ≤ 9 := by
  unfold putNum
  split
  · decide
  · rw [size_strOfNums]; exact vb_len64 (by omega)

/-- What PutText writes. -/
def putText (s : ByteArray) : ByteArray := if (s.size : Int) > 100000 then ⟨#[]⟩ else putNum (s.size : Int) ++ s
theorem spec_putText (s : ByteArray) (h : s.size ≤ 140737488351232) : Ev (fun k => spec_PutText.f k s) (putText s) := by
  unfold putText
  by_cases h0 : (s.size : Int) > 100000
  · rw [if_pos h0]; exact Ev.congr (fun k => by rw [spec_PutText.f, if_pos h0]) (Ev.now _)
  · rw [if_neg h0]
    refine Ev.congr (fun k => by rw [spec_PutText.f, if_neg h0]) ?_
    have := putNum_size (s.size : Int) (by omega)
    exact Ev.bind (spec_putNum _ (by omega)) (Ev.pos (by omega) (Ev.now _))
theorem impl_putText (s : ByteArray) (h : s.size ≤ 140737488351232) : Ev (fun k => impl_PutText.f k s) (putText s) := by
  unfold putText
  by_cases h0 : (s.size : Int) > 100000
  · rw [if_pos h0]; exact Ev.congr (fun k => by rw [impl_PutText.f, if_pos h0]) (Ev.now _)
  · rw [if_neg h0]
    refine Ev.congr (fun k => by rw [impl_PutText.f, if_neg h0]) ?_
    have := putNum_size (s.size : Int) (by omega)
    exact Ev.bind (impl_putNum _ (by omega)) (Ev.pos (by omega) (Ev.now _))

def sumStep (x d : Nat) : Nat := (x * 65539 + d + 1) % 2147483647
def sumL (l : List UInt8) (x : Nat) : Nat := l.foldl (fun x c => sumStep x c.toNat) x
/-- What SumOf answers. -/
def sumOf (s : ByteArray) (seed : Int) : Int := if seed < 0 then 0 else if (s.size : Int) > 400000 then 0 else ((sumL s.data.toList (seed.toNat % 2147483647 + 1) : Nat) : Int)
theorem sumL_lt (l : List UInt8) : ∀ x, x ≤ 2147483647 → sumL l x ≤ 2147483647 := by
  induction l with
  | nil => intro x h; exact h
  | cons c l ih => intro x h; show sumL l (sumStep x c.toNat) ≤ _; exact ih _ (by unfold sumStep; omega)
theorem sumOf_range (s : ByteArray) (seed : Int) : 0 ≤ sumOf s seed ∧ sumOf s seed ≤ 2147483647 := by
  unfold sumOf
  split
  · omega
  · split
    · omega
    · have := sumL_lt s.data.toList (seed.toNat % 2147483647 + 1) (by omega); omega
theorem step_sum (x : Nat) (hx : x ≤ 2147483647) (c : UInt8) : Int.tmod (wrap64 ((wrap64 ((wrap64 ((x : Int) * 65539)) + (wrap64 (c.toNat : Int)))) + 1)) 2147483647 = ((sumStep x c.toNat : Nat) : Int) := by
  have hc := c.toNat_lt
  rw [wrap64_id (x := (x : Int) * 65539) (by omega) (by omega), wrap64_id (x := (c.toNat : Int)) (by omega) (by omega), wrap64_id (x := (x : Int) * 65539 + (c.toNat : Int)) (by omega) (by omega), wrap64_id (by omega) (by omega), Int.tmod_eq_emod_of_nonneg (by omega)]
  rfl

theorem spec_sumOf_l0 (s : ByteArray) (hs : s.size ≤ 140737488351232) : ∀ (d i x : Nat), s.size - i = d → i ≤ s.size → x ≤ 2147483647 → Ev (fun k => spec_SumOf.l0 k s (x : Int) (i : Int)) ((sumL (s.data.toList.drop i) x : Nat) : Int) := by
  intro d
  induction d with
  | zero =>
    intro i x hd hi hx
    rw [drop_end s i (by omega)]
    refine Ev.step (fun k => by rw [spec_SumOf.l0, if_neg (by omega)]) (Ev.give ?_)
    rfl
  | succ d ih =>
    intro i x hd hi hx
    obtain ⟨c, e, hb⟩ := bt_drop s i (by omega)
    rw [e]
    refine Ev.step (fun k => by rw [spec_SumOf.l0, if_pos (by omega), if_pos (by omega), hb, step_sum x hx c, wrap64_id (x := (i : Int) + 1) (by omega) (by omega)]) ?_
    exact ih (i + 1) (sumStep x c.toNat) (by omega) (by omega) (by unfold sumStep; omega)
theorem impl_sumOf_l0 (s : ByteArray) (hs : s.size ≤ 140737488351232) : ∀ (d i x : Nat), s.size - i = d → i ≤ s.size → x ≤ 2147483647 → Ev (fun k => impl_SumOf.l0 k s (x : Int) (s.size : Int) (i : Int)) ((sumL (s.data.toList.drop i) x : Nat) : Int) := by
  intro d
  induction d with
  | zero =>
    intro i x hd hi hx
    rw [drop_end s i (by omega)]
    refine Ev.step (fun k => by rw [impl_SumOf.l0, if_neg (by omega)]) (Ev.give ?_)
    rfl
  | succ d ih =>
    intro i x hd hi hx
    obtain ⟨c, e, hb⟩ := bt_drop s i (by omega)
    rw [e]
    refine Ev.step (fun k => by rw [impl_SumOf.l0, if_pos (by omega), if_pos (by omega), if_pos (by omega), hb, step_sum x hx c, wrap64_id (x := (i : Int) + 1) (by omega) (by omega)]) ?_
    exact ih (i + 1) (sumStep x c.toNat) (by omega) (by omega) (by unfold sumStep; omega)
theorem seed_start {seed : Int} (h0 : ¬ seed < 0) : wrap64 (Int.tmod seed 2147483647 + 1) = ((seed.toNat % 2147483647 + 1 : Nat) : Int) := by
  obtain ⟨m, rfl⟩ := Int.eq_ofNat_of_zero_le (by omega : 0 ≤ seed)
  rw [Int.tmod_eq_emod_of_nonneg (by omega), wrap64_id (by omega) (by omega)]; rfl
theorem spec_sumOf (s : ByteArray) (hs : s.size ≤ 140737488351232) (seed : Int) : Ev (fun k => spec_SumOf.f k s seed) (sumOf s seed) := by
  unfold sumOf
  by_cases h0 : seed < 0
  · rw [if_pos h0]
    refine Ev.congr (fun k => by rw [spec_SumOf.f, if_pos h0]) ?_
    exact Ev.step (fun k => by rw [spec_SumOf.j0, if_pos rfl]) (Ev.now _)
  · rw [if_neg h0]
    refine Ev.congr (fun k => by rw [spec_SumOf.f, if_neg h0]) ?_
    by_cases h1 : (s.size : Int) > 400000
    · rw [if_pos h1]
      exact Ev.step (fun k => by rw [spec_SumOf.j0, if_pos (by simpa using h1)]) (Ev.now _)
    · rw [if_neg h1]
      refine Ev.step (fun k => by rw [spec_SumOf.j0, if_neg (by simpa using h1), seed_start h0]) ?_
      exact spec_sumOf_l0 s hs s.size 0 _ (by omega) (by omega) (by omega)
theorem impl_sumOf (s : ByteArray) (hs : s.size ≤ 140737488351232) (seed : Int) : Ev (fun k => impl_SumOf.f k s seed) (sumOf s seed) := by
  unfold sumOf
  by_cases h0 : seed < 0
  · rw [if_pos h0]
    refine Ev.congr (fun k => by rw [impl_SumOf.f, if_pos h0]) ?_
    exact Ev.step (fun k => by rw [impl_SumOf.j0, if_pos rfl]) (Ev.now _)
  · rw [if_neg h0]
    refine Ev.congr (fun k => by rw [impl_SumOf.f, if_neg h0]) ?_
    by_cases h1 : (s.size : Int) > 400000
    · rw [if_pos h1]
      exact Ev.step (fun k => by rw [impl_SumOf.j0, if_pos (by simpa using h1)]) (Ev.now _)
    · rw [if_neg h1]
      refine Ev.step (fun k => by rw [impl_SumOf.j0, if_neg (by simpa using h1), seed_start h0]) ?_
      exact impl_sumOf_l0 s hs s.size 0 _ (by omega) (by omega) (by omega)

/-- Four bytes of a number, the highest first. -/
def fourOf (x : Int) : ByteArray := strOfNums [(x / 16777216) % 256, (x / 65536) % 256, (x / 256) % 256, x % 256]
theorem fourOf_size (x : Int) : (fourOf x).size = 4 := by unfold fourOf; rw [size_strOfNums]; rfl
theorem spec_four (x : Int) (h0 : 0 ≤ x) (h1 : x ≤ 2147483647) : spec_l07Four.f x = some (fourOf x) := by
  unfold spec_l07Four.f fourOf
  rw [Int.tdiv_eq_ediv_of_nonneg h0, Int.tdiv_eq_ediv_of_nonneg h0, Int.tdiv_eq_ediv_of_nonneg h0, wrap64_id (x := x / 16777216) (by omega) (by omega), wrap64_id (x := x / 65536) (by omega) (by omega), wrap64_id (x := x / 256) (by omega) (by omega), Int.tmod_eq_emod_of_nonneg (by omega), Int.tmod_eq_emod_of_nonneg (by omega), Int.tmod_eq_emod_of_nonneg (by omega), Int.emod_emod_of_dvd _ (by decide), Int.emod_emod_of_dvd _ (by decide), Int.emod_emod_of_dvd _ (by decide)]
theorem impl_four (x : Int) : impl_sumBytes.f x = some (fourOf x) := rfl
def recBody (key : ByteArray) (gone : Bool) (data : ByteArray) : ByteArray := (⟨#[231]⟩ : ByteArray) ++ putText key ++ (if gone = true then (⟨#[1]⟩ : ByteArray) else (⟨#[0]⟩ : ByteArray)) ++ putText data
/-- What PutRecord writes. -/
def putRecord (key : ByteArray) (gone : Bool) (data : ByteArray) : ByteArray :=
  if (key.size : Int) < 1 then ⟨#[]⟩ else if (key.size : Int) > 200 then ⟨#[]⟩ else if gone = true ∧ ¬ data.toList = [] then ⟨#[]⟩ else if (data.size : Int) > 100000 then ⟨#[]⟩ else recBody key gone data ++ fourOf (sumOf (recBody key gone data) 5)
theorem putText_size (s : ByteArray) (h : s.size ≤ 100000) : (putText s).size ≤ 9 + s.size := by
  unfold putText
  rw [if_neg (by omega), ByteArray.size_append]
  have := putNum_size (s.size : Int) (by omega)
  omega
theorem spec_rec_j1 (key data : ByteArray) (hk : key.size ≤ 200) (hd : data.size ≤ 100000) (gone : Bool) (m : ByteArray) (hm : m = if gone = true then (⟨#[1]⟩ : ByteArray) else (⟨#[0]⟩ : ByteArray)) :
    Ev (fun k => spec_PutRecord.j1 k key data m) (recBody key gone data ++ fourOf (sumOf (recBody key gone data) 5)) := by
  have p1 := putText_size key (by omega)
  have p2 := putText_size data hd
  have hms : m.size = 1 := by subst hm; cases gone <;> rfl
  have h231 : (⟨#[231]⟩ : ByteArray).size = 1 := rfl
  have hb : recBody key gone data = ((⟨#[231]⟩ : ByteArray) ++ putText key ++ m) ++ putText data := by rw [hm]; rfl
  have s1 : ((⟨#[231]⟩ : ByteArray) ++ putText key).size = 1 + (putText key).size := by rw [ByteArray.size_append, h231]
  have s2 : ((⟨#[231]⟩ : ByteArray) ++ putText key ++ m).size = 1 + (putText key).size + 1 := by rw [ByteArray.size_append, s1, hms]
  have s3 : (((⟨#[231]⟩ : ByteArray) ++ putText key ++ m) ++ putText data).size = 1 + (putText key).size + 1 + (putText data).size := by rw [ByteArray.size_append, s2]
  refine Ev.step (fun k => by rw [spec_PutRecord.j1]) ?_
  refine Ev.bind (spec_putText key (by omega)) (Ev.pos (by omega) (Ev.pos (by rw [s1, hms]; omega) (Ev.bind (spec_putText data (by omega)) (Ev.pos (by rw [s2]; omega) ?_))))
  have hr := sumOf_range (((⟨#[231]⟩ : ByteArray) ++ putText key ++ m) ++ putText data) 5
  refine Ev.bind (spec_sumOf _ (by rw [s3]; omega) 5) ?_
  rw [hb]
  refine Ev.bindS (spec_four _ hr.1 hr.2) (Ev.pos (by rw [s3, fourOf_size]; omega) (Ev.now _))
theorem impl_rec_j1 (key data : ByteArray) (hk : key.size ≤ 200) (hd : data.size ≤ 100000) (gone : Bool) (x : Int) (m : ByteArray) (hx : strOfNums [x] = m) (hm : m = if gone = true then (⟨#[1]⟩ : ByteArray) else (⟨#[0]⟩ : ByteArray)) :
    Ev (fun k => impl_PutRecord.j1 k key data x) (recBody key gone data ++ fourOf (sumOf (recBody key gone data) 5)) := by
  have p1 := putText_size key (by omega)
  have p2 := putText_size data hd
  have hms : m.size = 1 := by subst hm; cases gone <;> rfl
  have h231 : (⟨#[231]⟩ : ByteArray).size = 1 := rfl
  have hb : recBody key gone data = ((⟨#[231]⟩ : ByteArray) ++ putText key ++ m) ++ putText data := by rw [hm]; rfl
  have s1 : ((⟨#[231]⟩ : ByteArray) ++ putText key).size = 1 + (putText key).size := by rw [ByteArray.size_append, h231]
  have s2 : ((⟨#[231]⟩ : ByteArray) ++ putText key ++ m).size = 1 + (putText key).size + 1 := by rw [ByteArray.size_append, s1, hms]
  have s3 : (((⟨#[231]⟩ : ByteArray) ++ putText key ++ m) ++ putText data).size = 1 + (putText key).size + 1 + (putText data).size := by rw [ByteArray.size_append, s2]
  refine Ev.step (fun k => by rw [impl_PutRecord.j1, Option.bind_some, show strOfNums [231] = (⟨#[231]⟩ : ByteArray) from rfl]) ?_
  refine Ev.bind (impl_putText key (by omega)) (Ev.pos (by omega) ?_)
  refine Ev.congr (fun k => by rw [Option.bind_some, hx]) ?_
  refine Ev.pos (by rw [s1, hms]; omega) (Ev.bind (impl_putText data (by omega)) (Ev.pos (by rw [s2]; omega) ?_))
  refine Ev.bind (impl_sumOf _ (by rw [s3]; omega) 5) ?_
  rw [hb]
  exact Ev.bindS (impl_four _) (Ev.pos (by rw [s3, fourOf_size]; omega) (Ev.now _))
theorem spec_putRecord (key : ByteArray) (gone : Bool) (data : ByteArray) : Ev (fun k => spec_PutRecord.f k key gone data) (putRecord key gone data) := by
  unfold putRecord
  by_cases h0 : (key.size : Int) < 1
  · rw [if_pos h0]
    refine Ev.congr (fun k => by rw [spec_PutRecord.f, if_pos h0]) ?_
    exact Ev.step (fun k => by rw [spec_PutRecord.j0, if_pos rfl]) (Ev.now _)
  · rw [if_neg h0]
    refine Ev.congr (fun k => by rw [spec_PutRecord.f, if_neg h0]) ?_
    by_cases h1 : (key.size : Int) > 200
    · rw [if_pos h1]
      refine Ev.pos h1 ?_
      exact Ev.step (fun k => by rw [spec_PutRecord.j0, if_pos rfl]) (Ev.now _)
    · rw [if_neg h1]
      refine Ev.neg h1 ?_
      have rest : gone = true ∧ data.toList = [] ∨ ¬ gone = true → Ev (fun k => spec_PutRecord.j0 k key gone data (decide ((data.size : Int) > 100000))) (if (data.size : Int) > 100000 then (⟨#[]⟩ : ByteArray) else recBody key gone data ++ fourOf (sumOf (recBody key gone data) 5)) := by
        intro _
        by_cases h3 : (data.size : Int) > 100000
        · rw [if_pos h3]
          exact Ev.step (fun k => by rw [spec_PutRecord.j0, if_pos (by simpa using h3)]) (Ev.now _)
        · rw [if_neg h3]
          refine Ev.step (fun k => by rw [spec_PutRecord.j0, if_neg (by simpa using h3)]) ?_
          cases gone with
          | true => exact Ev.pos rfl (spec_rec_j1 key data (by omega) (by omega) true _ rfl)
          | false => exact Ev.neg (by decide) (spec_rec_j1 key data (by omega) (by omega) false _ rfl)
      by_cases hg : gone = true
      · refine Ev.pos hg ?_
        by_cases he : data.toList = []
        · rw [if_neg (fun h => h.2 he)]
          exact Ev.pos he (rest (.inl ⟨hg, he⟩))
        · rw [if_pos ⟨hg, he⟩]
          refine Ev.neg he ?_
          exact Ev.step (fun k => by rw [spec_PutRecord.j0, if_pos rfl]) (Ev.now _)
      · rw [if_neg (fun h => hg h.1)]
        exact Ev.neg hg (rest (.inr hg))
theorem impl_putRecord (key : ByteArray) (gone : Bool) (data : ByteArray) : Ev (fun k => impl_PutRecord.f k key gone data) (putRecord key gone data) := by
  unfold putRecord
  by_cases h0 : (key.size : Int) < 1
  · rw [if_pos h0]
    refine Ev.congr (fun k => by rw [impl_PutRecord.f, if_pos h0]) ?_
    exact Ev.step (fun k => by rw [impl_PutRecord.j0, if_pos rfl]) (Ev.now _)
  · rw [if_neg h0]
    refine Ev.congr (fun k => by rw [impl_PutRecord.f, if_neg h0]) ?_
    by_cases h1 : (key.size : Int) > 200
    · rw [if_pos h1]
      refine Ev.pos h1 ?_
      exact Ev.step (fun k => by rw [impl_PutRecord.j0, if_pos rfl]) (Ev.now _)
    · rw [if_neg h1]
      refine Ev.neg h1 ?_
      have rest : gone = true ∧ data.toList = [] ∨ ¬ gone = true → Ev (fun k => impl_PutRecord.j0 k key gone data (decide ((data.size : Int) > 100000))) (if (data.size : Int) > 100000 then (⟨#[]⟩ : ByteArray) else recBody key gone data ++ fourOf (sumOf (recBody key gone data) 5)) := by
        intro _
        by_cases h3 : (data.size : Int) > 100000
        · rw [if_pos h3]
          exact Ev.step (fun k => by rw [impl_PutRecord.j0, if_pos (by simpa using h3)]) (Ev.now _)
        · rw [if_neg h3]
          refine Ev.step (fun k => by rw [impl_PutRecord.j0, if_neg (by simpa using h3)]) ?_
          cases gone with
          | true => exact Ev.pos rfl (impl_rec_j1 key data (by omega) (by omega) true _ _ rfl rfl)
          | false => exact Ev.neg (by decide) (impl_rec_j1 key data (by omega) (by omega) false _ _ rfl rfl)
      by_cases hg : gone = true
      · refine Ev.pos hg ?_
        by_cases he : data.toList = []
        · rw [if_neg (fun h => h.2 he)]
          exact Ev.pos he (rest (.inl ⟨hg, he⟩))
        · rw [if_pos ⟨hg, he⟩]
          refine Ev.neg he ?_
          exact Ev.step (fun k => by rw [impl_PutRecord.j0, if_pos rfl]) (Ev.now _)
      · rw [if_neg (fun h => hg h.1)]
        exact Ev.neg hg (rest (.inr hg))

theorem FnExactPutRecord : laws_FnExactPutRecord.Pure := by
  intro key gone data _ _
  refine Ev.rounds (Ev.congr (fun k => by rw [laws_FnExactPutRecord.f]) ?_)
  by_cases h0 : (key.size : Int) > 1048576
  · exact Ev.pos h0 (Ev.now _)
  · refine Ev.neg h0 ?_
    by_cases h1 : (data.size : Int) > 1048576
    · exact Ev.pos h1 (Ev.now _)
    · refine Ev.neg h1 ?_
      refine Ev.bind (spec_putRecord key gone data) (Ev.bind (impl_putRecord key gone data) ?_)
      exact Ev.congr (fun k => by simp) (Ev.now true)

end Go.Proofs.Ytnailhkgnccloaa.Pure
