/- The statement FnExactPutNum over numbers and lists alone: the program's PutNum and the reference's write the same bytes. No condition. -/
import Derived.Test.YtjlbhjacjjkccaaPFnExactPutNumx1
import Derived.Laws.BitsAllLaws
import Derived.Laws.Bits64
set_option linter.unusedVariables false
set_option linter.unusedSimpArgs false
namespace Go.Proofs.Ytjlbhjacjjkccaa.Pure
open Go.RowKit Go.Proofs.Ytjlbhjacjjkccaa.PFnExactPutNum Go.Proofs.YtjlbhjacjjkccaaW.PrintWords Go.Proofs.YtjlbhjacjjkccaaW.PrintLast Go.Proofs.YtjlbhjacjjkccaaW.PrintMore

/-! Small lemmas on wraps, rounds and lists. -/
theorem wrap64_id {x : Int} (h0 : -9223372036854775808 ≤ x) (h1 : x < 9223372036854775808) : wrap64 x = x := by unfold wrap64; omega
theorem u64_id {x : Int} (h0 : 0 ≤ x) (h1 : x < 18446744073709551616) : IntKind.u64.wrap x = x := by rw [IntKind.wrap_u64]; omega
theorem Ev.pos {α : Type} {c : Prop} [Decidable c] {f g : Nat → Option α} {r : α} (h : c) (e : Ev f r) : Ev (fun k => if c then f k else g k) r := by simpa [h] using e
theorem Ev.neg {α : Type} {c : Prop} [Decidable c] {f g : Nat → Option α} {r : α} (h : ¬ c) (e : Ev g r) : Ev (fun k => if c then f k else g k) r := by simpa [h] using e
theorem Ev.bindS {α β : Type} {g : Option α} {f : Nat → α → Option β} {a : α} {r : β} (h : g = some a) (e : Ev (fun k => f k a) r) : Ev (fun k => g.bind (f k)) r := by subst h; simpa using e
theorem Ev.give {α : Type} {r s : α} (h : s = r) : Ev (fun _ => some s) r := by subst h; exact Ev.now _
theorem bt_drop (s : ByteArray) (i : Nat) (h : i < s.size) : ∃ c : UInt8, s.data.toList.drop i = c :: s.data.toList.drop (i + 1) ∧ bt s (i : Int) = (c.toNat : Int) := by
  have hl : i < s.data.toList.length := by simpa using h
  refine ⟨s.data.toList[i], List.drop_eq_getElem_cons hl, ?_⟩
  unfold bt
  rw [dif_pos (by simpa using h)]
  simp [ByteArray.getElem_eq_getElem_data]
theorem drop_end (s : ByteArray) (i : Nat) (h : s.size ≤ i) : s.data.toList.drop i = [] := List.drop_eq_nil_of_le (by simpa using h)
theorem size_strOfNums (l : List Int) : (strOfNums l).size = l.length := by
  show (strOfNums l).data.size = l.length
  simp [strOfNums]
theorem i64_range {n : Int} (h : (Lit.int .i64 n).wf = true) : -9223372036854775808 ≤ n ∧ n < 9223372036854775808 := by
  simp only [Lit.wf, IntKind.min, IntKind.max, IntKind.signed, IntKind.bits, Bool.and_eq_true, decide_eq_true_eq, if_true] at h; omega

/-! The bytes of a number, seven bits a byte. -/
def vb (n : Nat) : List Int := if _h : n < 128 then [(n : Int)] else ((128 + n % 128 : Nat) : Int) :: vb (n / 128)
  termination_by n
  decreasing_by omega
theorem vb_small {n : Nat} (h : n < 128) : vb n = [(n : Int)] := by rw [vb, dif_pos h]
theorem vb_big {n : Nat} (h : ¬ n < 128) : vb n = ((128 + n % 128 : Nat) : Int) :: vb (n / 128) := by rw [vb, dif_neg h]
theorem vb_len : ∀ (d n : Nat), n < 128 ^ (d + 1) → (vb n).length ≤ d + 1 := by
  intro d
  induction d with
  | zero => intro n h; rw [vb_small (by omega)]; simp
  | succ d ih =>
    intro n h
    by_cases hn : n < 128
    · rw [vb_small hn]; simp
    · rw [vb_big hn, List.length_cons]
      have := ih (n / 128) (by rw [Nat.pow_succ] at h; exact Nat.div_lt_of_lt_mul (by omega))
      omega
theorem vb_len64 {n : Nat} (h : n < 9223372036854775808) : (vb n).length ≤ 9 := vb_len 8 n (by simp only [Nat.reduceAdd, Nat.reducePow]; omega)
theorem or128 (x : Int) (h0 : 0 ≤ x) (h1 : x < 256) : Go.bits .or .u8 x 128 = 128 + x % 128 := by
  obtain ⟨n, rfl⟩ := Int.eq_ofNat_of_zero_le h0
  have hn : n < 256 := by omega
  have key : ∀ m : Fin 256, Go.bits .or .u8 (m.val : Int) 128 = 128 + (m.val : Int) % 128 := by decide +kernel
  exact key ⟨n, hn⟩

theorem spec_putNum_l0 : ∀ (d n : Nat) (xs : List Int), n < 128 ^ (d + 1) → n < 9223372036854775808 → xs.length + (d + 1) < 1000000 → Ev (fun k => spec_PutNum.l0 k (n : Int) xs) (strOfNums (xs ++ vb n)) := by
  intro d
  induction d with
  | zero =>
    intro n xs h h64 hl
    have hn : n < 128 := by omega
    refine Ev.step (fun k => by rw [spec_PutNum.l0, if_neg (by omega), if_pos (by omega)]) (Ev.give ?_)
    rw [vb_small hn]
    congr 3; omega
  | succ d ih =>
    intro n xs h h64 hl
    by_cases hn : n < 128
    · refine Ev.step (fun k => by rw [spec_PutNum.l0, if_neg (by omega), if_pos (by omega)]) (Ev.give ?_)
      rw [vb_small hn]
      congr 3; omega
    · refine Ev.step (fun k => by rw [spec_PutNum.l0, if_pos (by omega), if_pos (by omega)]) ?_
      have h1 : wrap64 (Int.tdiv (n : Int) 128) = ((n / 128 : Nat) : Int) := by
        rw [Int.tdiv_eq_ediv_of_nonneg (by omega), wrap64_id (by omega) (by omega)]; rfl
      have h2 : wrap64 (128 + Int.tmod (n : Int) 128) % 256 = ((128 + n % 128 : Nat) : Int) := by
        rw [Int.tmod_eq_emod_of_nonneg (by omega), wrap64_id (by omega) (by omega)]; omega
      rw [h1, h2, vb_big hn]
      have := ih (n / 128) (xs ++ [((128 + n % 128 : Nat) : Int)]) (by rw [Nat.pow_succ] at h; exact Nat.div_lt_of_lt_mul (by omega)) (by omega) (by simp; omega)
      simpa using this
theorem impl_putNum_l0 : ∀ (d n : Nat) (xs : List Int), n < 128 ^ (d + 1) → n < 9223372036854775808 → xs.length + (d + 1) < 1000000 → Ev (fun k => impl_PutNum.l0 k xs (n : Int)) (strOfNums (xs ++ vb n)) := by
  intro d
  induction d with
  | zero =>
    intro n xs h h64 hl
    have hn : n < 128 := by omega
    refine Ev.step (fun k => by rw [impl_PutNum.l0, if_neg (by omega), if_pos (by omega)]) (Ev.give ?_)
    rw [vb_small hn]
    congr 3; omega
  | succ d ih =>
    intro n xs h h64 hl
    by_cases hn : n < 128
    · refine Ev.step (fun k => by rw [impl_PutNum.l0, if_neg (by omega), if_pos (by omega)]) (Ev.give ?_)
      rw [vb_small hn]
      congr 3; omega
    · refine Ev.step (fun k => by rw [impl_PutNum.l0, if_pos (by omega), if_pos (by omega)]) ?_
      have h1 : (n : Int) / 128 = ((n / 128 : Nat) : Int) := rfl
      have h2 : Go.bits .or .u8 ((n : Int) % 256) 128 = ((128 + n % 128 : Nat) : Int) := by
        rw [or128 _ (by omega) (by omega)]; omega
      rw [h1, h2, vb_big hn]
      have := ih (n / 128) (xs ++ [((128 + n % 128 : Nat) : Int)]) (by rw [Nat.pow_succ] at h; exact Nat.div_lt_of_lt_mul (by omega)) (by omega) (by simp; omega)
      simpa using this
/-- What PutNum writes. -/
def putNum (n : Int) : ByteArray := if n < 0 then ⟨#[]⟩ else strOfNums (vb n.toNat)
theorem spec_putNum (n : Int) (h : n < 9223372036854775808) : Ev (fun k => spec_PutNum.f k n) (putNum n) := by
  unfold putNum
  by_cases h0 : n < 0
  · rw [if_pos h0]; exact Ev.congr (fun k => by rw [spec_PutNum.f, if_pos h0]) (Ev.now _)
  · rw [if_neg h0]
    refine Ev.congr (fun k => by rw [spec_PutNum.f, if_neg h0]) ?_
    obtain ⟨m, rfl⟩ := Int.eq_ofNat_of_zero_le (by omega : 0 ≤ n)
    exact spec_putNum_l0 8 m [] (by simp; omega) (by omega) (by simp)
theorem impl_putNum (n : Int) (h : n < 9223372036854775808) : Ev (fun k => impl_PutNum.f k n) (putNum n) := by
  unfold putNum
  by_cases h0 : n < 0
  · rw [if_pos h0]; exact Ev.congr (fun k => by rw [impl_PutNum.f, if_pos h0]) (Ev.now _)
  · rw [if_neg h0]
    refine Ev.congr (fun k => by rw [impl_PutNum.f, if_neg h0]) ?_
    obtain ⟨m, rfl⟩ := Int.eq_ofNat_of_zero_le (by omega : 0 ≤ n)
    rw [u64_id (by omega) (by omega)]
    exact impl_putNum_l0 8 m [] (by simp; omega) (by omega) (by simp)

theorem FnExactPutNum : laws_FnExactPutNum.Pure := by
  intro n hn
  have h : n < 9223372036854775808 := by
    simp only [Lit.wf, IntKind.min, IntKind.max, IntKind.signed, IntKind.bits, Bool.and_eq_true, decide_eq_true_eq, if_true] at hn; omega
  refine Ev.rounds (Ev.congr (fun k => by rw [laws_FnExactPutNum.f]) ?_)
  refine Ev.bind (spec_putNum n h) (Ev.bind (impl_putNum n h) ?_)
  exact Ev.congr (fun k => by simp) (Ev.now true)

end Go.Proofs.Ytjlbhjacjjkccaa.Pure
