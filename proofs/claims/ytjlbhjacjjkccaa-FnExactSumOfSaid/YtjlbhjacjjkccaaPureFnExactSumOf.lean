/- The statement FnExactSumOf over numbers and lists alone: the program's SumOf and the reference's answer the same number. No condition. -/
import Derived.Test.YtjlbhjacjjkccaaPFnExactSumOfx1
import Derived.Laws.BitsAllLaws
import Derived.Laws.Bits64
set_option linter.unusedVariables false
set_option linter.unusedSimpArgs false
namespace Go.Proofs.Ytjlbhjacjjkccaa.Pure
open Go.RowKit Go.Proofs.Ytjlbhjacjjkccaa.PFnExactSumOf Go.Proofs.YtjlbhjacjjkccaaW.PrintWords Go.Proofs.YtjlbhjacjjkccaaW.PrintLast Go.Proofs.YtjlbhjacjjkccaaW.PrintMore

/-! Small lemmas on wraps, rounds and lists. -/
theorem wrap64_id {x : Int} (h0 : -9223372036854775808 ≤ x) (h1 : x < 9223372036854775808) : wrap64 x = x := by unfold wrap64; omega
theorem u64_id {x : Int} (h0 : 0 ≤ x) (h1 : x < 18446744073709551616) : IntKind.u64.wrap x = x := by rw [IntKind.wrap_u64]; omega
theorem Ev.pos {α : Type} {c : Prop} [Decidable c] {f g : Nat → Option α} {r : α} (h : c) (e : Ev f r) : Ev (fun k => if c then f k else g k) r := by simpa [h] using e
theorem Ev.neg {α : Type} {c : Prop} [Decidable c] {f g : Nat → Option α} {r : α} (h : ¬ c) (e : Ev g r) : Ev (fun k => if c then f k else g k) r := by simpa [h] using e
theorem Ev.bindS {α β : Type} {g : Option α} {f : Nat → α → Option β} {a : α} {r : β} (h : g = some a) (e : Ev (fun k => f k a) r) : Ev (fun k => g.bind (f k)) r := by subst h; simpa using e
theorem Ev.give {α : Type} {r s : α} (h : s = r) : Ev (fun _ => some s) r := by subst h; exact Ev.now _
theorem bt_drop (s : ByteArray) (i : Nat) (h : i < s.size) : ∃ c : UInt8, s.data.toList.drop i = c :: s.data.toList.drop (i + 1) ∧ bt s (i : Int) = (c.toNat : Int) := by
  have hl : i < s.data.toList.length := by simpa using h
  refine ⟨s.data.toList[i], List.drop_eq_getElem_cons hl, ?_⟩
  unfold bt
  rw [dif_pos (by simpa using h)]
  simp [ByteArray.getElem_eq_getElem_data]
theorem drop_end (s : ByteArray) (i : Nat) (h : s.size ≤ i) : s.data.toList.drop i = [] := List.drop_eq_nil_of_le (by simpa using h)
theorem size_strOfNums (l : List Int) : (strOfNums l).size = l.length := by
  show (strOfNums l).data.size = l.length
  simp [strOfNums]
theorem i64_range {n : Int} (h : (Lit.int .i64 n).wf = true) : -9223372036854775808 ≤ n ∧ n < 9223372036854775808 := by
  simp only [Lit.wf, IntKind.min, IntKind.max, IntKind.signed, IntKind.bits, Bool.and_eq_true, decide_eq_true_eq, if_true] at h; omega

def sumStep (x d : Nat) : Nat := (x * 65539 + d + 1) % 2147483647
def sumL (l : List UInt8) (x : Nat) : Nat := l.foldl (fun x c => sumStep x c.toNat) x
/-- What SumOf answers. -/
def sumOf (s : ByteArray) (seed : Int) : Int := if seed < 0 then 0 else if (s.size : Int) > 400000 then 0 else ((sumL s.data.toList (seed.toNat % 2147483647 + 1) : Nat) : Int)
theorem sumL_lt (l : List UInt8) : ∀ x, x ≤ 2147483647 → sumL l x ≤ 2147483647 := by
  induction l with
  | nil => intro x h; exact h
  | cons c l ih => intro x h; show sumL l (sumStep x c.toNat) ≤ _; exact ih _ (by unfold sumStep; omega)
theorem sumOf_range (s : ByteArray) (seed : Int) : 0 ≤ sumOf s seed ∧ sumOf s seed ≤ 2147483647 := by
  unfold sumOf
  split
  · omega
  · split
    · omega
    · have := sumL_lt s.data.toList (seed.toNat % 2147483647 + 1) (by omega); omega
theorem step_sum (x : Nat) (hx : x ≤ 2147483647) (c : UInt8) : Int.tmod (wrap64 ((wrap64 ((wrap64 ((x : Int) * 65539)) + (wrap64 (c.toNat : Int)))) + 1)) 2147483647 = ((sumStep x c.toNat : Nat) : Int) := by
  have hc := c.toNat_lt
  rw [wrap64_id (x := (x : Int) * 65539) (by omega) (by omega), wrap64_id (x := (c.toNat : Int)) (by omega) (by omega), wrap64_id (x := (x : Int) * 65539 + (c.toNat : Int)) (by omega) (by omega), wrap64_id (by omega) (by omega), Int.tmod_eq_emod_of_nonneg (by omega)]
  rfl

theorem spec_sumOf_l0 (s : ByteArray) (hs : s.size ≤ 140737488351232) : ∀ (d i x : Nat), s.size - i = d → i ≤ s.size → x ≤ 2147483647 → Ev (fun k => spec_SumOf.l0 k s (x : Int) (i : Int)) ((sumL (s.data.toList.drop i) x : Nat) : Int) := by
  intro d
  induction d with
  | zero =>
    intro i x hd hi hx
    rw [drop_end s i (by omega)]
    refine Ev.step (fun k => by rw [spec_SumOf.l0, if_neg (by omega)]) (Ev.give ?_)
    rfl
  | succ d ih =>
    intro i x hd hi hx
    obtain ⟨c, e, hb⟩ := bt_drop s i (by omega)
    rw [e]
    refine Ev.step (fun k => by rw [spec_SumOf.l0, if_pos (by omega), if_pos (by omega), hb, step_sum x hx c, wrap64_id (x := (i : Int) + 1) (by omega) (by omega)]) ?_
    exact ih (i + 1) (sumStep x c.toNat) (by omega) (by omega) (by unfold sumStep; omega)
theorem impl_sumOf_l0 (s : ByteArray) (hs : s.size ≤ 140737488351232) : ∀ (d i x : Nat), s.size - i = d → i ≤ s.size → x ≤ 2147483647 → Ev (fun k => impl_SumOf.l0 k s (x : Int) (s.size : Int) (i : Int)) ((sumL (s.data.toList.drop i) x : Nat) : Int) := by
  intro d
  induction d with
  | zero =>
    intro i x hd hi hx
    rw [drop_end s i (by omega)]
    refine Ev.step (fun k => by rw [impl_SumOf.l0, if_neg (by omega)]) (Ev.give ?_)
    rfl
  | succ d ih =>
    intro i x hd hi hx
    obtain ⟨c, e, hb⟩ := bt_drop s i (by omega)
    rw [e]
    refine Ev.step (fun k => by rw [impl_SumOf.l0, if_pos (by omega), if_pos (by omega), if_pos (by omega), hb, step_sum x hx c, wrap64_id (x := (i : Int) + 1) (by omega) (by omega)]) ?_
    exact ih (i + 1) (sumStep x c.toNat) (by omega) (by omega) (by unfold sumStep; omega)
theorem seed_start {seed : Int} (h0 : ¬ seed < 0) : wrap64 (Int.tmod seed 2147483647 + 1) = ((seed.toNat % 2147483647 + 1 : Nat) : Int) := by
  obtain ⟨m, rfl⟩ := Int.eq_ofNat_of_zero_le (by omega : 0 ≤ seed)
  rw [Int.tmod_eq_emod_of_nonneg (by omega), wrap64_id (by omega) (by omega)]; rfl
theorem spec_sumOf (s : ByteArray) (hs : s.size ≤ 140737488351232) (seed : Int) : Ev (fun k => spec_SumOf.f k s seed) (sumOf s seed) := by
  unfold sumOf
  by_cases h0 : seed < 0
  · rw [if_pos h0]
    refine Ev.congr (fun k => by rw [spec_SumOf.f, if_pos h0]) ?_
    exact Ev.step (fun k => by rw [spec_SumOf.j0, if_pos rfl]) (Ev.now _)
  · rw [if_neg h0]
    refine Ev.congr (fun k => by rw [spec_SumOf.f, if_neg h0]) ?_
    by_cases h1 : (s.size : Int) > 400000
    · rw [if_pos h1]
      exact Ev.step (fun k => by rw [spec_SumOf.j0, if_pos (by simpa using h1)]) (Ev.now _)
    · rw [if_neg h1]
      refine Ev.step (fun k => by rw [spec_SumOf.j0, if_neg (by simpa using h1), seed_start h0]) ?_
      exact spec_sumOf_l0 s hs s.size 0 _ (by omega) (by omega) (by omega)
theorem impl_sumOf (s : ByteArray) (hs : s.size ≤ 140737488351232) (seed : Int) : Ev (fun k => impl_SumOf.f k s seed) (sumOf s seed) := by
  unfold sumOf
  by_cases h0 : seed < 0
  · rw [if_pos h0]
    refine Ev.congr (fun k => by rw [impl_SumOf.f, if_pos h0]) ?_
    exact Ev.step (fun k => by rw [impl_SumOf.j0, if_pos rfl]) (Ev.now _)
  · rw [if_neg h0]
    refine Ev.congr (fun k => by rw [impl_SumOf.f, if_neg h0]) ?_
    by_cases h1 : (s.size : Int) > 400000
    · rw [if_pos h1]
      exact Ev.step (fun k => by rw [impl_SumOf.j0, if_pos (by simpa using h1)]) (Ev.now _)
    · rw [if_neg h1]
      refine Ev.step (fun k => by rw [impl_SumOf.j0, if_neg (by simpa using h1), seed_start h0]) ?_
      exact impl_sumOf_l0 s hs s.size 0 _ (by omega) (by omega) (by omega)

theorem FnExactSumOf : laws_FnExactSumOf.Pure := by
  intro s seed hs _
  refine Ev.rounds (Ev.congr (fun k => by rw [laws_FnExactSumOf.f]) ?_)
  by_cases h0 : (s.size : Int) > 1048576
  · exact Ev.pos h0 (Ev.now _)
  · refine Ev.neg h0 ?_
    refine Ev.bind (spec_sumOf s hs seed) (Ev.bind (impl_sumOf s hs seed) ?_)
    exact Ev.congr (fun k => by simp) (Ev.now true)

end Go.Proofs.Ytjlbhjacjjkccaa.Pure
