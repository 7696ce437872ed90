/- The statement FnExactMatrixFault over numbers and lists alone: the program's MatrixFault and the reference's answer the same number, the argument unchanged. No condition. -/
import Derived.Test.YtnailhkgnccloaaPFnExactMatrixFaultx3
import Derived.Laws.BitsAllLaws
import Derived.Laws.Bits64
import Derived.Test.YtnailhkgnccloaaGoodFnExactMatrixFault
set_option linter.all false
namespace Go.Proofs.Ytnailhkgnccloaa.Pure
open Go.RowKit Go.Proofs.Ytnailhkgnccloaa.PFnExactMatrixFault Go.Proofs.YtnailhkgnccloaaW.PrintWords Go.Proofs.YtnailhkgnccloaaW.PrintLast Go.Proofs.YtnailhkgnccloaaW.PrintMore

/-! Small lemmas on wraps, rounds and lists. -/
theorem wrap64_id {x : Int} (h0 : -9223372036854775808 ≤ x) (h1 : x < 9223372036854775808) : wrap64 x = x := by unfold wrap64; omega
theorem u64_id {x : Int} (h0 : 0 ≤ x) (h1 : x < 18446744073709551616) : IntKind.u64.wrap x = x := by rw [IntKind.wrap_u64]; omega
theorem Ev.pos {α : Type} {c : Prop} [Decidable c] {f g : Nat → Option α} {r : α} (h : c) (e : Ev f r) : Ev (fun k => if c then f k else g k) r := by simpa [h] using e
theorem Ev.neg {α : Type} {c : Prop} [Decidable c] {f g : Nat → Option α} {r : α} (h : ¬ c) (e : Ev g r) : Ev (fun k => if c then f k else g k) r := by simpa [h] using e
theorem Ev.bindS {α β : Type} {g : Option α} {f : Nat → α → Option β} {a : α} {r : β} (h : g = some a) (e : Ev (fun k => f k a) r) : Ev (fun k => g.bind (f k)) r := by subst h; simpa using e
theorem Ev.give {α : Type} {r s : α} (h : s = r) : Ev (fun _ => some s) r := by subst h; exact Ev.now _
theorem bt_drop (s : ByteArray) (i : Nat) (h : i < s.size) : ∃ c : UInt8, s.data.toList.drop i = c :: s.data.toList.drop (i + 1) ∧ bt s (i : Int) = (c.toNat : Int) := by
  have hl : i < s.data.toList.length := by simpa using h
  refine ⟨s.data.toList[i], List.drop_eq_getElem_cons hl, ?_⟩
  unfold bt
  rw [dif_pos (by simpa using h)]
  simp [ByteArray.getElem_eq_getElem_data]
theorem drop_end (s : ByteArray) (i : Nat) (h : s.size ≤ i) : s.data.toList.drop i = [] := List.drop_eq_nil_of_le (by simpa using h)
theorem size_strOfNums (l : List Int) : (strOfNums l).size = l.length := by
  show (strOfNums l).data.size = l.length
  simp [strOfNums]
theorem i64_range {n : Int} (h : (Lit.int .i64 n).wf = true) : -9223372036854775808 ≤ n ∧ n < 9223372036854775808 := by
  simp only [Lit.wf, IntKind.min, IntKind.max, IntKind.signed, IntKind.bits, Bool.and_eq_true, decide_eq_true_eq, if_true] at h; omega
theorem byte_eq_int (c d : UInt8) : ((c.toNat : Int) = (d.toNat : Int)) ↔ c = d := by
  constructor
  · intro h; exact UInt8.toNat_inj.1 (by omega)
  · rintro rfl; rfl
theorem byte_eq_lit (c : UInt8) (n : Nat) (hn : n < 256) : ((c.toNat : Int) = (n : Int)) ↔ c = UInt8.ofNat n := by
  rw [← byte_eq_int]
  have : (UInt8.ofNat n).toNat = n := by simp [UInt8.toNat_ofNat']; omega
  rw [this]
theorem bt_get (s : ByteArray) (i : Nat) (h : i < s.size) : ∃ c : UInt8, s.data.toList[i]? = some c ∧ bt s (i : Int) = (c.toNat : Int) := by
  obtain ⟨c, e, hb⟩ := bt_drop s i h
  refine ⟨c, ?_, hb⟩
  have : (s.data.toList.drop i)[0]? = some c := by rw [e]; rfl
  simpa using this

/-! Lists of numbers: copied, held against one another, counted. -/
theorem set_prefix_id {α : Type} (z : α) (l : List α) (i : Nat) (h : i < l.length) (x : α) (hx : l[i]? = some x) :
    (l.take i ++ List.replicate (l.length - i) z).set i x = l.take (i + 1) ++ List.replicate (l.length - (i + 1)) z := by
  have h1 : (l.take i).length = i := by simp; omega
  rw [List.set_append_right _ _ (by omega), h1, Nat.sub_self]
  have h2 : List.replicate (l.length - i) z = z :: List.replicate (l.length - (i + 1)) z := by
    rw [show l.length - i = (l.length - (i + 1)) + 1 by omega]; rfl
  rw [h2, List.set_cons_zero, List.take_add_one, hx]
  simp
theorem rd_at (l : List Int) (i : Nat) (h : i < l.length) : rd l (i : Int) = l[i] := by
  unfold rd; rw [Int.toNat_natCast, List.getD_eq_getElem?_getD, List.getElem?_eq_getElem h]; rfl
theorem toInt64S_l0 (l : List Int) (hl : l.length ≤ 1048576) : ∀ (d i : Nat), l.length - i = d → i ≤ l.length →
    Ev (fun k => laws_toInt64S.l0 k l (l.take i ++ List.replicate (l.length - i) 0) (i : Int)) l := by
  intro d
  induction d with
  | zero =>
    intro i hd hi
    have : i = l.length := by omega
    subst this
    refine Ev.step (fun k => by rw [laws_toInt64S.l0, if_neg (by omega)]) (Ev.give ?_)
    simp
  | succ d ih =>
    intro i hd hi
    have hlt : i < l.length := by omega
    have hw : wrap64 ((i : Int) + 1) = ((i + 1 : Nat) : Int) := by rw [wrap64_id (by omega) (by omega)]; rfl
    have hs := set_prefix_id (0 : Int) l i hlt l[i] (List.getElem?_eq_getElem hlt)
    refine Ev.step (fun k => by rw [laws_toInt64S.l0, if_pos (by omega), if_pos (by omega), if_pos (by simp; omega), rd_at l i hlt, Int.toNat_natCast, hw, hs]) ?_
    exact ih (i + 1) (by omega) (by omega)
theorem toInt64S (l : List Int) (hl : l.length ≤ 1048576) : Ev (fun k => laws_toInt64S.f k l) l := by
  refine Ev.congr (fun k => by rw [laws_toInt64S.f, if_pos (by omega), if_pos (by omega), Int.toNat_natCast]) ?_
  have := toInt64S_l0 l hl l.length 0 rfl (by omega)
  simpa using this
theorem eqInt64S_l0 (l : List Int) (hl : l.length ≤ 1048576) : ∀ (d i : Nat), l.length - i = d → i ≤ l.length → Ev (fun k => laws_eqInt64S.l0 k l l (i : Int)) true := by
  intro d
  induction d with
  | zero =>
    intro i hd hi
    exact Ev.step (fun k => by rw [laws_eqInt64S.l0, if_neg (by omega)]) (Ev.now _)
  | succ d ih =>
    intro i hd hi
    have hw : wrap64 ((i : Int) + 1) = ((i + 1 : Nat) : Int) := by rw [wrap64_id (by omega) (by omega)]; rfl
    refine Ev.step (fun k => by rw [laws_eqInt64S.l0, if_pos (by omega), if_pos (by omega), if_pos (by omega), if_pos rfl, hw]) ?_
    exact ih (i + 1) (by omega) (by omega)
theorem eqInt64S (l : List Int) (hl : l.length ≤ 1048576) : Ev (fun k => laws_eqInt64S.f k l l) true := by
  refine Ev.congr (fun k => by rw [laws_eqInt64S.f, if_pos rfl]) ?_
  exact eqInt64S_l0 l hl l.length 0 rfl (by omega)

theorem szInt64S (l : List Int) (left : Int) (hl : l.length ≤ 9223372036854775807) (h0 : 0 ≤ left) (h1 : left ≤ 1048576) :
    (laws_szInt64S.f l left = some (-1) ∧ left < l.length) ∨ (laws_szInt64S.f l left = some (left - l.length) ∧ (l.length : Int) ≤ left) := by
  unfold laws_szInt64S.f
  rw [wrap64_id (by omega) (by omega)]
  by_cases h : left - (l.length : Int) < 0
  · rw [if_pos h]; exact .inl ⟨rfl, by omega⟩
  · rw [if_neg h]; exact .inr ⟨rfl, by omega⟩

theorem szMatrix (r c : Int) (l : List Int) (left : Int) (hl : l.length ≤ 9223372036854775807) (h0 : 0 ≤ left) (h1 : left ≤ 1048576) :
    (laws_szMatrix.f r c l left = some (-1)) ∨ (laws_szMatrix.f r c l left = some (left - l.length) ∧ (l.length : Int) ≤ left) := by
  unfold laws_szMatrix.f
  rcases szInt64S l left hl h0 h1 with ⟨h, _⟩ | ⟨h, hle⟩
  · rw [h, Option.bind_some, if_pos (by decide)]; exact .inl rfl
  · rw [h, Option.bind_some, if_neg (by omega)]; exact .inr ⟨rfl, hle⟩
theorem toMatrix (r c : Int) (l : List Int) (hl : l.length ≤ 1048576) : Ev (fun k => laws_toMatrix.f k r c l) (r, c, l) :=
  Ev.congr (fun k => by rw [laws_toMatrix.f]) (Ev.bind (toInt64S l hl) (Ev.now _))
theorem eqMatrix (r c : Int) (l : List Int) (hl : l.length ≤ 1048576) : Ev (fun k => laws_eqMatrix.f k r c l r c l) true :=
  Ev.congr (fun k => by rw [laws_eqMatrix.f, if_pos rfl, if_pos rfl]) (Ev.bind (eqInt64S l hl) (Ev.pos rfl (Ev.now _)))

theorem spec_in (a top : Int) : spec_l02In.f a top = some (decide (0 ≤ a ∧ a < top)) := by
  unfold spec_l02In.f
  by_cases h : a ≥ 0
  · rw [if_pos h]; simp [show 0 ≤ a from h]
  · rw [if_neg h]; simp [show ¬ 0 ≤ a from h]

theorem impl_isByte (a : Int) : impl_isByte.f a = some (decide (0 ≤ a ∧ a < 256)) := by
  unfold impl_isByte.f
  by_cases h : a ≥ 0
  · rw [if_pos h]; congr 1; rw [decide_eq_decide]; omega
  · rw [if_neg h]; congr 1; rw [eq_comm, decide_eq_false_iff_not]; omega

def cellBad (x : Int) : Bool := !decide (0 ≤ x ∧ x < 256)
/-- What MatrixFault answers. -/
def matFaultOf (r c : Int) (l : List Int) : Int := if r < 1 then 1 else if r > 64 then 1 else if c < 1 then 1 else if c > 64 then 1 else if ¬ (l.length : Int) = r * c then 1 else if l.any cellBad = true then 1 else 0
theorem any_dropI {α : Type} (p : α → Bool) (l : List α) (i : Nat) (h : i < l.length) : (l.drop i).any p = (p l[i] || (l.drop (i + 1)).any p) := by
  rw [List.drop_eq_getElem_cons h, List.any_cons]
theorem side_mul {r c : Int} (h1 : 1 ≤ r) (h2 : r ≤ 64) (h3 : 1 ≤ c) (h4 : c ≤ 64) : 1 ≤ r * c ∧ r * c ≤ 4096 := by
  have e1 : r * c ≤ 64 * c := Int.mul_le_mul_of_nonneg_right h2 (by omega)
  have e2 : 1 * c ≤ r * c := Int.mul_le_mul_of_nonneg_right h1 (by omega)
  omega

theorem spec_matFault_l0 (r c : Int) (l : List Int) (hl : l.length ≤ 1048576) : ∀ (d i : Nat), l.length - i = d → i ≤ l.length → Ev (fun k => spec_MatrixFault.l0 k (i : Int) r c l) (if (l.drop i).any cellBad = true then 1 else 0) := by
  intro d
  induction d with
  | zero =>
    intro i hd hi
    rw [List.drop_eq_nil_of_le (by omega)]
    refine Ev.step (fun k => by rw [spec_MatrixFault.l0, if_neg (by omega)]) (Ev.give ?_)
    rfl
  | succ d ih =>
    intro i hd hi
    have hlt : i < l.length := by omega
    have hr := rd_at l i hlt
    have hw : wrap64 ((i : Int) + 1) = ((i + 1 : Nat) : Int) := by rw [wrap64_id (by omega) (by omega)]; rfl
    have next := ih (i + 1) (by omega) (by omega)
    rw [any_dropI cellBad l i hlt]
    refine Ev.step (fun k => by rw [spec_MatrixFault.l0, if_pos (by omega), if_pos (by omega), hr, spec_in, Option.bind_some]) ?_
    by_cases hb : 0 ≤ l[i] ∧ l[i] < 256
    · rw [show cellBad l[i] = false by simp [cellBad, hb], Bool.false_or]
      refine Ev.pos (by simpa using hb) ?_
      rw [hw]
      exact next
    · rw [show cellBad l[i] = true by simp only [cellBad, hb, decide_false, Bool.not_false], Bool.true_or]
      exact Ev.neg (by simpa using hb) (Ev.now _)
theorem spec_matFault (r c : Int) (l : List Int) (hl : l.length ≤ 1048576) : Ev (fun k => spec_MatrixFault.f k r c l) (matFaultOf r c l) := by
  unfold matFaultOf
  have bad : ∀ b : Bool, b = true → Ev (fun k => spec_MatrixFault.j0 k b r c l) 1 := by
    rintro b rfl
    exact Ev.step (fun k => by rw [spec_MatrixFault.j0, if_pos rfl]) (Ev.now _)
  refine Ev.congr (fun k => by rw [spec_MatrixFault.f]) ?_
  by_cases h0 : r < 1
  · rw [if_pos h0]; exact Ev.pos h0 (bad _ rfl)
  · rw [if_neg h0]; refine Ev.neg h0 ?_
    by_cases h1 : r > 64
    · rw [if_pos h1]; exact Ev.pos h1 (bad _ rfl)
    · rw [if_neg h1]; refine Ev.neg h1 ?_
      by_cases h2 : c < 1
      · rw [if_pos h2]; exact Ev.pos h2 (bad _ rfl)
      · rw [if_neg h2]; refine Ev.neg h2 ?_
        by_cases h3 : c > 64
        · rw [if_pos h3]; exact Ev.pos h3 (bad _ rfl)
        · rw [if_neg h3]; refine Ev.neg h3 ?_
          have hm := side_mul (by omega : 1 ≤ r) (by omega) (by omega : 1 ≤ c) (by omega)
          rw [wrap64_id (by omega) (by omega)]
          by_cases h4 : (l.length : Int) = r * c
          · rw [if_neg (by simpa using h4)]
            refine Ev.step (fun k => by rw [spec_MatrixFault.j0, if_neg (by simpa using h4)]) ?_
            have := spec_matFault_l0 r c l hl l.length 0 rfl (by omega)
            simpa using this
          · rw [if_pos h4]
            exact bad _ (by simpa using h4)

theorem impl_matFault_l0 (r c : Int) (l : List Int) (hl : l.length ≤ 1048576) : ∀ (d i : Nat), l.length - i = d → i ≤ l.length → Ev (fun k => impl_MatrixFault.l0 k l (l.length : Int) (i : Int)) (if (l.drop i).any cellBad = true then 1 else 0) := by
  intro d
  induction d with
  | zero =>
    intro i hd hi
    rw [List.drop_eq_nil_of_le (by omega)]
    refine Ev.step (fun k => by rw [impl_MatrixFault.l0, if_neg (by omega)]) (Ev.give ?_)
    rfl
  | succ d ih =>
    intro i hd hi
    have hlt : i < l.length := by omega
    have hr := rd_at l i hlt
    have hw : wrap64 ((i : Int) + 1) = ((i + 1 : Nat) : Int) := by rw [wrap64_id (by omega) (by omega)]; rfl
    have next := ih (i + 1) (by omega) (by omega)
    rw [any_dropI cellBad l i hlt]
    refine Ev.step (fun k => by rw [impl_MatrixFault.l0, if_pos (by omega), if_pos (by omega), if_pos (by omega), hr, impl_isByte, Option.bind_some]) ?_
    by_cases hb : 0 ≤ l[i] ∧ l[i] < 256
    · rw [show cellBad l[i] = false by simp [cellBad, hb], Bool.false_or]
      refine Ev.pos (by simpa using hb) ?_
      rw [hw]
      exact next
    · rw [show cellBad l[i] = true by simp only [cellBad, hb, decide_false, Bool.not_false], Bool.true_or]
      exact Ev.neg (by simpa using hb) (Ev.now _)
theorem impl_matFault (r c : Int) (l : List Int) (hl : l.length ≤ 1048576) : Ev (fun k => impl_MatrixFault.f k r c l) (matFaultOf r c l) := by
  unfold matFaultOf
  have bad : ∀ b : Bool, b = true → Ev (fun k => impl_MatrixFault.j0 k b r c l) 1 := by
    rintro b rfl
    exact Ev.step (fun k => by rw [impl_MatrixFault.j0, if_pos rfl]) (Ev.now _)
  refine Ev.congr (fun k => by rw [impl_MatrixFault.f]) ?_
  by_cases h0 : r < 1
  · rw [if_pos h0]; exact Ev.pos h0 (bad _ rfl)
  · rw [if_neg h0]; refine Ev.neg h0 ?_
    by_cases h1 : r > 64
    · rw [if_pos h1]; exact Ev.pos h1 (bad _ rfl)
    · rw [if_neg h1]; refine Ev.neg h1 ?_
      by_cases h2 : c < 1
      · rw [if_pos h2]; exact Ev.pos h2 (bad _ rfl)
      · rw [if_neg h2]; refine Ev.neg h2 ?_
        by_cases h3 : c > 64
        · rw [if_pos h3]; exact Ev.pos h3 (bad _ rfl)
        · rw [if_neg h3]; refine Ev.neg h3 ?_
          have hm := side_mul (by omega : 1 ≤ r) (by omega) (by omega : 1 ≤ c) (by omega)
          rw [wrap64_id (by omega) (by omega)]
          by_cases h4 : (l.length : Int) = r * c
          · rw [if_neg (by simpa using h4)]
            refine Ev.step (fun k => by rw [impl_MatrixFault.j0, if_neg (by simpa using h4)]) ?_
            have := impl_matFault_l0 r c l hl l.length 0 rfl (by omega)
            simpa using this
          · rw [if_pos h4]
            exact bad _ (by simpa using h4)

theorem FnExactMatrixFault : laws_FnExactMatrixFault.Wants := by
  intro r c l _ _ hg
  refine Ev.rounds (Ev.congr (fun k => by rw [laws_FnExactMatrixFault.f]) ?_)
  rcases szMatrix r c l 1048576 hg.1 (by omega) (by omega) with h | ⟨h, hle⟩
  · exact Ev.bindS h (Ev.pos (by decide) (Ev.now _))
  · refine Ev.bindS h (Ev.neg (by omega) ?_)
    have hl : l.length ≤ 1048576 := by omega
    refine Ev.bind (toMatrix r c l hl) (Ev.bind (spec_matFault r c l hl) (Ev.bind (toMatrix r c l hl) (Ev.bind (impl_matFault r c l hl) (Ev.pos rfl (Ev.bind (toMatrix r c l hl) (Ev.bind (eqMatrix r c l hl) (Ev.pos rfl (Ev.now _))))))))

end Go.Proofs.Ytnailhkgnccloaa.Pure
