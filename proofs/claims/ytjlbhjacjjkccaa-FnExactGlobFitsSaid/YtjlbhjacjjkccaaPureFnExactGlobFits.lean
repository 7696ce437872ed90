/- The statement FnExactGlobFits over numbers and lists alone: the program's GlobFits and the reference's answer the same. No condition. -/
import Derived.Test.YtjlbhjacjjkccaaQFnExactGlobFitsx3
import Derived.Laws.BitsAllLaws
import Derived.Laws.Bits64
set_option linter.all false
namespace Go.Proofs.Ytjlbhjacjjkccaa.Pure
open Go.RowKit Go.Proofs.Ytjlbhjacjjkccaa.QFnExactGlobFits Go.Proofs.YtjlbhjacjjkccaaW.PrintWords Go.Proofs.YtjlbhjacjjkccaaW.PrintLast Go.Proofs.YtjlbhjacjjkccaaW.PrintMore

/-! Small lemmas on wraps, rounds and lists. -/
theorem wrap64_id {x : Int} (h0 : -9223372036854775808 ≤ x) (h1 : x < 9223372036854775808) : wrap64 x = x := by unfold wrap64; omega
theorem u64_id {x : Int} (h0 : 0 ≤ x) (h1 : x < 18446744073709551616) : IntKind.u64.wrap x = x := by rw [IntKind.wrap_u64]; omega
theorem Ev.pos {α : Type} {c : Prop} [Decidable c] {f g : Nat → Option α} {r : α} (h : c) (e : Ev f r) : Ev (fun k => if c then f k else g k) r := by simpa [h] using e
theorem Ev.neg {α : Type} {c : Prop} [Decidable c] {f g : Nat → Option α} {r : α} (h : ¬ c) (e : Ev g r) : Ev (fun k => if c then f k else g k) r := by simpa [h] using e
theorem Ev.bindS {α β : Type} {g : Option α} {f : Nat → α → Option β} {a : α} {r : β} (h : g = some a) (e : Ev (fun k => f k a) r) : Ev (fun k => g.bind (f k)) r := by subst h; simpa using e
theorem Ev.give {α : Type} {r s : α} (h : s = r) : Ev (fun _ => some s) r := by subst h; exact Ev.now _
theorem bt_drop (s : ByteArray) (i : Nat) (h : i < s.size) : ∃ c : UInt8, s.data.toList.drop i = c :: s.data.toList.drop (i + 1) ∧ bt s (i : Int) = (c.toNat : Int) := by
  have hl : i < s.data.toList.length := by simpa using h
  refine ⟨s.data.toList[i], List.drop_eq_getElem_cons hl, ?_⟩
  unfold bt
  rw [dif_pos (by simpa using h)]
  simp [ByteArray.getElem_eq_getElem_data]
theorem drop_end (s : ByteArray) (i : Nat) (h : s.size ≤ i) : s.data.toList.drop i = [] := List.drop_eq_nil_of_le (by simpa using h)
theorem size_strOfNums (l : List Int) : (strOfNums l).size = l.length := by
  show (strOfNums l).data.size = l.length
  simp [strOfNums]
theorem i64_range {n : Int} (h : (Lit.int .i64 n).wf = true) : -9223372036854775808 ≤ n ∧ n < 9223372036854775808 := by
  simp only [Lit.wf, IntKind.min, IntKind.max, IntKind.signed, IntKind.bits, Bool.and_eq_true, decide_eq_true_eq, if_true] at h; omega
theorem byte_eq_int (c d : UInt8) : ((c.toNat : Int) = (d.toNat : Int)) ↔ c = d := by
  constructor
  · intro h; exact UInt8.toNat_inj.1 (by omega)
  · rintro rfl; rfl
theorem byte_eq_lit (c : UInt8) (n : Nat) (hn : n < 256) : ((c.toNat : Int) = (n : Int)) ↔ c = UInt8.ofNat n := by
  rw [← byte_eq_int]
  have : (UInt8.ofNat n).toNat = n := by simp [UInt8.toNat_ofNat']; omega
  rw [this]
theorem bt_get (s : ByteArray) (i : Nat) (h : i < s.size) : ∃ c : UInt8, s.data.toList[i]? = some c ∧ bt s (i : Int) = (c.toNat : Int) := by
  obtain ⟨c, e, hb⟩ := bt_drop s i h
  refine ⟨c, ?_, hb⟩
  have : (s.data.toList.drop i)[0]? = some c := by rw [e]; rfl
  simpa using this

/-! Patterns with stars and question marks: the row of how far a text may have come. -/
def anyTo (row : Nat → Bool) : Nat → Bool
  | 0 => false
  | j + 1 => anyTo row j || row j
def gRow (t : List UInt8) (row : Nat → Bool) (c : UInt8) : Nat → Bool := fun j =>
  if c = 42 then anyTo row (j + 1) else match j with
    | 0 => false
    | j + 1 => row j && (c == 63 || t[j]? == some c)
def gStart : Nat → Bool := fun j => decide (j = 0)
def globL (p t : List UInt8) : Bool := p.foldl (gRow t) gStart t.length
/-- What GlobFits answers. -/
def globOf (p t : ByteArray) : Bool := if (p.size : Int) > 200 then false else if (t.size : Int) > 2000 then false else globL p.data.toList t.data.toList
/-- A row as a list. -/
def LL (n : Nat) (f : Nat → Bool) : List Bool := (List.range (n + 1)).map f
theorem LL_length (n : Nat) (f : Nat → Bool) : (LL n f).length = n + 1 := by simp [LL]
theorem LL_get (n : Nat) (f : Nat → Bool) (j : Nat) (h : j ≤ n) : rdOf false (LL n f) (j : Int) = f j := by
  unfold rdOf LL
  rw [Int.toNat_natCast, List.getD_eq_getElem?_getD, List.getElem?_map, List.getElem?_range (by omega)]
  rfl
theorem LL_ext {n : Nat} {f g : Nat → Bool} (h : ∀ i, i ≤ n → f i = g i) : LL n f = LL n g := by
  unfold LL
  apply List.map_congr_left
  intro i hi
  exact h i (by have := List.mem_range.1 hi; omega)
theorem LL_set (n : Nat) (f : Nat → Bool) (j : Nat) (b : Bool) (h : j ≤ n) : (LL n f).set j b = LL n (fun i => if i = j then b else f i) := by
  apply List.ext_getElem
  · simp [LL]
  · intro i h1 h2
    simp only [LL, List.getElem_set, List.getElem_map, List.getElem_range]
    by_cases e : j = i
    · subst e; simp
    · rw [if_neg e, if_neg (fun h => e h.symm)]
theorem LL_false (n : Nat) : List.replicate (n + 1) false = LL n (fun _ => false) := by
  apply List.ext_getElem
  · simp [LL]
  · intro i h1 h2; simp [LL]
theorem LL_start (n : Nat) : (List.replicate (n + 1) false).set 0 true = LL n gStart := by
  rw [LL_false, LL_set n _ 0 true (by omega)]
  apply LL_ext
  intro i _
  unfold gStart
  by_cases h : i = 0 <;> simp [h]
theorem LL_step (n : Nat) (f : Nat → Bool) (j : Nat) (h : j ≤ n) : (LL n (fun i => decide (i < j) && f i)).set j (f j) = LL n (fun i => decide (i < j + 1) && f i) := by
  rw [LL_set n _ j _ h]
  apply LL_ext
  intro i _
  by_cases e : i = j
  · subst e; simp
  · rw [if_neg e]
    have : decide (i < j) = decide (i < j + 1) := by rw [decide_eq_decide]; omega
    rw [this]
theorem LL_skip (n : Nat) (f : Nat → Bool) (j : Nat) (h : f j = false) : LL n (fun i => decide (i < j) && f i) = LL n (fun i => decide (i < j + 1) && f i) := by
  apply LL_ext
  intro i _
  by_cases e : i = j
  · subst e; simp [h]
  · have : decide (i < j) = decide (i < j + 1) := by rw [decide_eq_decide]; omega
    rw [this]
theorem LL_all (n : Nat) (f : Nat → Bool) (m : Nat) (h : n < m) : LL n (fun i => decide (i < m) && f i) = LL n f := by
  apply LL_ext
  intro i hi
  simp [show i < m by omega]
theorem LL_none (n : Nat) (f : Nat → Bool) : LL n (fun i => decide (i < 0) && f i) = List.replicate (n + 1) false := by
  rw [LL_false]; apply LL_ext; intro i _; simp
theorem gRow_star (t : List UInt8) (row : Nat → Bool) (j : Nat) : gRow t row 42 j = anyTo row (j + 1) := by simp [gRow]
theorem gRow_zero (t : List UInt8) (row : Nat → Bool) (c : UInt8) (h : c ≠ 42) : gRow t row c 0 = false := by simp [gRow, h]
theorem gRow_succ (t : List UInt8) (row : Nat → Bool) (c : UInt8) (h : c ≠ 42) (j : Nat) : gRow t row c (j + 1) = (row j && (c == 63 || t[j]? == some c)) := by simp [gRow, h]
theorem gRow_zero' (t : List UInt8) (row : Nat → Bool) (c : UInt8) (h : c ≠ 42) (n : Nat) : LL n (fun i => decide (i < 1) && gRow t row c i) = List.replicate (n + 1) false := by
  rw [LL_false]; apply LL_ext; intro i _
  by_cases e : i = 0
  · subst e; simp [gRow_zero t row c h]
  · simp [e]

section
variable (p t : ByteArray) (row : Nat → Bool) (c : UInt8) (i : Nat)
theorem spec_glob_star (ht : t.size ≤ 140737488351232) (hi : i < p.size) (hc : bt p (i : Int) = (c.toNat : Int)) (h42 : c = 42) (r : Bool)
    (cont : Ev (fun k => spec_GlobFits.l0 k p t (LL t.size (gRow t.data.toList row c)) ((i : Int) + 1)) r) (hi64 : p.size ≤ 140737488351232) :
    ∀ (d j : Nat), t.size + 1 - j = d → j ≤ t.size + 1 → Ev (fun k => spec_GlobFits.l1 k p t (LL t.size row) (i : Int) (LL t.size (fun q => decide (q < j) && gRow t.data.toList row c q)) (anyTo row j) (j : Int)) r := by
  subst h42
  have h42' : bt p (i : Int) = 42 := hc
  intro d
  induction d with
  | zero =>
    intro j hd hj
    refine Ev.step (fun k => by rw [spec_GlobFits.l1, if_neg (by omega), wrap64_id (x := (i : Int) + 1) (by omega) (by omega)]) ?_
    rw [LL_all _ _ _ (by omega)]
    exact cont
  | succ d ih =>
    intro j hd hj
    have hjn : j ≤ t.size := by omega
    have key : Ev (fun k => spec_GlobFits.j3 k p t (LL t.size row) (i : Int) (LL t.size (fun q => decide (q < j) && gRow t.data.toList row 42 q)) (anyTo row (j + 1)) (j : Int)) r := by
      have := ih (j + 1) (by omega) (by omega)
      refine Ev.step (fun k => by rw [spec_GlobFits.j3, if_pos (by omega), if_pos (by omega), if_pos h42', if_pos (by omega), if_pos (by rw [LL_length]; omega), wrap64_id (x := (j : Int) + 1) (by omega) (by omega), Int.toNat_natCast, ← gRow_star t.data.toList row j, LL_step _ _ _ hjn]) ?_
      rw [gRow_star]
      exact this
    by_cases ha : anyTo row j = true
    · have e : anyTo row (j + 1) = true := by simp [anyTo, ha]
      rw [e] at key
      exact Ev.step (fun k => by rw [spec_GlobFits.l1, if_pos (by omega), if_pos ha]) key
    · have e : anyTo row (j + 1) = row j := by simp [anyTo, ha]
      rw [e] at key
      exact Ev.step (fun k => by rw [spec_GlobFits.l1, if_pos (by omega), if_neg ha, if_pos (by omega), if_pos (by rw [LL_length]; omega), LL_get _ _ _ hjn]) key
theorem spec_glob_plain (ht : t.size ≤ 140737488351232) (hi : i < p.size) (hc : bt p (i : Int) = (c.toNat : Int)) (h42 : c ≠ 42) (r : Bool)
    (cont : Ev (fun k => spec_GlobFits.l0 k p t (LL t.size (gRow t.data.toList row c)) ((i : Int) + 1)) r) (hi64 : p.size ≤ 140737488351232) :
    ∀ (d j : Nat), t.size + 1 - j = d → j ≤ t.size + 1 → Ev (fun k => spec_GlobFits.l1 k p t (LL t.size row) (i : Int) (LL t.size (fun q => decide (q < j + 1) && gRow t.data.toList row c q)) (anyTo row j) (j : Int)) r := by
  have h42' : ¬ bt p (i : Int) = 42 := by rw [hc]; exact fun h => h42 ((byte_eq_lit c 42 (by omega)).1 h)
  intro d
  induction d with
  | zero =>
    intro j hd hj
    refine Ev.step (fun k => by rw [spec_GlobFits.l1, if_neg (by omega), wrap64_id (x := (i : Int) + 1) (by omega) (by omega)]) ?_
    rw [LL_all _ _ _ (by omega)]
    exact cont
  | succ d ih =>
    intro j hd hj
    have hjn : j ≤ t.size := by omega
    have next := ih (j + 1) (by omega) (by omega)
    have hw : wrap64 ((j : Int) + 1) = ((j + 1 : Nat) : Int) := by rw [wrap64_id (by omega) (by omega)]; rfl
    have key : Ev (fun k => spec_GlobFits.j3 k p t (LL t.size row) (i : Int) (LL t.size (fun q => decide (q < j + 1) && gRow t.data.toList row c q)) (anyTo row (j + 1)) (j : Int)) r := by
      by_cases hjl : j < t.size
      · obtain ⟨e, he, hbe⟩ := bt_get t j hjl
        have hg := gRow_succ t.data.toList row c h42 j
        rw [he] at hg
        by_cases hr : row j = true
        · have set1 : gRow t.data.toList row c (j + 1) = true → (LL t.size (fun q => decide (q < j + 1) && gRow t.data.toList row c q)).set (j + 1) true = LL t.size (fun q => decide (q < j + 1 + 1) && gRow t.data.toList row c q) := by
            intro h; rw [← LL_step _ _ _ (by omega : j + 1 ≤ t.size), h]
          by_cases h63 : c = 63
          · have h63' : bt p (i : Int) = 63 := by rw [hc, h63]; rfl
            refine Ev.step (fun k => by rw [spec_GlobFits.j3, if_pos (by omega), if_pos (by omega), if_neg h42', if_pos (by omega), if_pos (by omega), if_pos (by rw [LL_length]; omega), LL_get _ _ _ hjn, if_pos hr, if_pos h63', hw, if_pos (by omega), if_pos (by rw [LL_length]; omega), Int.toNat_natCast, set1 (by rw [hg, hr, h63]; rfl)]) ?_
            exact next
          · have h63' : ¬ bt p (i : Int) = 63 := by rw [hc]; exact fun h => h63 ((byte_eq_lit c 63 (by omega)).1 h)
            by_cases hce : c = e
            · refine Ev.step (fun k => by rw [spec_GlobFits.j3, if_pos (by omega), if_pos (by omega), if_neg h42', if_pos (by omega), if_pos (by omega), if_pos (by rw [LL_length]; omega), LL_get _ _ _ hjn, if_pos hr, if_neg h63', if_pos (by rw [hc, hbe, hce]), hw, if_pos (by omega), if_pos (by rw [LL_length]; omega), Int.toNat_natCast, set1 (by rw [hg, hr, hce]; simp)]) ?_
              exact next
            · have hz : gRow t.data.toList row c (j + 1) = false := by rw [hg, hr]; simp [h63]; exact fun h => hce h.symm
              rw [LL_skip _ _ _ hz]
              refine Ev.step (fun k => by rw [spec_GlobFits.j3, if_pos (by omega), if_pos (by omega), if_neg h42', if_pos (by omega), if_pos (by omega), if_pos (by rw [LL_length]; omega), LL_get _ _ _ hjn, if_pos hr, if_neg h63', if_neg (by rw [hc, hbe]; exact fun h => hce ((byte_eq_int c e).1 h)), hw]) ?_
              exact next
        · have hz : gRow t.data.toList row c (j + 1) = false := by rw [hg]; simp [hr]
          rw [LL_skip _ _ _ hz]
          refine Ev.step (fun k => by rw [spec_GlobFits.j3, if_pos (by omega), if_pos (by omega), if_neg h42', if_pos (by omega), if_pos (by omega), if_pos (by rw [LL_length]; omega), LL_get _ _ _ hjn, if_neg hr, hw]) ?_
          exact next
      · have : j = t.size := by omega
        subst this
        refine Ev.step (fun k => by rw [spec_GlobFits.j3, if_pos (by omega), if_pos (by omega), if_neg h42', if_neg (by omega), hw]) ?_
        rw [LL_all _ _ _ (by omega)] at next ⊢
        exact next
    by_cases ha : anyTo row j = true
    · have e : anyTo row (j + 1) = true := by simp [anyTo, ha]
      rw [e] at key
      exact Ev.step (fun k => by rw [spec_GlobFits.l1, if_pos (by omega), if_pos ha]) key
    · have e : anyTo row (j + 1) = row j := by simp [anyTo, ha]
      rw [e] at key
      exact Ev.step (fun k => by rw [spec_GlobFits.l1, if_pos (by omega), if_neg ha, if_pos (by omega), if_pos (by rw [LL_length]; omega), LL_get _ _ _ hjn]) key
end
theorem spec_glob_l0 (p t : ByteArray) (hp : p.size ≤ 140737488351232) (ht : t.size ≤ 140737488351232) : ∀ (d i : Nat) (row : Nat → Bool), p.size - i = d → i ≤ p.size →
    Ev (fun k => spec_GlobFits.l0 k p t (LL t.size row) (i : Int)) ((p.data.toList.drop i).foldl (gRow t.data.toList) row t.size) := by
  intro d
  induction d with
  | zero =>
    intro i row hd hi
    rw [drop_end p i (by omega)]
    refine Ev.step (fun k => by rw [spec_GlobFits.l0, if_neg (by omega), if_pos (by omega), if_pos (by rw [LL_length]; omega), LL_get _ _ _ (by omega)]) (Ev.give ?_)
    rfl
  | succ d ih =>
    intro i row hd hi
    obtain ⟨c, e, hb⟩ := bt_drop p i (by omega)
    rw [e]
    have hsz : wrap64 ((t.size : Int) + 1) = ((t.size + 1 : Nat) : Int) := by rw [wrap64_id (by omega) (by omega)]; rfl
    have cont := ih (i + 1) (gRow t.data.toList row c) (by omega) (by omega)
    refine Ev.step (fun k => by rw [spec_GlobFits.l0, if_pos (by omega), hsz, if_pos (by omega), if_pos (by omega), Int.toNat_natCast]) ?_
    by_cases h42 : c = 42
    · have := spec_glob_star p t row c i ht (by omega) hb h42 _ cont hp _ 0 rfl (by omega)
      rw [LL_none] at this
      exact this
    · have := spec_glob_plain p t row c i ht (by omega) hb h42 _ cont hp _ 0 rfl (by omega)
      rw [gRow_zero' _ _ _ h42] at this
      exact this
theorem spec_globFits (p t : ByteArray) (hp : p.size ≤ 140737488351232) (ht : t.size ≤ 140737488351232) : Ev (fun k => spec_GlobFits.f k p t) (globOf p t) := by
  unfold globOf
  by_cases h0 : (p.size : Int) > 200
  · rw [if_pos h0]
    refine Ev.congr (fun k => by rw [spec_GlobFits.f, if_pos h0]) ?_
    exact Ev.step (fun k => by rw [spec_GlobFits.j0, if_pos rfl]) (Ev.now _)
  · rw [if_neg h0]
    refine Ev.congr (fun k => by rw [spec_GlobFits.f, if_neg h0]) ?_
    by_cases h1 : (t.size : Int) > 2000
    · rw [if_pos h1]
      exact Ev.step (fun k => by rw [spec_GlobFits.j0, if_pos (by simpa using h1)]) (Ev.now _)
    · rw [if_neg h1]
      have hsz : wrap64 ((t.size : Int) + 1) = ((t.size + 1 : Nat) : Int) := by rw [wrap64_id (by omega) (by omega)]; rfl
      refine Ev.step (fun k => by rw [spec_GlobFits.j0, if_neg (by simpa using h1), hsz, if_pos (by omega), if_pos (by omega), Int.toNat_natCast, Option.bind_some, if_pos (by simp)]) ?_
      have := spec_glob_l0 p t hp ht p.size 0 gStart (by omega) (by omega)
      rw [← LL_start] at this
      unfold globL
      rw [show t.data.toList.length = t.size by simp]
      exact this

section
variable (p t : ByteArray) (row : Nat → Bool) (c : UInt8) (i : Nat)
theorem impl_glob_star (ht : t.size ≤ 140737488351232) (hi : i < p.size) (hc : bt p (i : Int) = (c.toNat : Int)) (h42 : c = 42) (r : Bool)
    (cont : Ev (fun k => impl_GlobFits.l0 k p t (LL t.size (gRow t.data.toList row c)) (p.size : Int) ((i : Int) + 1)) r) (hi64 : p.size ≤ 140737488351232) :
    ∀ (d j : Nat), t.size + 1 - j = d → j ≤ t.size + 1 → Ev (fun k => impl_GlobFits.l1 k p t (LL t.size row) (i : Int) (LL t.size (fun q => decide (q < j) && gRow t.data.toList row c q)) (anyTo row j) (p.size : Int) (i : Int) ((LL t.size row).length : Int) (j : Int)) r := by
  subst h42
  have h42' : bt p (i : Int) = 42 := hc
  intro d
  induction d with
  | zero =>
    intro j hd hj
    refine Ev.step (fun k => by rw [impl_GlobFits.l1, if_neg (by rw [LL_length]; omega), wrap64_id (x := (i : Int) + 1) (by omega) (by omega)]) ?_
    rw [LL_all _ _ _ (by omega)]
    exact cont
  | succ d ih =>
    intro j hd hj
    have hjn : j ≤ t.size := by omega
    have next := ih (j + 1) (by omega) (by omega)
    have hw : wrap64 ((j : Int) + 1) = ((j + 1 : Nat) : Int) := by rw [wrap64_id (by omega) (by omega)]; rfl
    have hst := LL_step t.size (gRow t.data.toList row 42) j hjn
    rw [gRow_star] at hst
    by_cases ha : anyTo row j = true
    · have e : anyTo row (j + 1) = true := by simp [anyTo, ha]
      rw [e] at next hst
      exact Ev.step (fun k => by rw [impl_GlobFits.l1, if_pos (by rw [LL_length]; omega), if_pos (by omega), if_pos (by omega), if_pos h42', if_pos ha, if_pos (by omega), if_pos (by rw [LL_length]; omega), hw, Int.toNat_natCast, hst]) next
    · have e : anyTo row (j + 1) = row j := by simp [anyTo, ha]
      rw [e] at next hst
      exact Ev.step (fun k => by rw [impl_GlobFits.l1, if_pos (by rw [LL_length]; omega), if_pos (by omega), if_pos (by omega), if_pos h42', if_neg ha, if_pos (by omega), if_pos (by rw [LL_length]; omega), if_pos (by rw [LL_length]; omega), hw, Int.toNat_natCast, LL_get _ _ _ hjn, hst]) next
theorem impl_glob_plain (ht : t.size ≤ 140737488351232) (hi : i < p.size) (hc : bt p (i : Int) = (c.toNat : Int)) (h42 : c ≠ 42) (r : Bool)
    (cont : Ev (fun k => impl_GlobFits.l0 k p t (LL t.size (gRow t.data.toList row c)) (p.size : Int) ((i : Int) + 1)) r) (hi64 : p.size ≤ 140737488351232) :
    ∀ (d j : Nat), t.size + 1 - j = d → j ≤ t.size + 1 → Ev (fun k => impl_GlobFits.l1 k p t (LL t.size row) (i : Int) (LL t.size (fun q => decide (q < j) && gRow t.data.toList row c q)) false (p.size : Int) (i : Int) ((LL t.size row).length : Int) (j : Int)) r := by
  have h42' : ¬ bt p (i : Int) = 42 := by rw [hc]; exact fun h => h42 ((byte_eq_lit c 42 (by omega)).1 h)
  intro d
  induction d with
  | zero =>
    intro j hd hj
    refine Ev.step (fun k => by rw [impl_GlobFits.l1, if_neg (by rw [LL_length]; omega), wrap64_id (x := (i : Int) + 1) (by omega) (by omega)]) ?_
    rw [LL_all _ _ _ (by omega)]
    exact cont
  | succ d ih =>
    intro j hd hj
    have hjn : j ≤ t.size := by omega
    have next := ih (j + 1) (by omega) (by omega)
    have hw : wrap64 ((j : Int) + 1) = ((j + 1 : Nat) : Int) := by rw [wrap64_id (by omega) (by omega)]; rfl
    have hst := LL_step t.size (gRow t.data.toList row c) j hjn
    cases j with
    | zero =>
      rw [LL_skip _ _ _ (gRow_zero _ _ _ h42)]
      exact Ev.step (fun k => by rw [impl_GlobFits.l1, if_pos (by rw [LL_length]; omega), if_pos (by omega), if_pos (by omega), if_neg h42', if_neg (by omega), hw]) next
    | succ q =>
      have hq : wrap64 (((q + 1 : Nat) : Int) - 1) = (q : Int) := by rw [wrap64_id (by omega) (by omega)]; omega
      obtain ⟨e, he, hbe⟩ := bt_get t q (by omega)
      have hg := gRow_succ t.data.toList row c h42 q
      rw [he] at hg
      by_cases hr : row q = true
      · by_cases h63 : c = 63
        · have h63' : bt p (i : Int) = 63 := by rw [hc, h63]; rfl
          rw [show gRow t.data.toList row c (q + 1) = true by rw [hg, hr, h63]; rfl] at hst
          exact Ev.step (fun k => by rw [impl_GlobFits.l1, if_pos (by rw [LL_length]; omega), if_pos (by omega), if_pos (by omega), if_neg h42', if_pos (by omega), hq, if_pos (by omega), if_pos (by rw [LL_length]; omega), LL_get _ _ _ (by omega), if_pos hr, if_pos h63', if_pos (by omega), if_pos (by rw [LL_length]; omega), Int.toNat_natCast, hst, hw]) next
        · have h63' : ¬ bt p (i : Int) = 63 := by rw [hc]; exact fun h => h63 ((byte_eq_lit c 63 (by omega)).1 h)
          have hce : (bt p (i : Int) == bt t (q : Int)) = gRow t.data.toList row c (q + 1) := by
            rw [hg, hr, hc, hbe]
            by_cases hce : c = e
            · subst hce; simp
            · have a0 : ¬ (c.toNat : Int) = (e.toNat : Int) := fun h => hce ((byte_eq_int c e).1 h)
              have a1 : ((c.toNat : Int) == (e.toNat : Int)) = false := beq_eq_false_iff_ne.2 a0
              have a2 : (c == 63) = false := beq_eq_false_iff_ne.2 h63
              have a3 : (some e == some c) = false := beq_eq_false_iff_ne.2 (fun h => hce (Option.some.inj h).symm)
              rw [a1, a2, a3]; rfl
          exact Ev.step (fun k => by rw [impl_GlobFits.l1, if_pos (by rw [LL_length]; omega), if_pos (by omega), if_pos (by omega), if_neg h42', if_pos (by omega), hq, if_pos (by omega), if_pos (by rw [LL_length]; omega), LL_get _ _ _ (by omega), if_pos hr, if_neg h63', if_pos (by omega), if_pos (by omega), if_pos (by rw [LL_length]; omega), hce, Int.toNat_natCast, hst, hw]) next
      · rw [show gRow t.data.toList row c (q + 1) = false by rw [hg]; simp [hr]] at hst
        exact Ev.step (fun k => by rw [impl_GlobFits.l1, if_pos (by rw [LL_length]; omega), if_pos (by omega), if_pos (by omega), if_neg h42', if_pos (by omega), hq, if_pos (by omega), if_pos (by rw [LL_length]; omega), LL_get _ _ _ (by omega), if_neg hr, if_pos (by omega), if_pos (by rw [LL_length]; omega), Int.toNat_natCast, hst, hw]) next
end
theorem impl_glob_l0 (p t : ByteArray) (hp : p.size ≤ 140737488351232) (ht : t.size ≤ 140737488351232) : ∀ (d i : Nat) (row : Nat → Bool), p.size - i = d → i ≤ p.size →
    Ev (fun k => impl_GlobFits.l0 k p t (LL t.size row) (p.size : Int) (i : Int)) ((p.data.toList.drop i).foldl (gRow t.data.toList) row t.size) := by
  intro d
  induction d with
  | zero =>
    intro i row hd hi
    rw [drop_end p i (by omega)]
    refine Ev.step (fun k => by rw [impl_GlobFits.l0, if_neg (by omega), if_pos (by omega), if_pos (by rw [LL_length]; omega), LL_get _ _ _ (by omega)]) (Ev.give ?_)
    rfl
  | succ d ih =>
    intro i row hd hi
    obtain ⟨c, e, hb⟩ := bt_drop p i (by omega)
    rw [e]
    have hsz : wrap64 ((t.size : Int) + 1) = ((t.size + 1 : Nat) : Int) := by rw [wrap64_id (by omega) (by omega)]; rfl
    have cont := ih (i + 1) (gRow t.data.toList row c) (by omega) (by omega)
    refine Ev.step (fun k => by rw [impl_GlobFits.l0, if_pos (by omega), hsz, if_pos (by omega), if_pos (by omega), Int.toNat_natCast]) ?_
    by_cases h42 : c = 42
    · have := impl_glob_star p t row c i ht (by omega) hb h42 _ cont hp _ 0 rfl (by omega)
      rw [LL_none] at this
      exact this
    · have := impl_glob_plain p t row c i ht (by omega) hb h42 _ cont hp _ 0 rfl (by omega)
      rw [LL_none] at this
      exact this
theorem impl_globFits (p t : ByteArray) (hp : p.size ≤ 140737488351232) (ht : t.size ≤ 140737488351232) : Ev (fun k => impl_GlobFits.f k p t) (globOf p t) := by
  unfold globOf
  by_cases h0 : (p.size : Int) > 200
  · rw [if_pos h0]
    refine Ev.congr (fun k => by rw [impl_GlobFits.f, if_pos h0]) ?_
    exact Ev.step (fun k => by rw [impl_GlobFits.j0, if_pos rfl]) (Ev.now _)
  · rw [if_neg h0]
    refine Ev.congr (fun k => by rw [impl_GlobFits.f, if_neg h0]) ?_
    by_cases h1 : (t.size : Int) > 2000
    · rw [if_pos h1]
      exact Ev.step (fun k => by rw [impl_GlobFits.j0, if_pos (by simpa using h1)]) (Ev.now _)
    · rw [if_neg h1]
      have hsz : wrap64 ((t.size : Int) + 1) = ((t.size + 1 : Nat) : Int) := by rw [wrap64_id (by omega) (by omega)]; rfl
      refine Ev.step (fun k => by rw [impl_GlobFits.j0, if_neg (by simpa using h1), hsz, if_pos (by omega), if_pos (by omega), Int.toNat_natCast, Option.bind_some, if_pos (by simp)]) ?_
      have := impl_glob_l0 p t hp ht p.size 0 gStart (by omega) (by omega)
      rw [← LL_start] at this
      unfold globL
      rw [show t.data.toList.length = t.size by simp]
      exact this

theorem FnExactGlobFits : laws_FnExactGlobFits.Pure := by
  intro p t hp ht
  refine Ev.rounds (Ev.congr (fun k => by rw [laws_FnExactGlobFits.f]) ?_)
  by_cases h0 : (p.size : Int) > 1048576
  · exact Ev.pos h0 (Ev.now _)
  · refine Ev.neg h0 ?_
    by_cases h1 : (t.size : Int) > 1048576
    · exact Ev.pos h1 (Ev.now _)
    · refine Ev.neg h1 ?_
      refine Ev.bind (spec_globFits p t hp ht) (Ev.bind (impl_globFits p t hp ht) ?_)
      exact Ev.congr (fun k => by simp) (Ev.now true)

end Go.Proofs.Ytjlbhjacjjkccaa.Pure
