/- The statement FnExactMergeRuns over numbers and lists alone: the program's MergeRuns (a heap of lists) and the reference's (a stable sort) answer the same run, the arguments unchanged, and what is made is of its own memory. No condition. -/
import Derived.Test.YtjjccaepbfijeaaQFnExactMergeRunsx13
import Derived.Laws.BitsAllLaws
import Derived.Laws.Bits64
import Derived.Test.YtjjccaepbfijeaaGoodFnExactMergeRuns
import Derived.Sort.Walk0
set_option linter.all false
namespace Go.Proofs.Ytjjccaepbfijeaa.Pure
open Go.RowKit Go.Proofs.Ytjjccaepbfijeaa.QFnExactMergeRuns Go.Proofs.YtjjccaepbfijeaaW.PrintWords Go.Proofs.YtjjccaepbfijeaaW.PrintLast Go.Proofs.YtjjccaepbfijeaaW.PrintMore
/-! Small lemmas on wraps, rounds and lists. -/
theorem wrap64_id {x : Int} (h0 : -9223372036854775808 ≤ x) (h1 : x < 9223372036854775808) : wrap64 x = x := by unfold wrap64; omega
theorem Ev.pos {α : Type} {c : Prop} [Decidable c] {f g : Nat → Option α} {r : α} (h : c) (e : Ev f r) : Ev (fun k => if c then f k else g k) r := by simpa [h] using e
theorem Ev.neg {α : Type} {c : Prop} [Decidable c] {f g : Nat → Option α} {r : α} (h : ¬ c) (e : Ev g r) : Ev (fun k => if c then f k else g k) r := by simpa [h] using e
theorem Ev.bindS {α β : Type} {g : Option α} {f : Nat → α → Option β} {a : α} {r : β} (h : g = some a) (e : Ev (fun k => f k a) r) : Ev (fun k => g.bind (f k)) r := by subst h; simpa using e
theorem Ev.give {α : Type} {r s : α} (h : s = r) : Ev (fun _ => some s) r := by subst h; exact Ev.now _
theorem size_strOfNums (l : List Int) : (strOfNums l).size = l.length := by
  show (strOfNums l).data.size = l.length
  simp [strOfNums]
theorem set_prefix {α β : Type} (f : α → β) (z : β) (l : List α) (i : Nat) (h : i < l.length) (x : α) (hx : l[i]? = some x) :
    ((l.take i).map f ++ List.replicate (l.length - i) z).set i (f x) = (l.take (i + 1)).map f ++ List.replicate (l.length - (i + 1)) z := by
  have h1 : ((l.take i).map f).length = i := by simp; omega
  rw [List.set_append_right _ _ (by omega), h1, Nat.sub_self]
  have h2 : List.replicate (l.length - i) z = z :: List.replicate (l.length - (i + 1)) z := by
    rw [show l.length - i = (l.length - (i + 1)) + 1 by omega]; rfl
  rw [h2, List.set_cons_zero, List.take_add_one, hx, List.map_append]
  simp
/-! A law's copies of a list of RunEntry: sizes, copies, comparisons. -/
def runEntryOf (x : S66) : S43 := ⟨x.f0, x.f1, x.f2, x.f3⟩
theorem rdl_RunEntry (l : List S66) (i : Nat) (h : i < l.length) : rd_T66 l (i : Int) = l[i] := by
  unfold rd_T66; rw [Int.toNat_natCast, List.getD_eq_getElem?_getD, List.getElem?_eq_getElem h]; rfl
theorem rdi_RunEntry (l : List S43) (i : Nat) (h : i < l.length) : rd_T43 l (i : Int) = l[i] := by
  unfold rd_T43; rw [Int.toNat_natCast, List.getD_eq_getElem?_getD, List.getElem?_eq_getElem h]; rfl
theorem sz_RunEntry (x : S66) (left : Int) (h0 : 0 ≤ left) (h1 : left ≤ 1048576) (g0 : x.f0.size ≤ 9223372036854775807) (g3 : x.f3.size ≤ 9223372036854775807) : ∃ r, laws_szRunEntry.f x.f0 x.f1 x.f2 x.f3 left = some r ∧ (0 ≤ r → r ≤ left ∧ x.f0.size ≤ 1048576 ∧ x.f3.size ≤ 1048576) := by
  unfold laws_szRunEntry.f
  rw [(wrap64_id (x := left - (x.f0.size : Int)) (by omega) (by omega))]
  by_cases c0 : left - (x.f0.size : Int) < 0
  · rw [if_pos c0]; exact ⟨_, rfl, fun h => by omega⟩
  · rw [if_neg c0]
    rw [(wrap64_id (x := (left - (x.f0.size : Int)) - (x.f3.size : Int)) (by omega) (by omega))]
    by_cases c1 : (left - (x.f0.size : Int)) - (x.f3.size : Int) < 0
    · rw [if_pos c1]; exact ⟨_, rfl, fun h => by omega⟩
    · rw [if_neg c1]
      exact ⟨_, rfl, fun h => by omega⟩
theorem toRunEntryS_l0 (l : List S66) (hl : l.length ≤ 1048576) : ∀ (d i : Nat), l.length - i = d → i ≤ l.length →
    Ev (fun k => laws_toRunEntryS.l0 k l ((l.take i).map runEntryOf ++ List.replicate (l.length - i) z43) (i : Int)) (l.map runEntryOf) := by
  intro d
  induction d with
  | zero =>
    intro i hd hi
    have : i = l.length := by omega
    subst this
    refine Ev.step (fun k => by rw [laws_toRunEntryS.l0, if_neg (by omega)]) (Ev.give ?_)
    simp
  | succ d ih =>
    intro i hd hi
    have hlt : i < l.length := by omega
    have hx : l[i]? = some l[i] := List.getElem?_eq_getElem hlt
    have hr := rdl_RunEntry l i hlt
    have hw : wrap64 ((i : Int) + 1) = ((i + 1 : Nat) : Int) := by rw [wrap64_id (by omega) (by omega)]; rfl
    have hs := set_prefix runEntryOf z43 l i hlt l[i] hx
    refine Ev.step (fun k => by rw [laws_toRunEntryS.l0, if_pos (by omega), if_pos (by omega), hr, show laws_toRunEntry.f l[i].f0 l[i].f1 l[i].f2 l[i].f3 = some (l[i].f0, l[i].f1, l[i].f2, l[i].f3) from rfl, Option.bind_some, if_pos (by simp; omega), Int.toNat_natCast, hw, show (⟨(l[i].f0, l[i].f1, l[i].f2, l[i].f3).1, (l[i].f0, l[i].f1, l[i].f2, l[i].f3).2.1, (l[i].f0, l[i].f1, l[i].f2, l[i].f3).2.2.1, (l[i].f0, l[i].f1, l[i].f2, l[i].f3).2.2.2⟩ : S43) = runEntryOf l[i] from rfl, hs]) ?_
    exact ih (i + 1) (by omega) (by omega)
theorem toRunEntryS (l : List S66) (hl : l.length ≤ 1048576) : Ev (fun k => laws_toRunEntryS.f k l) (l.map runEntryOf) := by
  refine Ev.congr (fun k => by rw [laws_toRunEntryS.f, if_pos (by omega), if_pos (by omega), Int.toNat_natCast]) ?_
  have := toRunEntryS_l0 l hl l.length 0 rfl (by omega)
  simpa using this
theorem eqRunEntry_self (a0 : ByteArray) (a1 : Int) (a2 : Bool) (a3 : ByteArray) : laws_eqRunEntry.f a0 a1 a2 a3 a0 a1 a2 a3 = some true := by unfold laws_eqRunEntry.f; simp
theorem eqRunEntryS_l0 (l : List S43) (hl : l.length ≤ 1048576) : ∀ (d i : Nat), l.length - i = d → i ≤ l.length → Ev (fun k => laws_eqRunEntryS.l0 k l l (i : Int)) true := by
  intro d
  induction d with
  | zero =>
    intro i hd hi
    exact Ev.step (fun k => by rw [laws_eqRunEntryS.l0, if_neg (by omega)]) (Ev.now _)
  | succ d ih =>
    intro i hd hi
    have hw : wrap64 ((i : Int) + 1) = ((i + 1 : Nat) : Int) := by rw [wrap64_id (by omega) (by omega)]; rfl
    refine Ev.step (fun k => by rw [laws_eqRunEntryS.l0, if_pos (by omega), if_pos (by omega), if_pos (by omega), eqRunEntry_self, Option.bind_some, if_pos rfl, hw]) ?_
    exact ih (i + 1) (by omega) (by omega)
theorem eqRunEntryS (l : List S43) (hl : l.length ≤ 1048576) : Ev (fun k => laws_eqRunEntryS.f k l l) true := by
  refine Ev.congr (fun k => by rw [laws_eqRunEntryS.f, if_pos rfl]) ?_
  exact eqRunEntryS_l0 l hl l.length 0 rfl (by omega)
theorem szRunEntryS_l0 (l : List S66) (hl : l.length ≤ 1048576) (hg : ∀ x ∈ l, x.f0.size ≤ 9223372036854775807 ∧ x.f3.size ≤ 9223372036854775807) : ∀ (d i : Nat) (left : Int), 0 ≤ left → left ≤ 1048576 → l.length - i = d → i ≤ l.length →
    ∃ r, Ev (fun k => laws_szRunEntryS.l0 k l left (i : Int)) r ∧ (0 ≤ r → r ≤ left ∧ ∀ x ∈ l.drop i, x.f0.size ≤ 1048576 ∧ x.f3.size ≤ 1048576) := by
  intro d
  induction d with
  | zero =>
    intro i left h0 h1 hd hi
    exact ⟨left, Ev.step (fun k => by rw [laws_szRunEntryS.l0, if_neg (by omega)]) (Ev.now _), fun _ => ⟨by omega, by rw [List.drop_eq_nil_of_le (by omega)]; simp⟩⟩
  | succ d ih =>
    intro i left h0 h1 hd hi
    have hlt : i < l.length := by omega
    have hr := rdl_RunEntry l i hlt
    have hw : wrap64 ((i : Int) + 1) = ((i + 1 : Nat) : Int) := by rw [wrap64_id (by omega) (by omega)]; rfl
    have g := hg l[i] (List.getElem_mem hlt)
    obtain ⟨r1, e1, b1⟩ := sz_RunEntry l[i] left h0 h1 g.1 g.2
    by_cases hn : r1 < 0
    · refine ⟨-1, Ev.step (fun k => by rw [laws_szRunEntryS.l0, if_pos (by omega), if_pos (by omega), hr, e1, Option.bind_some, if_pos hn]) (Ev.now _), fun h => by omega⟩
    · obtain ⟨r2, e2, b2⟩ := ih (i + 1) r1 (by omega) (by have := b1 (by omega); omega) (by omega) (by omega)
      refine ⟨r2, Ev.step (fun k => by rw [laws_szRunEntryS.l0, if_pos (by omega), if_pos (by omega), hr, e1, Option.bind_some, if_neg hn, hw]) e2, fun h => ?_⟩
      have q1 := b1 (by omega)
      have q2 := b2 h
      refine ⟨by omega, fun x hx => ?_⟩
      rw [List.drop_eq_getElem_cons hlt, List.mem_cons] at hx
      rcases hx with rfl | hx
      · exact q1.2
      · exact q2.2 x hx
theorem szRunEntryS (l : List S66) (left : Int) (hl : l.length ≤ 9223372036854775807) (hg : ∀ x ∈ l, x.f0.size ≤ 9223372036854775807 ∧ x.f3.size ≤ 9223372036854775807) (h0 : 0 ≤ left) (h1 : left ≤ 1048576) :
    ∃ r, Ev (fun k => laws_szRunEntryS.f k l left) r ∧ (0 ≤ r → r ≤ left ∧ l.length ≤ 1048576 ∧ ∀ x ∈ l, x.f0.size ≤ 1048576 ∧ x.f3.size ≤ 1048576) := by
  have hw : wrap64 (left - (l.length : Int)) = left - (l.length : Int) := wrap64_id (by omega) (by omega)
  by_cases hn : left - (l.length : Int) < 0
  · exact ⟨-1, Ev.congr (fun k => by rw [laws_szRunEntryS.f, hw, if_pos hn]) (Ev.now _), fun h => by omega⟩
  · obtain ⟨r, e, b⟩ := szRunEntryS_l0 l (by omega) hg l.length 0 (left - (l.length : Int)) (by omega) (by omega) rfl (by omega)
    refine ⟨r, Ev.congr (fun k => by rw [laws_szRunEntryS.f, hw, if_neg hn]; rfl) e, fun h => ?_⟩
    have q := b h
    exact ⟨by omega, by omega, by simpa using q.2⟩
/-! What is right about a run. -/
theorem inInts_l0 (l : List Int) (hl : l.length ≤ 1048576) (a : Int) : ∀ (d i : Nat), l.length - i = d → i ≤ l.length → Ev (fun k => spec_l01InInts.l0 k l a (i : Int)) (decide (a ∈ l.drop i)) := by
  intro d
  induction d with
  | zero =>
    intro i hd hi
    rw [List.drop_eq_nil_of_le (by omega)]
    refine Ev.step (fun k => by rw [spec_l01InInts.l0, if_neg (by omega)]) (Ev.give ?_)
    simp
  | succ d ih =>
    intro i hd hi
    have hlt : i < l.length := by omega
    have hw : wrap64 ((i : Int) + 1) = ((i + 1 : Nat) : Int) := by rw [wrap64_id (by omega) (by omega)]; rfl
    have hn := ih (i + 1) (by omega) (by omega)
    have hr : rd l (i : Int) = l[i] := by unfold rd; rw [Int.toNat_natCast, List.getD_eq_getElem?_getD, List.getElem?_eq_getElem hlt]; rfl
    rw [List.drop_eq_getElem_cons hlt]
    refine Ev.step (fun k => by rw [spec_l01InInts.l0, if_pos (by omega), if_pos (by omega), hr, hw]) ?_
    by_cases e : l[i] = a
    · refine Ev.pos e (Ev.give ?_)
      rw [e]; simp
    · refine Ev.neg e ?_
      have h2 : decide (a ∈ l[i] :: l.drop (i + 1)) = decide (a ∈ l.drop (i + 1)) := by
        apply decide_eq_decide.2
        rw [List.mem_cons]
        exact ⟨fun h => h.resolve_left (fun h3 => e h3.symm), Or.inr⟩
      rw [h2]
      exact hn
theorem inInts (l : List Int) (hl : l.length ≤ 1048576) (a : Int) : Ev (fun k => spec_l01InInts.f k l a) (decide (a ∈ l)) := by
  have := inInts_l0 l hl a l.length 0 (by omega) (by omega)
  rw [List.drop_zero] at this
  exact Ev.congr (fun k => by rw [spec_l01InInts.f]; rfl) this
/-- Is an entry before another one? -/
def lessE (x y : S43) : Bool := Op.bytesLess x.f0.toList y.f0.toList || (decide (x.f0.toList = y.f0.toList) && decide (x.f1 > y.f1))
theorem spec_less (x y : S43) : spec_l08Less.f x.f0 x.f1 x.f2 x.f3 y.f0 y.f1 y.f2 y.f3 = some (lessE x y) := by
  unfold spec_l08Less.f lessE
  by_cases h1 : Op.bytesLess x.f0.toList y.f0.toList = true
  · rw [if_pos h1, h1, Bool.true_or]
  · rw [if_neg h1]
    rw [Bool.not_eq_true] at h1
    rw [h1, Bool.false_or]
    by_cases h2 : x.f0.toList = y.f0.toList
    · rw [if_pos h2, decide_eq_true h2, Bool.true_and]
    · rw [if_neg h2, decide_eq_false h2, Bool.false_and]
theorem less_tri : ∀ a b : List UInt8, (!(Op.bytesLess a b || a == b)) = Op.bytesLess b a
  | [], [] => rfl
  | [], _ :: _ => rfl
  | _ :: _, [] => rfl
  | x :: a, y :: b => by
    have ih := less_tri a b
    by_cases h1 : x < y
    · have h2 : ¬ y < x := UInt8.lt_asymm h1
      have h3 : y ≠ x := fun e => by subst e; exact h2 h1
      simp [Op.bytesLess, h1, h2, h3]
    · by_cases h2 : y < x
      · have h3 : x ≠ y := fun e => by subst e; exact h1 h2
        simp [Op.bytesLess, h1, h2, h3]
      · have h3 : x = y := UInt8.le_antisymm (UInt8.not_lt.1 h2) (UInt8.not_lt.1 h1)
        subst h3
        simpa [Op.bytesLess, h1] using ih
theorem less_irrefl (a : List UInt8) : Op.bytesLess a a = false := by
  have := less_tri a a
  simp at this
  exact this
theorem impl_order (x y : S43) : ∃ c, impl_entryOrder.f x.f0 x.f1 x.f2 x.f3 y.f0 y.f1 y.f2 y.f3 = some c ∧ decide (c ≥ 0) = !(lessE x y) := by
  have n0 : ∀ s : ByteArray, cmp_isNaN_string.f s = some false := fun s => by unfold cmp_isNaN_string.f; simp
  have n1 : ∀ s : Int, cmp_isNaN_int64.f s = some false := fun s => by unfold cmp_isNaN_int64.f; simp
  unfold impl_entryOrder.f cmp_Compare_string.f lessE
  rw [n0, n0, Option.bind_some, Option.bind_some, if_neg (by decide), if_neg (by decide)]
  by_cases h1 : Op.bytesLess x.f0.toList y.f0.toList = true
  · rw [if_pos h1, Option.bind_some, if_neg (by decide)]
    refine ⟨_, rfl, ?_⟩
    rw [h1]; simp
  · rw [if_neg h1]
    rw [Bool.not_eq_true] at h1
    have ht := less_tri x.f0.toList y.f0.toList
    rw [h1, Bool.false_or] at ht
    rw [h1, Bool.false_or]
    by_cases h2 : x.f0.toList = y.f0.toList
    · have h3 : Op.bytesLess y.f0.toList x.f0.toList = false := by rw [← h2]; exact less_irrefl _
      rw [h3, if_neg (by decide), Option.bind_some, if_pos rfl, decide_eq_true h2, Bool.true_and]
      unfold cmp_Compare_int64.f
      rw [n1, n1, Option.bind_some, Option.bind_some, if_neg (by decide), if_neg (by decide)]
      by_cases h4 : y.f1 < x.f1
      · rw [if_pos h4, Option.bind_some]
        refine ⟨_, rfl, ?_⟩
        rw [decide_eq_true h4]; decide
      · rw [if_neg h4]
        by_cases h5 : y.f1 > x.f1
        · rw [if_pos h5, Option.bind_some]
          refine ⟨_, rfl, ?_⟩
          rw [decide_eq_false h4]; decide
        · rw [if_neg h5, Option.bind_some]
          refine ⟨_, rfl, ?_⟩
          rw [decide_eq_false h4]; decide
    · have h3 : Op.bytesLess y.f0.toList x.f0.toList = true := by rw [← ht]; simp [h2]
      rw [if_pos h3, Option.bind_some, if_neg (by decide)]
      refine ⟨_, rfl, ?_⟩
      rw [decide_eq_false h2]; simp
def headBad (x : S43) : Bool := decide ((x.f0.size : Int) < 1 ∨ (x.f0.size : Int) > 200 ∨ x.f1 < 1 ∨ (x.f2 = true ∧ ¬ x.f3.toList = ([] : List UInt8)) ∨ (x.f3.size : Int) > 100000)
def enAt (l : List S43) (i : Nat) : S43 := rd_T43 l (i : Int)
def seenTo (l : List S43) (i : Nat) : List Int := (List.range i).map fun j => (enAt l j).f1
theorem seenTo_succ (l : List S43) (i : Nat) : seenTo l (i + 1) = seenTo l i ++ [(enAt l i).f1] := by unfold seenTo; rw [List.range_succ, List.map_append]; rfl
theorem seenTo_length (l : List S43) (i : Nat) : (seenTo l i).length = i := by simp [seenTo]
def prevBad (l : List S43) (i : Nat) : Bool := decide (0 < i) && !(lessE (enAt l (i - 1)) (enAt l i))
def badAt (l : List S43) (i : Nat) : Bool := headBad (enAt l i) || prevBad l i || decide ((enAt l i).f1 ∈ seenTo l i)
def runFrom (l : List S43) : Nat → Nat → Int
  | 0, _ => 0
  | d + 1, i => if badAt l i = true then 1 else runFrom l d (i + 1)
theorem badAt_head {l : List S43} {i : Nat} (h : headBad (enAt l i) = true) : badAt l i = true := by unfold badAt; rw [h]; rfl
theorem badAt_of {l : List S43} {i : Nat} (h : headBad (enAt l i) = false) : badAt l i = (prevBad l i || decide ((enAt l i).f1 ∈ seenTo l i)) := by unfold badAt; rw [h, Bool.false_or]
/-- The reference's round behind the plain tests. -/
theorem spec_run_tail (l : List S43) (hl : l.length ≤ 1000) (d i : Nat) (hd : l.length - i = d + 1) (ih : Ev (fun k => spec_RunFault.l0 k (seenTo l (i + 1)) ((i + 1 : Nat) : Int) l) (runFrom l d (i + 1))) (b : Bool) :
    Ev (fun k => spec_RunFault.j1 k (seenTo l i) (i : Int) b l (enAt l i).f0 (enAt l i).f1 (enAt l i).f2 (enAt l i).f3) (if b = true then 1 else runFrom l d (i + 1)) := by
  have hw : wrap64 ((i : Int) + 1) = ((i + 1 : Nat) : Int) := by rw [wrap64_id (by omega) (by omega)]; rfl
  cases b with
  | true => rw [if_pos rfl]; exact Ev.step (fun k => by rw [spec_RunFault.j1, if_pos rfl]) (Ev.now _)
  | false =>
    refine Ev.step (fun k => by rw [spec_RunFault.j1, if_neg (by decide), if_pos (by rw [seenTo_length]; omega), hw, ← seenTo_succ]) ?_
    rw [if_neg (by decide)]
    exact ih
theorem spec_run_last (l : List S43) (hl : l.length ≤ 1000) (d i : Nat) (hd : l.length - i = d + 1) (ih : Ev (fun k => spec_RunFault.l0 k (seenTo l (i + 1)) ((i + 1 : Nat) : Int) l) (runFrom l d (i + 1))) (hh : headBad (enAt l i) = false) :
    Ev (fun k => if (i : Int) > 0 then (if 0 ≤ (wrap64 ((i : Int) - 1)) then (if (wrap64 ((i : Int) - 1)) < (l.length : Int) then ((spec_l08Less.f ((rd_T43 l (wrap64 ((i : Int) - 1))).f0) ((rd_T43 l (wrap64 ((i : Int) - 1))).f1) ((rd_T43 l (wrap64 ((i : Int) - 1))).f2) ((rd_T43 l (wrap64 ((i : Int) - 1))).f3) ((rd_T43 l (i : Int)).f0) ((rd_T43 l (i : Int)).f1) ((rd_T43 l (i : Int)).f2) ((rd_T43 l (i : Int)).f3)).bind fun t116 => (if t116 = true then ((spec_l01InInts.f k (seenTo l i) ((rd_T43 l (i : Int)).f1)).bind fun t117 => (spec_RunFault.j1 k (seenTo l i) (i : Int) t117 l ((rd_T43 l (i : Int)).f0) ((rd_T43 l (i : Int)).f1) ((rd_T43 l (i : Int)).f2) ((rd_T43 l (i : Int)).f3))) else (spec_RunFault.j1 k (seenTo l i) (i : Int) true l ((rd_T43 l (i : Int)).f0) ((rd_T43 l (i : Int)).f1) ((rd_T43 l (i : Int)).f2) ((rd_T43 l (i : Int)).f3)))) else (none)) else (none)) else ((spec_l01InInts.f k (seenTo l i) ((rd_T43 l (i : Int)).f1)).bind fun t118 => (spec_RunFault.j1 k (seenTo l i) (i : Int) t118 l ((rd_T43 l (i : Int)).f0) ((rd_T43 l (i : Int)).f1) ((rd_T43 l (i : Int)).f2) ((rd_T43 l (i : Int)).f3)))) (if badAt l i = true then 1 else runFrom l d (i + 1)) := by
  have hs : (seenTo l i).length ≤ 1048576 := by rw [seenTo_length]; omega
  have hin := inInts (seenTo l i) hs (enAt l i).f1
  rw [badAt_of hh]
  unfold prevBad
  by_cases h0 : 0 < i
  · have hw1 : wrap64 ((i : Int) - 1) = ((i - 1 : Nat) : Int) := by rw [wrap64_id (by omega) (by omega)]; omega
    rw [hw1, decide_eq_true h0, Bool.true_and]
    refine Ev.pos (by omega) (Ev.pos (by omega) (Ev.pos (by omega) (Ev.bindS (spec_less (enAt l (i - 1)) (enAt l i)) ?_)))
    cases hle : lessE (enAt l (i - 1)) (enAt l i) with
    | true =>
      refine Ev.pos rfl (Ev.bind hin ?_)
      exact spec_run_tail l hl d i hd ih _
    | false =>
      refine Ev.neg (by decide) ?_
      exact spec_run_tail l hl d i hd ih true
  · rw [decide_eq_false h0, Bool.false_and, Bool.false_or]
    refine Ev.neg (by omega) (Ev.bind hin ?_)
    exact spec_run_tail l hl d i hd ih _
theorem spec_run_l0 (l : List S43) (hl : l.length ≤ 1000) : ∀ (d i : Nat), l.length - i = d → i ≤ l.length → Ev (fun k => spec_RunFault.l0 k (seenTo l i) (i : Int) l) (runFrom l d i) := by
  intro d
  induction d with
  | zero =>
    intro i hd hi
    exact Ev.step (fun k => by rw [spec_RunFault.l0, if_neg (by omega)]; rfl) (Ev.now _)
  | succ d ih =>
    intro i hd hi
    have hn := ih (i + 1) (by omega) (by omega)
    have out := spec_run_tail l hl d i hd hn true
    rw [if_pos rfl] at out
    refine Ev.step (fun k => by rw [spec_RunFault.l0, if_pos (by omega), if_pos (by omega)]) ?_
    unfold runFrom
    have bad : ∀ h : headBad (enAt l i) = true, Ev (fun k => spec_RunFault.j1 k (seenTo l i) (i : Int) true l (enAt l i).f0 (enAt l i).f1 (enAt l i).f2 (enAt l i).f3) (if badAt l i = true then 1 else runFrom l d (i + 1)) := fun h => by rw [if_pos (badAt_head h)]; exact out
    by_cases h1 : (((enAt l i).f0).size : Int) < 1
    · exact Ev.pos h1 (bad (decide_eq_true (Or.inl h1)))
    · refine Ev.neg h1 ?_
      by_cases h2 : (((enAt l i).f0).size : Int) > 200
      · exact Ev.pos h2 (bad (decide_eq_true (Or.inr (Or.inl h2))))
      · refine Ev.neg h2 ?_
        by_cases h3 : (enAt l i).f1 < 1
        · exact Ev.pos h3 (bad (decide_eq_true (Or.inr (Or.inr (Or.inl h3)))))
        · refine Ev.neg h3 ?_
          by_cases h4 : (enAt l i).f2 = true
          · refine Ev.pos h4 ?_
            by_cases h5 : ((enAt l i).f3).toList = ([] : List UInt8)
            · refine Ev.pos h5 ?_
              by_cases h6 : (((enAt l i).f3).size : Int) > 100000
              · exact Ev.pos h6 (bad (decide_eq_true (Or.inr (Or.inr (Or.inr (Or.inr h6))))))
              · exact Ev.neg h6 (spec_run_last l hl d i hd hn (decide_eq_false (fun h => by rcases h with h | h | h | h | h; exact h1 h; exact h2 h; exact h3 h; exact h.2 h5; exact h6 h)))
            · exact Ev.neg h5 (bad (decide_eq_true (Or.inr (Or.inr (Or.inr (Or.inl ⟨h4, h5⟩))))))
          · refine Ev.neg h4 ?_
            by_cases h6 : (((enAt l i).f3).size : Int) > 100000
            · exact Ev.pos h6 (bad (decide_eq_true (Or.inr (Or.inr (Or.inr (Or.inr h6))))))
            · exact Ev.neg h6 (spec_run_last l hl d i hd hn (decide_eq_false (fun h => by rcases h with h | h | h | h | h; exact h1 h; exact h2 h; exact h3 h; exact h4 h.1; exact h6 h)))
def runFault (l : List S43) : Int := if (l.length : Int) > 1000 then 1 else runFrom l l.length 0
theorem spec_runFault (l : List S43) : Ev (fun k => spec_RunFault.f k l) (runFault l) := by
  unfold runFault
  refine Ev.congr (fun k => by rw [spec_RunFault.f]) ?_
  by_cases h : (l.length : Int) > 1000
  · rw [if_pos h]; exact Ev.pos h (Ev.now _)
  · rw [if_neg h]
    exact Ev.neg h (spec_run_l0 l (by omega) l.length 0 (by omega) (by omega))
/-- The program's round behind the plain tests. -/
theorem impl_run_j2 (l : List S43) (hl : l.length ≤ 1000) (d i : Nat) (hd : l.length - i = d + 1) (hx : (Lit.int .i64 (enAt l i).f1).wf = true) (ih : Ev (fun k => impl_RunFault.l0 k (seenTo l (i + 1)) l (l.length : Int) ((i + 1 : Nat) : Int) l) (runFrom l d (i + 1))) (b : Bool) :
    Ev (fun k => impl_RunFault.j2 k (seenTo l i) l (l.length : Int) (i : Int) b l (enAt l i).f0 (enAt l i).f1 (enAt l i).f2 (enAt l i).f3) (if b = true then 1 else runFrom l d (i + 1)) := by
  have hw : wrap64 ((i : Int) + 1) = ((i + 1 : Nat) : Int) := by rw [wrap64_id (by omega) (by omega)]; rfl
  cases b with
  | true => rw [if_pos rfl]; exact Ev.step (fun k => by rw [impl_RunFault.j2, if_pos rfl]) (Ev.now _)
  | false =>
    have hk : keyIn.f (enAt l i).f1 = some (enAt l i).f1 := by unfold keyIn.f; rw [if_pos hx]
    refine Ev.step (fun k => by rw [impl_RunFault.j2, if_neg (by decide), hk, Option.bind_some, if_pos (by rw [seenTo_length]; omega), hw, ← seenTo_succ]) ?_
    rw [if_neg (by decide)]
    exact ih
theorem impl_run_j1 (l : List S43) (hl : l.length ≤ 1000) (d i : Nat) (hd : l.length - i = d + 1) (hx : (Lit.int .i64 (enAt l i).f1).wf = true) (ih : Ev (fun k => impl_RunFault.l0 k (seenTo l (i + 1)) l (l.length : Int) ((i + 1 : Nat) : Int) l) (runFrom l d (i + 1))) (b : Bool) :
    Ev (fun k => impl_RunFault.j1 k (seenTo l i) (i : Int) l (l.length : Int) (i : Int) b l (enAt l i).f0 (enAt l i).f1 (enAt l i).f2 (enAt l i).f3) (if (prevBad l i || b) = true then 1 else runFrom l d (i + 1)) := by
  cases b with
  | true =>
    rw [if_pos (by simp)]
    exact Ev.step (fun k => by rw [impl_RunFault.j1, if_pos rfl]) (Ev.now _)
  | false =>
    rw [Bool.or_false]
    refine Ev.step (fun k => by rw [impl_RunFault.j1, if_neg (by decide)]) ?_
    unfold prevBad
    by_cases h0 : 0 < i
    · have hw1 : wrap64 ((i : Int) - 1) = ((i - 1 : Nat) : Int) := by rw [wrap64_id (by omega) (by omega)]; omega
      obtain ⟨c, hc, hc2⟩ := impl_order (enAt l (i - 1)) (enAt l i)
      rw [hw1, decide_eq_true h0, Bool.true_and, ← hc2]
      refine Ev.pos (by omega) (Ev.pos (by omega) (Ev.pos (by omega) (Ev.bindS hc ?_)))
      exact impl_run_j2 l hl d i hd hx ih _
    · rw [decide_eq_false h0, Bool.false_and]
      refine Ev.neg (by omega) ?_
      exact impl_run_j2 l hl d i hd hx ih false
theorem impl_run_l0 (l : List S43) (hl : l.length ≤ 1000) (hx : ∀ i, i < l.length → (Lit.int .i64 (enAt l i).f1).wf = true) : ∀ (d i : Nat), l.length - i = d → i ≤ l.length → Ev (fun k => impl_RunFault.l0 k (seenTo l i) l (l.length : Int) (i : Int) l) (runFrom l d i) := by
  intro d
  induction d with
  | zero =>
    intro i hd hi
    exact Ev.step (fun k => by rw [impl_RunFault.l0, if_neg (by omega)]; rfl) (Ev.now _)
  | succ d ih =>
    intro i hd hi
    have hn := ih (i + 1) (by omega) (by omega)
    have hxi := hx i (by omega)
    have j1 := fun b => impl_run_j1 l hl d i hd hxi hn b
    have hm : mapHas.f (seenTo l i) (enAt l i).f1 = some (decide ((enAt l i).f1 ∈ seenTo l i)) := by unfold mapHas.f; rw [if_pos hxi]
    refine Ev.step (fun k => by rw [impl_RunFault.l0, if_pos (by omega), if_pos (by omega), if_pos (by omega)]) ?_
    unfold runFrom
    have bad : ∀ h : headBad (enAt l i) = true, Ev (fun k => impl_RunFault.j1 k (seenTo l i) (i : Int) l (l.length : Int) (i : Int) true l (enAt l i).f0 (enAt l i).f1 (enAt l i).f2 (enAt l i).f3) (if badAt l i = true then 1 else runFrom l d (i + 1)) := fun h => by
      have := j1 true
      rw [if_pos (by simp)] at this
      rw [if_pos (badAt_head h)]; exact this
    have last : ∀ h : headBad (enAt l i) = false, Ev (fun k => (mapHas.f (seenTo l i) (enAt l i).f1).bind fun t => (impl_RunFault.j1 k (seenTo l i) (i : Int) l (l.length : Int) (i : Int) t l (enAt l i).f0 (enAt l i).f1 (enAt l i).f2 (enAt l i).f3)) (if badAt l i = true then 1 else runFrom l d (i + 1)) := fun h => by
      rw [badAt_of h]
      exact Ev.bindS hm (j1 _)
    by_cases h1 : (((enAt l i).f0).size : Int) < 1
    · exact Ev.pos h1 (bad (decide_eq_true (Or.inl h1)))
    · refine Ev.neg h1 ?_
      by_cases h2 : (((enAt l i).f0).size : Int) > 200
      · exact Ev.pos h2 (bad (decide_eq_true (Or.inr (Or.inl h2))))
      · refine Ev.neg h2 ?_
        by_cases h3 : (enAt l i).f1 < 1
        · exact Ev.pos h3 (bad (decide_eq_true (Or.inr (Or.inr (Or.inl h3)))))
        · refine Ev.neg h3 ?_
          by_cases h4 : (enAt l i).f2 = true
          · refine Ev.pos h4 ?_
            by_cases h5 : ((enAt l i).f3).toList = ([] : List UInt8)
            · refine Ev.pos h5 ?_
              by_cases h6 : (((enAt l i).f3).size : Int) > 100000
              · exact Ev.pos h6 (bad (decide_eq_true (Or.inr (Or.inr (Or.inr (Or.inr h6))))))
              · exact Ev.neg h6 (last (decide_eq_false (fun h => by rcases h with h | h | h | h | h; exact h1 h; exact h2 h; exact h3 h; exact h.2 h5; exact h6 h)))
            · exact Ev.neg h5 (bad (decide_eq_true (Or.inr (Or.inr (Or.inr (Or.inl ⟨h4, h5⟩))))))
          · refine Ev.neg h4 ?_
            by_cases h6 : (((enAt l i).f3).size : Int) > 100000
            · exact Ev.pos h6 (bad (decide_eq_true (Or.inr (Or.inr (Or.inr (Or.inr h6))))))
            · exact Ev.neg h6 (last (decide_eq_false (fun h => by rcases h with h | h | h | h | h; exact h1 h; exact h2 h; exact h3 h; exact h4 h.1; exact h6 h)))
theorem impl_runFault (l : List S43) (hx : ∀ i, i < l.length → (Lit.int .i64 (enAt l i).f1).wf = true) : Ev (fun k => impl_RunFault.f k l) (runFault l) := by
  unfold runFault
  refine Ev.congr (fun k => by rw [impl_RunFault.f]) ?_
  by_cases h : (l.length : Int) > 1000
  · rw [if_pos h]; exact Ev.pos h (Ev.now _)
  · rw [if_neg h]
    exact Ev.neg h (impl_run_l0 l (by omega) hx l.length 0 (by omega) (by omega))
/-! A heap of lists, merged: plain lists alone. -/
open HM
namespace HM
variable {α : Type} (less : α → α → Bool)
structure Ord : Prop where
  irrefl : ∀ x, less x x = false
  trans : ∀ x y z, less x y = true → less y z = true → less x z = true
  weak : ∀ x y z, less x z = true → less x y = true ∨ less y z = true
section
variable {β : Type} (lr : β → β → Bool) (d : β)
theorem swapR_len (l : List β) (i j : Nat) : (swapR d l i j).length = l.length := by simp [swapR]
theorem swapR_at (l : List β) {i j k : Nat} (hi : i < l.length) (hj : j < l.length) : (swapR d l i j).getD k d = if k = j then l.getD i d else if k = i then l.getD j d else l.getD k d := by
  unfold swapR
  by_cases h1 : k = j
  · rw [if_pos h1, h1, List.getD_eq_getElem?_getD, List.getElem?_set_self (by rw [List.length_set]; exact hj)]
    rfl
  · rw [if_neg h1, List.getD_eq_getElem?_getD, List.getElem?_set_ne (fun e => h1 e.symm)]
    by_cases h2 : k = i
    · rw [if_pos h2, h2, List.getElem?_set_self hi]
      rfl
    · rw [if_neg h2, List.getElem?_set_ne (fun e => h2 e.symm), ← List.getD_eq_getElem?_getD]
theorem swapR_perm (l : List β) {i j : Nat} (hi : i < l.length) (hj : j < l.length) : (swapR d l i j).Perm l := by
  unfold swapR
  have e1 : l.getD j d = l[j] := by rw [List.getD_eq_getElem?_getD, List.getElem?_eq_getElem hj]; rfl
  have e2 : l.getD i d = l[i] := by rw [List.getD_eq_getElem?_getD, List.getElem?_eq_getElem hi]; rfl
  rw [e1, e2]
  exact List.set_set_perm hi hj
/-- A total order that may hold two for alike. -/
structure Tot : Prop where
  irrefl : ∀ x, lr x x = false
  asym : ∀ x y, lr x y = true → lr y x = false
  ntrans : ∀ x y z, lr y x = false → lr z y = false → lr z x = false
/-- In heap order below n, but for what hangs on i. -/
def HeapX (l : List β) (n i : Nat) : Prop := (∀ j, 0 < j → j < n → (j - 1) / 2 ≠ i → lr (l.getD j d) (l.getD ((j - 1) / 2) d) = false) ∧ (0 < i → ∀ j, j < n → 0 < j → (j - 1) / 2 = i → lr (l.getD j d) (l.getD ((i - 1) / 2) d) = false)
def Heap (l : List β) (n : Nat) : Prop := ∀ j, 0 < j → j < n → lr (l.getD j d) (l.getD ((j - 1) / 2) d) = false
theorem down_len : ∀ (f : Nat) (l : List β) (i n : Nat), (downR lr d f l i n).length = l.length
  | 0, _, _, _ => rfl
  | f + 1, l, i, n => by
    unfold downR
    split
    · split
      · rw [down_len f, swapR_len]
      · rfl
    · rfl
theorem kid_cases (l : List β) (i n : Nat) (h : 2 * i + 1 < n) : i < kid lr d l i n ∧ kid lr d l i n < n ∧ (kid lr d l i n - 1) / 2 = i ∧ 0 < kid lr d l i n := by
  unfold kid
  split <;> omega
theorem down_heap (ht : Tot lr) : ∀ (f : Nat) (l : List β) (i n : Nat), n ≤ l.length → n ≤ f + i → HeapX lr d l n i → Heap lr d (downR lr d f l i n) n
  | 0, l, i, n, hn, hf, hx => by
    intro j h1 h2
    exact hx.1 j h1 h2 (by omega)
  | f + 1, l, i, n, hn, hf, hx => by
    unfold downR
    by_cases h : 2 * i + 1 < n
    · rw [if_pos h]
      obtain ⟨k1, k2, k3, k4⟩ := kid_cases lr d l i n h
      have kmin : ∀ j, j < n → 0 < j → (j - 1) / 2 = i → lr (l.getD j d) (l.getD (kid lr d l i n) d) = false := by
        intro j hj hj0 hp
        unfold kid
        have hj2 : j = 2 * i + 1 ∨ j = 2 * i + 2 := by omega
        split
        · rename_i hc
          rcases hj2 with rfl | rfl
          · exact ht.asym _ _ hc.2
          · exact ht.irrefl _
        · rename_i hc
          rcases hj2 with rfl | rfl
          · exact ht.irrefl _
          · cases hq : lr (l.getD (2 * i + 2) d) (l.getD (2 * i + 1) d) with
            | false => rfl
            | true => exact absurd ⟨hj, hq⟩ hc
      generalize kid lr d l i n = k at k1 k2 k3 k4 kmin
      by_cases hl : lr (l.getD k d) (l.getD i d) = true
      · rw [if_pos hl]
        refine down_heap ht f _ _ n (by rw [swapR_len]; exact hn) (by omega) ⟨fun j h1 h2 h3 => ?_, fun h0 j h1 h2 h3 => ?_⟩
        · rw [swapR_at d l (by omega) (by omega), swapR_at d l (by omega) (by omega)]
          by_cases e1 : j = k
          · rw [if_pos e1, if_neg (by omega), if_pos (by omega)]
            exact ht.asym _ _ hl
          · rw [if_neg e1, if_neg h3]
            by_cases e2 : j = i
            · subst e2
              rw [if_pos rfl, if_neg (by omega)]
              exact hx.2 h1 k k2 k4 k3
            · rw [if_neg e2]
              by_cases e3 : (j - 1) / 2 = i
              · rw [if_pos e3]
                exact kmin j h2 h1 e3
              · rw [if_neg e3]
                exact hx.1 j h1 h2 e3
        · rw [swapR_at d l (by omega) (by omega), swapR_at d l (by omega) (by omega)]
          rw [if_neg (by omega), if_neg (by omega), if_neg (by omega), if_pos k3]
          have := hx.1 j h2 h1 (by omega)
          rw [h3] at this
          exact this
      · rw [if_neg hl]
        intro j h1 h2
        by_cases e : (j - 1) / 2 = i
        · rw [e]
          refine ht.ntrans _ (l.getD k d) _ (by simpa using hl) (kmin j h2 h1 e)
        · exact hx.1 j h1 h2 e
    · rw [if_neg h]
      intro j h1 h2
      exact hx.1 j h1 h2 (by omega)
theorem down_perm : ∀ (f : Nat) (l : List β) (i n : Nat), n ≤ l.length → (downR lr d f l i n).Perm l
  | 0, _, _, _, _ => List.Perm.refl _
  | f + 1, l, i, n, hn => by
    unfold downR
    by_cases h : 2 * i + 1 < n
    · rw [if_pos h]
      obtain ⟨k1, k2, k3, k4⟩ := kid_cases lr d l i n h
      by_cases hl : lr (l.getD (kid lr d l i n) d) (l.getD i d) = true
      · rw [if_pos hl]
        exact (down_perm f _ _ n (by rw [swapR_len]; exact hn)).trans (swapR_perm d l (by omega) (by omega))
      · rw [if_neg hl]
    · rw [if_neg h]
/-- What stands from n on is not touched. -/
theorem down_rest : ∀ (f : Nat) (l : List β) (i n k : Nat), n ≤ l.length → n ≤ k → (downR lr d f l i n).getD k d = l.getD k d
  | 0, _, _, _, _, _, _ => rfl
  | f + 1, l, i, n, k, hn, hk => by
    unfold downR
    by_cases h : 2 * i + 1 < n
    · rw [if_pos h]
      obtain ⟨k1, k2, k3, k4⟩ := kid_cases lr d l i n h
      by_cases hl : lr (l.getD (kid lr d l i n) d) (l.getD i d) = true
      · rw [if_pos hl, down_rest f _ _ n k (by rw [swapR_len]; exact hn) hk, swapR_at d l (by omega) (by omega), if_neg (by omega), if_neg (by omega)]
      · rw [if_neg hl]
    · rw [if_neg h]
/-- In heap order, but for j's place above it. -/
def HeapU (l : List β) (n j : Nat) : Prop := (∀ k, 0 < k → k < n → k ≠ j → lr (l.getD k d) (l.getD ((k - 1) / 2) d) = false) ∧ (0 < j → ∀ k, 0 < k → k < n → (k - 1) / 2 = j → lr (l.getD k d) (l.getD ((j - 1) / 2) d) = false)
theorem up_len : ∀ (f : Nat) (l : List β) (j : Nat), (upR lr d f l j).length = l.length
  | 0, _, _ => rfl
  | f + 1, l, j => by
    unfold upR
    split
    · rfl
    · split
      · rw [up_len f, swapR_len]
      · rfl
theorem up_perm : ∀ (f : Nat) (l : List β) (j : Nat), j < l.length → (upR lr d f l j).Perm l
  | 0, _, _, _ => List.Perm.refl _
  | f + 1, l, j, hj => by
    unfold upR
    by_cases h0 : j = 0
    · rw [if_pos h0]
    · rw [if_neg h0]
      by_cases hl : lr (l.getD j d) (l.getD ((j - 1) / 2) d) = true
      · rw [if_pos hl]
        exact (up_perm f _ _ (by rw [swapR_len]; omega)).trans (swapR_perm d l (by omega) hj)
      · rw [if_neg hl]
theorem up_heap (ht : Tot lr) : ∀ (f : Nat) (l : List β) (j : Nat), j < l.length → j ≤ f → HeapU lr d l l.length j → Heap lr d (upR lr d f l j) l.length
  | 0, l, j, hj, hf, hx => by
    intro k h1 h2
    exact hx.1 k h1 h2 (by omega)
  | f + 1, l, j, hj, hf, hx => by
    unfold upR
    by_cases h0 : j = 0
    · rw [if_pos h0]
      intro k h1 h2
      exact hx.1 k h1 h2 (by omega)
    · rw [if_neg h0]
      by_cases hl : lr (l.getD j d) (l.getD ((j - 1) / 2) d) = true
      · rw [if_pos hl]
        have hlen := swapR_len d l ((j - 1) / 2) j
        have hp : (j - 1) / 2 < j := by omega
        generalize hq : (j - 1) / 2 = p at hl hp hlen
        have key := up_heap ht f (swapR d l p j) p (by rw [hlen]; omega) (by omega) ⟨fun k h1 h2 h3 => ?_, fun hp0 k h1 h2 h3 => ?_⟩
        · rw [hlen] at key; exact key
        · rw [hlen] at h2
          rw [swapR_at d l (by omega) hj, swapR_at d l (by omega) hj]
          by_cases e1 : k = j
          · rw [if_pos e1, e1, hq, if_neg (by omega), if_pos rfl]
            exact ht.asym _ _ hl
          · rw [if_neg e1, if_neg h3]
            by_cases e2 : (k - 1) / 2 = j
            · rw [if_pos e2]
              have := hx.2 (by omega) k h1 h2 e2
              rwa [hq] at this
            · rw [if_neg e2]
              by_cases e3 : (k - 1) / 2 = p
              · rw [if_pos e3]
                have h4 := hx.1 k h1 h2 e1
                rw [e3] at h4
                exact ht.ntrans _ _ _ (ht.asym _ _ hl) h4
              · rw [if_neg e3]
                exact hx.1 k h1 h2 e1
        · rw [hlen] at h2
          rw [swapR_at d l (by omega) hj, swapR_at d l (by omega) hj, if_neg (show ¬ (p - 1) / 2 = j by omega), if_neg (show ¬ (p - 1) / 2 = p by omega)]
          have hpp := hx.1 p hp0 (by omega) (by omega)
          by_cases e1 : k = j
          · rw [if_pos e1]; exact hpp
          · rw [if_neg e1, if_neg (by omega)]
            have h4 := hx.1 k h1 h2 e1
            rw [h3] at h4
            exact ht.ntrans _ _ _ hpp h4
      · rw [if_neg hl]
        intro k h1 h2
        by_cases e : k = j
        · rw [e]; simpa using hl
        · exact hx.1 k h1 h2 e
/-- The first is the least. -/
theorem heap_min (ht : Tot lr) {l : List β} {n : Nat} (h : Heap lr d l n) : ∀ j, j < n → lr (l.getD j d) (l.getD 0 d) = false := by
  intro j
  induction j using Nat.strongRecOn with
  | _ j ih =>
    intro hj
    by_cases h0 : j = 0
    · rw [h0]; exact ht.irrefl _
    · exact ht.ntrans _ _ _ (ih ((j - 1) / 2) (by omega) (by omega)) (h j (by omega) hj)
end
end HM
/-! The merge of a heap of sorted lists is the sorted list of all. -/
open HM
namespace HM
variable {α : Type} {less : α → α → Bool}
theorem lessR_tot (ho : Ord less) (z : α) : Tot (lessR less z) := by
  have key : ∀ a b : List α × Nat, lessR less z a b = false ↔ (less (a.1.headD z) (b.1.headD z) = false ∧ (less (b.1.headD z) (a.1.headD z) = true ∨ ¬ a.2 < b.2)) := by
    intro a b
    unfold lessR
    cases less (a.1.headD z) (b.1.headD z) <;> cases less (b.1.headD z) (a.1.headD z) <;> simp
  have keyT : ∀ a b : List α × Nat, lessR less z a b = true ↔ (less (a.1.headD z) (b.1.headD z) = true ∨ (less (b.1.headD z) (a.1.headD z) = false ∧ a.2 < b.2)) := by
    intro a b
    unfold lessR
    cases less (a.1.headD z) (b.1.headD z) <;> cases less (b.1.headD z) (a.1.headD z) <;> simp
  have asy : ∀ x y, less x y = true → less y x = false := by
    intro x y h
    cases h2 : less y x with
    | false => rfl
    | true => have := ho.trans _ _ _ h h2; rw [ho.irrefl] at this; cases this
  have wk : ∀ x y w, less x y = false → less y w = false → less x w = false := by
    intro x y w h1 h2
    cases h3 : less x w with
    | false => rfl
    | true => rcases ho.weak x y w h3 with q | q
              · rw [h1] at q; cases q
              · rw [h2] at q; cases q
  refine ⟨fun x => ?_, fun x y h => ?_, fun x y w h1 h2 => ?_⟩
  · rw [key]; exact ⟨ho.irrefl _, Or.inr (Nat.lt_irrefl _)⟩
  · rw [keyT] at h; rw [key]
    rcases h with h | ⟨h1, h2⟩
    · exact ⟨asy _ _ h, Or.inl h⟩
    · exact ⟨h1, Or.inr (by omega)⟩
  · rw [key] at *
    obtain ⟨a1, a2⟩ := h1
    obtain ⟨b1, b2⟩ := h2
    refine ⟨wk _ _ _ b1 a1, ?_⟩
    cases h3 : less (x.1.headD z) (w.1.headD z) with
    | true => exact Or.inl rfl
    | false =>
      right
      have c1 : less (x.1.headD z) (y.1.headD z) = false := wk _ _ _ h3 b1
      have c2 : less (y.1.headD z) (w.1.headD z) = false := wk _ _ _ a1 h3
      rcases a2 with q | q
      · rw [c1] at q; cases q
      · rcases b2 with q2 | q2
        · rw [c2] at q2; cases q2
        · omega
variable (less)
def lt2 (a b : α × Nat) : Bool := less a.1 b.1 || (!less b.1 a.1 && decide (a.2 < b.2))
def tagR (r : List α × Nat) : List (α × Nat) := r.1.map fun x => (x, r.2)
def tagAll (l : List (List α × Nat)) : List (α × Nat) := l.flatMap tagR
variable {less}
theorem getD_take {β : Type} (d : β) (l : List β) {n j : Nat} (h : j < n) : (l.take n).getD j d = l.getD j d := by
  rw [List.getD_eq_getElem?_getD, List.getElem?_take_of_lt h, ← List.getD_eq_getElem?_getD]
theorem heapX_root {z : α} {r r2 : List α × Nat} {l : List (List α × Nat)} (h : Heap (lessR less z) ([], 0) (r :: l) (l.length + 1)) (n : Nat) (hn : n ≤ l.length + 1) : HeapX (lessR less z) ([], 0) (r2 :: l) n 0 := by
  refine ⟨fun j h1 h2 h3 => ?_, fun h => by omega⟩
  have := h j h1 (by omega)
  obtain ⟨j', rfl⟩ : ∃ j', j = j' + 1 := ⟨j - 1, by omega⟩
  obtain ⟨p, hp⟩ : ∃ p, (j' + 1 - 1) / 2 = p + 1 := ⟨(j' + 1 - 1) / 2 - 1, by omega⟩
  rw [hp] at this ⊢
  exact this
theorem pop_ok (ho : Ord less) {z : α} {r : List α × Nat} {l : List (List α × Nat)} (n : Nat) (h : Heap (lessR less z) ([], 0) (r :: l) (l.length + 1)) :
    (popR less z (([], n) :: l)).Perm l ∧ Heap (lessR less z) ([], 0) (popR less z (([], n) :: l)) (popR less z (([], n) :: l)).length := by
  have ht := lessR_tot ho z
  unfold popR
  generalize hL : (([], n) :: l : List (List α × Nat)) = L
  have hlen : L.length = l.length + 1 := by rw [← hL]; rfl
  rw [hlen, Nat.add_sub_cancel]
  have hsl := swapR_len ([], 0) L 0 l.length
  have hsp := swapR_perm (([], 0) : List α × Nat) L (i := 0) (j := l.length) (by omega) (by omega)
  have hsat := fun k => swapR_at (([], 0) : List α × Nat) L (i := 0) (j := l.length) (k := k) (by omega) (by omega)
  have hx : HeapX (lessR less z) ([], 0) (swapR ([], 0) L 0 l.length) l.length 0 := by
    refine ⟨fun j h1 h2 h3 => ?_, fun h => by omega⟩
    rw [hsat, hsat, if_neg (by omega), if_neg (by omega), if_neg (by omega), if_neg h3]
    have := (heapX_root (r2 := ([], n)) h (l.length + 1) (Nat.le_refl _)).1 j h1 (by omega) h3
    rw [hL] at this
    exact this
  have hd := down_heap (lessR less z) ([], 0) ht (l.length + 1) _ 0 l.length (by omega) (by omega) hx
  have hp := (down_perm (lessR less z) ([], 0) (l.length + 1) (swapR ([], 0) L 0 l.length) 0 l.length (by omega)).trans hsp
  have hr := down_rest (lessR less z) ([], 0) (l.length + 1) (swapR ([], 0) L 0 l.length) 0 l.length l.length (by omega) (Nat.le_refl _)
  have hl := down_len (lessR less z) ([], 0) (l.length + 1) (swapR ([], 0) L 0 l.length) 0 l.length
  generalize downR (lessR less z) ([], 0) (l.length + 1) (swapR ([], 0) L 0 l.length) 0 l.length = W at hd hp hr hl
  have hlW : W.length = l.length + 1 := by omega
  rw [hsat, if_pos rfl] at hr
  have hL0 : L.getD 0 ([], 0) = ([], n) := by rw [← hL]; rfl
  rw [hL0] at hr
  have hsplit : W.take l.length ++ [([], n)] = W := by
    rw [← hr]
    have e : W.getD l.length ([], 0) = W[l.length] := by rw [List.getD_eq_getElem?_getD, List.getElem?_eq_getElem (by omega)]; rfl
    rw [e]
    have := List.take_append_getElem (l := W) (i := l.length) (by omega)
    rw [this, List.take_of_length_le (by omega)]
  have hlt : (W.take l.length).length = l.length := by rw [List.length_take]; omega
  refine ⟨?_, ?_⟩
  · have h1 : (([], n) :: W.take l.length).Perm (([], n) :: l) := by
      rw [hL]
      refine List.Perm.trans ?_ hp
      conv => rhs; rw [← hsplit]
      exact (List.perm_append_comm (l₁ := [([], n)]) (l₂ := W.take l.length))
    exact (List.perm_cons _).1 h1
  · rw [hlt]
    intro j h1 h2
    rw [getD_take _ _ h2, getD_take _ _ (by omega)]
    exact hd j h1 h2
/-- What is right of a heap's items. -/
structure Items (l : List (List α × Nat)) : Prop where
  ne : ∀ r ∈ l, r.1 ≠ []
  up : ∀ r ∈ l, r.1.Pairwise (fun a b => less a b = true)
  no : l.Pairwise (fun a b => a.2 ≠ b.2)
theorem Items.perm {l m : List (List α × Nat)} (h : Items (less := less) l) (hp : m.Perm l) : Items (less := less) m :=
  ⟨fun r hr => h.ne r (hp.mem_iff.1 hr), fun r hr => h.up r (hp.mem_iff.1 hr), (hp.pairwise_iff (fun {a b} q e => q e.symm)).2 h.no⟩
theorem tagAll_perm {l m : List (List α × Nat)} (hp : m.Perm l) : (tagAll m).Perm (tagAll l) := hp.flatMap_right _
theorem merge_go (ho : Ord less) (z : α) : ∀ (f : Nat) (l : List (List α × Nat)) (out : List α), Items (less := less) l → Heap (lessR less z) ([], 0) l l.length → (tagAll l).length ≤ f →
    ∃ S : List (α × Nat), S.Perm (tagAll l) ∧ S.Pairwise (fun a b => lt2 less a b = true) ∧ mergeGo less z f l out = out ++ S.map (·.1)
  | 0, [], out, _, _, _ => ⟨[], List.Perm.refl _, List.Pairwise.nil, by simp [mergeGo]⟩
  | 0, r :: l, out, hi, _, hf => by
    exfalso
    have hne := hi.ne r (List.mem_cons_self)
    obtain ⟨rl, n⟩ := r
    cases rl with
    | nil => exact hne rfl
    | cons x t => simp [tagAll, tagR] at hf
  | f + 1, [], out, _, _, _ => ⟨[], List.Perm.refl _, List.Pairwise.nil, by simp [mergeGo]⟩
  | f + 1, r :: l, out, hi, hh, hf => by
    have ht := lessR_tot ho z
    have hne := hi.ne r (List.mem_cons_self)
    obtain ⟨rl, n⟩ := r
    cases rl with
    | nil => exact absurd rfl hne
    | cons x t =>
      have hup := List.pairwise_cons.1 (hi.up _ (List.mem_cons_self))
      have hno := List.pairwise_cons.1 hi.no
      have hi' : Items (less := less) l := ⟨fun r hr => hi.ne r (List.mem_cons_of_mem _ hr), fun r hr => hi.up r (List.mem_cons_of_mem _ hr), hno.2⟩
      -- the head is the least of all
      have hmin : ∀ y ∈ t.map (fun a => (a, n)) ++ tagAll l, lt2 less (x, n) y = true := by
        intro y hy
        rcases List.mem_append.1 hy with hy | hy
        · obtain ⟨a, ha, rfl⟩ := List.mem_map.1 hy
          unfold lt2
          rw [hup.1 a ha]; rfl
        · obtain ⟨r, hr, hy⟩ := List.mem_flatMap.1 hy
          obtain ⟨a, ha, rfl⟩ := List.mem_map.1 hy
          obtain ⟨j, hj, hjr⟩ := List.getElem_of_mem hr
          have hm := heap_min (lessR less z) ([], 0) ht hh (j + 1) (by simp; omega)
          have e1 : ((x :: t, n) :: l).getD (j + 1) ([], 0) = r := by
            rw [List.getD_eq_getElem?_getD, List.getElem?_cons_succ, List.getElem?_eq_getElem hj, hjr]; rfl
          rw [e1] at hm
          have e2 : ((x :: t, n) :: l).getD 0 ([], 0) = (x :: t, n) := rfl
          rw [e2] at hm
          have hrn := hno.1 r hr
          have hrne := hi.ne r (List.mem_cons_of_mem _ hr)
          have hru := hi.up r (List.mem_cons_of_mem _ hr)
          obtain ⟨rl, k⟩ := r
          cases rl with
          | nil => exact absurd rfl hrne
          | cons y ys =>
            have hyx : less y x = false ∧ (less x y = true ∨ ¬ k < n) := by
              unfold lessR at hm
              simp only [List.headD_cons] at hm
              cases h1 : less y x <;> cases h2 : less x y <;> rw [h1, h2] at hm <;> simp at hm ⊢
              exact hm
            have hru2 := List.pairwise_cons.1 hru
            rcases List.mem_cons.1 ha with rfl | ha
            · unfold lt2
              simp only
              rcases hyx.2 with q | q
              · rw [q]; rfl
              · have : n < k := by simp only at hrn; omega
                rw [hyx.1, decide_eq_true this]; simp
            · have hya := hru2.1 a ha
              unfold lt2
              simp only
              rcases ho.weak y x a hya with q | q
              · rw [hyx.1] at q; cases q
              · rw [q]; rfl
      have htag : tagAll ((x :: t, n) :: l) = (x, n) :: (t.map (fun a => (a, n)) ++ tagAll l) := by simp [tagAll, tagR]
      rw [htag] at hf ⊢
      have close : ∀ (m : List (List α × Nat)), Items (less := less) m → Heap (lessR less z) ([], 0) m m.length → (tagAll m).Perm (t.map (fun a => (a, n)) ++ tagAll l) →
          ∃ S : List (α × Nat), S.Perm ((x, n) :: (t.map (fun a => (a, n)) ++ tagAll l)) ∧ S.Pairwise (fun a b => lt2 less a b = true) ∧ mergeGo less z f m (out ++ [x]) = out ++ S.map (·.1) := by
        intro m h1 h2 h3
        obtain ⟨S, s1, s2, s3⟩ := merge_go ho z f m (out ++ [x]) h1 h2 (by rw [h3.length_eq]; simp at hf ⊢; omega)
        refine ⟨(x, n) :: S, (s1.trans h3).cons _, List.pairwise_cons.2 ⟨fun y hy => hmin y ((s1.trans h3).mem_iff.1 hy), s2⟩, ?_⟩
        rw [s3]; simp
      cases t with
      | nil =>
        have e : mergeGo less z (f + 1) (([x], n) :: l) out = mergeGo less z f (popR less z (([], n) :: l)) (out ++ [x]) := by
          rw [mergeGo, if_pos (show (([x], n) : List α × Nat).1.tail.length = 0 from rfl)]; rfl
        rw [e]
        obtain ⟨p1, p2⟩ := pop_ok ho (z := z) n (by simpa using hh)
        exact close _ (hi'.perm p1) p2 (by simpa using tagAll_perm p1)
      | cons y ys =>
        have e : mergeGo less z (f + 1) ((x :: y :: ys, n) :: l) out = mergeGo less z f (downR (lessR less z) ([], 0) (l.length + 1) ((y :: ys, n) :: l) 0 (l.length + 1)) (out ++ [x]) := by
          rw [mergeGo, if_neg (by simp)]; rfl
        rw [e]
        have hi2 : Items (less := less) ((y :: ys, n) :: l) := ⟨fun r hr => by
          rcases List.mem_cons.1 hr with rfl | hr
          · simp
          · exact hi'.ne r hr, fun r hr => by
          rcases List.mem_cons.1 hr with rfl | hr
          · exact hup.2
          · exact hi'.up r hr, List.pairwise_cons.2 ⟨fun r hr => hno.1 r hr, hno.2⟩⟩
        have hp := down_perm (lessR less z) ([], 0) (l.length + 1) ((y :: ys, n) :: l) 0 (l.length + 1) (by simp)
        have hd := down_heap (lessR less z) ([], 0) ht (l.length + 1) ((y :: ys, n) :: l) 0 (l.length + 1) (by simp) (by omega) (heapX_root (by simpa using hh) _ (Nat.le_refl _))
        refine close _ (hi2.perm hp) ?_ ?_
        · rw [hp.length_eq]; simpa using hd
        · refine (tagAll_perm hp).trans ?_
          simp [tagAll, tagR]
end HM
/-! The heap's start, and the stable sort by insertion: both ways one list. -/
open HM
namespace HM
variable {α : Type} (less : α → α → Bool)
def tagFrom {α : Type} : Nat → List (List α) → List (α × Nat)
  | _, [] => []
  | i, r :: rs => r.map (fun x => (x, i)) ++ tagFrom (i + 1) rs
def insT (x : α × Nat) : List (α × Nat) → List (α × Nat)
  | [] => [x]
  | y :: r => if lt2 less x y = true then x :: y :: r else y :: insT x r
def sortT : List (α × Nat) → List (α × Nat) → List (α × Nat)
  | [], acc => acc
  | x :: r, acc => sortT r (insT less x acc)
def insB (x : α) : List α → List α
  | [] => [x]
  | y :: r => if less x y = true then x :: y :: r else y :: insB x r
/-- The stable sort by insertion. -/
def sortB : List α → List α → List α
  | [], acc => acc
  | x :: r, acc => sortB r (insB less x acc)
variable {less}
theorem getD_snoc {β : Type} (d : β) (l : List β) (r : β) {k : Nat} (h : k < l.length) : (l ++ [r]).getD k d = l.getD k d := by
  rw [List.getD_eq_getElem?_getD, List.getElem?_append_left h, ← List.getD_eq_getElem?_getD]
theorem push_ok (ho : Ord less) (z : α) {l : List (List α × Nat)} (r : List α × Nat) (h : Heap (lessR less z) ([], 0) l l.length) :
    (pushR less z l r).Perm (r :: l) ∧ Heap (lessR less z) ([], 0) (pushR less z l r) (pushR less z l r).length := by
  have ht := lessR_tot ho z
  have hp := up_perm (lessR less z) ([], 0) (l.length + 1) (l ++ [r]) l.length (by simp)
  refine ⟨hp.trans List.perm_append_comm, ?_⟩
  unfold pushR
  rw [up_len]
  refine up_heap (lessR less z) ([], 0) ht (l.length + 1) (l ++ [r]) l.length (by simp) (by omega) ⟨fun k h1 h2 h3 => ?_, fun h0 k h1 h2 h3 => ?_⟩
  · simp at h2
    rw [getD_snoc _ _ _ (show k < l.length by omega), getD_snoc _ _ _ (show (k - 1) / 2 < l.length by omega)]
    exact h k h1 (by omega)
  · simp at h2; omega
theorem start_ok (ho : Ord less) (z : α) : ∀ (rs : List (List α)) (i : Nat) (h : List (List α × Nat)), (∀ r ∈ rs, r.Pairwise (fun a b => less a b = true)) → Items (less := less) h → (∀ r ∈ h, r.2 < i) → Heap (lessR less z) ([], 0) h h.length →
    Items (less := less) (startR less z i rs h) ∧ Heap (lessR less z) ([], 0) (startR less z i rs h) (startR less z i rs h).length ∧ (tagAll (startR less z i rs h)).Perm (tagAll h ++ tagFrom i rs)
  | [], i, h, _, hi, _, hh => ⟨hi, hh, by simp [startR, tagFrom]⟩
  | r :: rs, i, h, hr, hi, hlt, hh => by
    unfold startR tagFrom
    by_cases e : r.length = 0
    · rw [if_pos e]
      have e2 : r = [] := List.length_eq_zero_iff.1 e
      obtain ⟨a1, a2, a3⟩ := start_ok ho z rs (i + 1) h (fun q hq => hr q (List.mem_cons_of_mem _ hq)) hi (fun q hq => Nat.lt_succ_of_lt (hlt q hq)) hh
      refine ⟨a1, a2, ?_⟩
      rw [e2]; simpa using a3
    · rw [if_neg e]
      obtain ⟨p1, p2⟩ := push_ok ho z (r, i) hh
      have hi2 : Items (less := less) ((r, i) :: h) := ⟨fun q hq => by
        rcases List.mem_cons.1 hq with rfl | hq
        · intro q2; exact e (by rw [show r = [] from q2]; rfl)
        · exact hi.ne q hq, fun q hq => by
        rcases List.mem_cons.1 hq with rfl | hq
        · exact hr r (List.mem_cons_self)
        · exact hi.up q hq, List.pairwise_cons.2 ⟨fun q hq q2 => by have := hlt q hq; simp only at q2; omega, hi.no⟩⟩
      obtain ⟨a1, a2, a3⟩ := start_ok ho z rs (i + 1) (pushR less z h (r, i)) (fun q hq => hr q (List.mem_cons_of_mem _ hq)) (hi2.perm p1) (fun q hq => by
        rcases List.mem_cons.1 (p1.mem_iff.1 hq) with rfl | hq
        · simp
        · exact Nat.lt_succ_of_lt (hlt q hq)) p2
      refine ⟨a1, a2, a3.trans ?_⟩
      have h1 : (tagAll (pushR less z h (r, i))).Perm (tagAll ((r, i) :: h)) := tagAll_perm p1
      have h2 : tagAll ((r, i) :: h) = r.map (fun x => (x, i)) ++ tagAll h := by simp [tagAll, tagR]
      rw [h2] at h1
      have h3 := h1.append_right (tagFrom (i + 1) rs)
      refine h3.trans ?_
      rw [← List.append_assoc]
      exact List.perm_append_comm.append_right _
theorem lt2_asym (ho : Ord less) {a b : α × Nat} (h : lt2 less a b = true) : lt2 less b a = false := (lessR_tot ho a.1).asym ([a.1], a.2) ([b.1], b.2) h
theorem lt2_irrefl (ho : Ord less) (a : α × Nat) : lt2 less a a = false := (lessR_tot ho a.1).irrefl ([a.1], a.2)
theorem lt2_trans (ho : Ord less) {a b c : α × Nat} (h1 : lt2 less a b = true) (h2 : lt2 less b c = true) : lt2 less a c = true := by
  cases h : lt2 less a c with
  | true => rfl
  | false =>
    have h3 : lt2 less a b = false := (lessR_tot ho a.1).ntrans ([b.1], b.2) ([c.1], c.2) ([a.1], a.2) (lt2_asym ho h2) h
    rw [h3] at h1; cases h1
def UpT (less : α → α → Bool) (l : List (α × Nat)) : Prop := l.Pairwise (fun a b => lt2 less a b = true)
theorem insT_perm (x : α × Nat) : ∀ l, (insT less x l).Perm (x :: l)
  | [] => List.Perm.refl _
  | y :: r => by
    unfold insT
    split
    · exact List.Perm.refl _
    · exact ((insT_perm x r).cons y).trans (List.Perm.swap x y r)
theorem insT_up (ho : Ord less) {x : α × Nat} : ∀ {l}, UpT less l → (∀ y ∈ l, lt2 less x y = true ∨ lt2 less y x = true) → UpT less (insT less x l)
  | [], _, _ => List.pairwise_singleton _ _
  | y :: r, h, hx => by
    have h2 := List.pairwise_cons.1 h
    unfold insT
    split
    · rename_i q
      refine List.pairwise_cons.2 ⟨fun z hz => ?_, h⟩
      rcases List.mem_cons.1 hz with rfl | hz
      · exact q
      · exact lt2_trans ho q (h2.1 z hz)
    · rename_i q
      have q2 := (hx y (List.mem_cons_self)).resolve_left q
      refine List.pairwise_cons.2 ⟨fun z hz => ?_, insT_up ho h2.2 (fun z hz => hx z (List.mem_cons_of_mem _ hz))⟩
      rcases List.mem_cons.1 ((insT_perm x r).mem_iff.1 hz) with rfl | hz
      · exact q2
      · exact h2.1 z hz
theorem sortT_up (ho : Ord less) : ∀ (l acc : List (α × Nat)), UpT less acc → (∀ x ∈ l, ∀ y ∈ acc, lt2 less x y = true ∨ lt2 less y x = true) → l.Pairwise (fun a b => lt2 less b a = true ∨ lt2 less a b = true) →
    UpT less (sortT less l acc) ∧ (sortT less l acc).Perm (l ++ acc)
  | [], acc, h, _, _ => ⟨h, List.Perm.refl _⟩
  | x :: r, acc, h, hx, hl => by
    have hl2 := List.pairwise_cons.1 hl
    obtain ⟨a1, a2⟩ := sortT_up ho r (insT less x acc) (insT_up ho h (hx x (List.mem_cons_self))) (fun y hy w hw => by
      rcases List.mem_cons.1 ((insT_perm x acc).mem_iff.1 hw) with rfl | hw
      · exact hl2.1 y hy
      · exact hx y (List.mem_cons_of_mem _ hy) w hw) hl2.2
    refine ⟨a1, a2.trans ?_⟩
    exact ((insT_perm x acc).append_left r).trans List.perm_middle
theorem insT_map {x : α × Nat} : ∀ {l : List (α × Nat)}, (∀ y ∈ l, y.2 ≤ x.2) → (insT less x l).map (·.1) = insB less x.1 (l.map (·.1))
  | [], _ => rfl
  | y :: r, h => by
    have e : lt2 less x y = less x.1 y.1 := by
      unfold lt2
      rw [decide_eq_false (by have := h y (List.mem_cons_self); omega), Bool.and_false, Bool.or_false]
    unfold insT
    rw [e, List.map_cons]
    unfold insB
    split
    · rfl
    · rw [List.map_cons, insT_map (fun w hw => h w (List.mem_cons_of_mem _ hw))]
theorem sortT_map : ∀ (l acc : List (α × Nat)), (∀ x ∈ l, ∀ y ∈ acc, y.2 ≤ x.2) → l.Pairwise (fun a b => a.2 ≤ b.2) → (sortT less l acc).map (·.1) = sortB less (l.map (·.1)) (acc.map (·.1))
  | [], _, _, _ => rfl
  | x :: r, acc, h, hl => by
    have hl2 := List.pairwise_cons.1 hl
    unfold sortT
    rw [sortT_map r (insT less x acc) (fun y hy w hw => by
      rcases List.mem_cons.1 ((insT_perm x acc).mem_iff.1 hw) with rfl | hw
      · exact hl2.1 y hy
      · exact h y (List.mem_cons_of_mem _ hy) w hw) hl2.2, insT_map (h x (List.mem_cons_self))]
    rfl
theorem upT_eq (ho : Ord less) : ∀ {l m : List (α × Nat)}, UpT less l → UpT less m → l.Perm m → l = m
  | [], m, _, _, h => by rw [List.nil_perm] at h; exact h.symm
  | a :: l, [], _, _, h => by rw [List.perm_nil] at h; cases h
  | a :: l, b :: m, h1, h2, h => by
    have p1 := List.pairwise_cons.1 h1
    have p2 := List.pairwise_cons.1 h2
    have e : a = b := by
      rcases List.mem_cons.1 (h.mem_iff.1 (List.mem_cons_self)) with q | q
      · exact q
      · rcases List.mem_cons.1 (h.mem_iff.2 (List.mem_cons_self)) with q2 | q2
        · exact q2.symm
        · have := lt2_trans ho (p1.1 b q2) (p2.1 a q)
          rw [lt2_irrefl ho] at this
          cases this
    subst e
    rw [upT_eq ho p1.2 p2.2 ((List.perm_cons a).1 h)]
theorem tagFrom_ge : ∀ (rs : List (List α)) (i : Nat), ∀ x ∈ tagFrom i rs, i ≤ x.2
  | [], _, x, h => by cases h
  | r :: rs, i, x, h => by
    rcases List.mem_append.1 h with h | h
    · obtain ⟨a, _, rfl⟩ := List.mem_map.1 h; exact Nat.le_refl _
    · have := tagFrom_ge rs (i + 1) x h; omega
theorem tagFrom_map : ∀ (rs : List (List α)) (i : Nat), (tagFrom i rs).map (·.1) = rs.flatten
  | [], _ => rfl
  | r :: rs, i => by
    unfold tagFrom
    rw [List.map_append, tagFrom_map rs (i + 1), List.flatten_cons, List.map_map]
    congr 1
    exact List.map_id r
theorem tagFrom_mono : ∀ (rs : List (List α)) (i : Nat), (tagFrom i rs).Pairwise (fun a b => a.2 ≤ b.2)
  | [], _ => List.Pairwise.nil
  | r :: rs, i => by
    unfold tagFrom
    refine List.pairwise_append.2 ⟨?_, tagFrom_mono rs (i + 1), fun a ha b hb => ?_⟩
    · rw [List.pairwise_map]; exact List.pairwise_of_forall (fun _ _ => Nat.le_refl _)
    · obtain ⟨c, _, rfl⟩ := List.mem_map.1 ha
      have := tagFrom_ge rs (i + 1) b hb
      simp only; omega
theorem tagFrom_tri (ho : Ord less) : ∀ (rs : List (List α)) (i : Nat), (∀ r ∈ rs, r.Pairwise (fun a b => less a b = true)) → (tagFrom i rs).Pairwise (fun a b => lt2 less b a = true ∨ lt2 less a b = true)
  | [], _, _ => List.Pairwise.nil
  | r :: rs, i, h => by
    unfold tagFrom
    refine List.pairwise_append.2 ⟨?_, tagFrom_tri ho rs (i + 1) (fun q hq => h q (List.mem_cons_of_mem _ hq)), fun a ha b hb => ?_⟩
    · rw [List.pairwise_map]
      refine (h r (List.mem_cons_self)).imp (fun {a b} q => Or.inr ?_)
      unfold lt2; rw [q]; rfl
    · obtain ⟨c, _, rfl⟩ := List.mem_map.1 ha
      have := tagFrom_ge rs (i + 1) b hb
      unfold lt2
      simp only
      rw [decide_eq_true (show i < b.2 by omega)]
      cases less b.1 c <;> simp
/-- THE MERGE: the heap's way and the stable sort of all, one behind the other, are one. -/
theorem merged_sort (ho : Ord less) (z : α) (rs : List (List α)) (hr : ∀ r ∈ rs, r.Pairwise (fun a b => less a b = true)) (f : Nat) (hf : rs.flatten.length ≤ f) :
    mergeGo less z f (startR less z 0 rs []) [] = sortB less rs.flatten [] := by
  obtain ⟨a1, a2, a3⟩ := start_ok ho z rs 0 [] hr ⟨fun r h => (nomatch h), fun r h => (nomatch h), List.Pairwise.nil⟩ (fun r h => by cases h) (fun j h1 h2 => by simp at h2)
  have a3' : (tagAll (startR less z 0 rs [])).Perm (tagFrom 0 rs) := a3
  have hlen : (tagFrom 0 rs).length = rs.flatten.length := by rw [← tagFrom_map rs 0, List.length_map]
  obtain ⟨S, s1, s2, s3⟩ := merge_go ho z f _ [] a1 a2 (by rw [a3'.length_eq, hlen]; exact hf)
  obtain ⟨t1, t2⟩ := sortT_up ho (tagFrom 0 rs) [] List.Pairwise.nil (fun _ _ _ h => by cases h) (tagFrom_tri ho rs 0 hr)
  rw [List.append_nil] at t2
  have e := upT_eq ho s2 t1 ((s1.trans a3').trans t2.symm)
  rw [s3, List.nil_append, e, sortT_map _ _ (fun _ _ _ h => by cases h) (tagFrom_mono rs 0), tagFrom_map]
  rfl
end HM
/-! The place that a stable insertion takes. -/
open HM
namespace HM
variable {α : Type} {less : α → α → Bool}
theorem insB_at (e : α) : ∀ (out : List α) (p : Nat) (hp : p ≤ out.length), (∀ j (hj : j < p), less e (out[j]'(by omega)) = false) → (∀ h : p < out.length, less e out[p] = true) → insB less e out = out.take p ++ e :: out.drop p
  | [], p, hp, _, _ => by
    have : p = 0 := by simpa using hp
    subst this; rfl
  | y :: r, 0, hp, _, h2 => by
    have := h2 (by simp)
    simp only [List.getElem_cons_zero] at this
    unfold insB
    rw [if_pos this]
    rfl
  | y :: r, p + 1, hp, h1, h2 => by
    have h0 := h1 0 (by omega)
    simp only [List.getElem_cons_zero] at h0
    unfold insB
    rw [if_neg (by rw [h0]; decide), insB_at e r p (by simpa using hp) (fun j hj => by have := h1 (j + 1) (by omega); simpa using this) (fun h => by have := h2 (by simpa using h); simpa using this)]
    rfl
/-- None behind is less than one ahead. -/
def UpW (less : α → α → Bool) (l : List α) : Prop := l.Pairwise (fun a b => less b a = false)
theorem insB_mem {e : α} : ∀ {l : List α} {x : α}, x ∈ insB less e l ↔ x = e ∨ x ∈ l
  | [], x => by simp [insB]
  | y :: r, x => by
    unfold insB
    split
    · simp
    · rw [List.mem_cons, insB_mem, List.mem_cons]
      constructor
      · rintro (h | h | h)
        · exact Or.inr (Or.inl h)
        · exact Or.inl h
        · exact Or.inr (Or.inr h)
      · rintro (h | h | h)
        · exact Or.inr (Or.inl h)
        · exact Or.inl h
        · exact Or.inr (Or.inr h)
theorem insB_upW (ho : Ord less) {e : α} : ∀ {l : List α}, UpW less l → UpW less (insB less e l)
  | [], _ => List.pairwise_singleton _ _
  | y :: r, h => by
    have h2 := List.pairwise_cons.1 h
    have asy : ∀ x y, less x y = true → less y x = false := by
      intro x y h
      cases h2 : less y x with
      | false => rfl
      | true => have := ho.trans _ _ _ h h2; rw [ho.irrefl] at this; cases this
    unfold insB
    split
    · rename_i q
      refine List.pairwise_cons.2 ⟨fun z hz => ?_, h⟩
      rcases List.mem_cons.1 hz with rfl | hz
      · exact asy _ _ q
      · cases hq : less z e with
        | false => rfl
        | true =>
          have := ho.trans _ _ _ hq q
          rw [h2.1 z hz] at this; cases this
    · rename_i q
      refine List.pairwise_cons.2 ⟨fun z hz => ?_, insB_upW ho h2.2⟩
      rcases insB_mem.1 hz with rfl | hz
      · simpa using q
      · exact h2.1 z hz
theorem insB_len (e : α) : ∀ l : List α, (insB less e l).length = l.length + 1
  | [] => rfl
  | y :: r => by
    unfold insB
    split
    · rfl
    · rw [List.length_cons, insB_len e r, List.length_cons]
end HM
/-! What is left of a run's entries at a floor: two ways to say it. -/
namespace HM
section
variable {α κ : Type} [DecidableEq κ] (key : α → κ) (old gone : α → Bool)
/-- The entry just ahead is an old one of the same key. -/
def oldP (p : Option α) (e : α) : Bool := match p with
  | some q => decide (key q = key e) && old q
  | none => false
/-- By the entry just ahead. -/
def keepS : Option α → List α → List α
  | _, [] => []
  | p, e :: r => if old e = true then (if (oldP key old p e || gone e) = true then keepS (some e) r else e :: keepS (some e) r) else e :: keepS (some e) r
/-- By the last key that was below. -/
def keepI : κ → List α → List α
  | _, [] => []
  | b, e :: r => if old e = true then (if b = key e then keepI b r else if gone e = true then keepI (key e) r else e :: keepI (key e) r) else e :: keepI b r
theorem keep_same (klt : κ → κ → Prop) (hirr : ∀ a, ¬ klt a a) (htr : ∀ a b c, klt a b → klt b c → klt a c) : ∀ (l : List α) (p : Option α) (b : κ),
    (p.toList ++ l).Pairwise (fun x y => klt (key x) (key y) ∨ (key x = key y ∧ (old x = true → old y = true))) →
    ((∃ q, p = some q ∧ old q = true ∧ b = key q) ∨ ((∀ q, p = some q → old q = false) ∧ ∀ e ∈ l, b ≠ key e)) →
    keepI key old gone b l = keepS key old gone p l
  | [], _, _, _, _ => rfl
  | e :: r, p, b, hp, hI => by
    have hp2 : ((some e).toList ++ r).Pairwise (fun x y => klt (key x) (key y) ∨ (key x = key y ∧ (old x = true → old y = true))) := (List.pairwise_append.1 hp).2.1
    have her := List.pairwise_cons.1 hp2
    unfold keepI keepS
    by_cases ho : old e = true
    · rw [if_pos ho, if_pos ho]
      have hc : oldP key old p e = true ↔ b = key e := by
        rcases hI with ⟨q, rfl, q1, q2⟩ | ⟨q1, q2⟩
        · show (decide (key q = key e) && old q) = true ↔ _
          rw [q1, Bool.and_true, decide_eq_true_eq, q2]
        · constructor
          · intro h
            cases p with
            | none => cases h
            | some q =>
              have h : (decide (key q = key e) && old q) = true := h
              rw [q1 q rfl, Bool.and_false] at h; cases h
          · intro h
            exact absurd h (q2 e (List.mem_cons_self))
      have hnext : ∀ b', b' = key e → keepI key old gone b' r = keepS key old gone (some e) r := fun b' hb => keep_same klt hirr htr r (some e) b' hp2 (Or.inl ⟨e, rfl, ho, hb⟩)
      by_cases hb : b = key e
      · rw [if_pos hb, if_pos (by rw [hc.2 hb]; rfl)]
        exact hnext b hb
      · rw [if_neg hb]
        have hf : oldP key old p e = false := by
          cases h : oldP key old p e with
          | false => rfl
          | true => exact absurd (hc.1 h) hb
        rw [hf, Bool.false_or]
        by_cases hg : gone e = true
        · rw [if_pos hg, if_pos hg]
          exact hnext _ rfl
        · rw [if_neg hg, if_neg hg, hnext _ rfl]
    · rw [if_neg ho, if_neg ho]
      refine congrArg (e :: ·) (keep_same klt hirr htr r (some e) b hp2 (Or.inr ⟨fun q hq => by cases hq; simpa using ho, fun y hy hby => ?_⟩))
      rcases hI with ⟨q, rfl, q1, q2⟩ | ⟨q1, q2⟩
      · have hq := List.pairwise_cons.1 hp
        rcases hq.1 e (List.mem_cons_self) with h | ⟨_, h⟩
        · rcases her.1 y hy with h2 | ⟨h2, _⟩
          · have := htr _ _ _ h h2
            rw [← hby, q2] at this
            exact hirr _ this
          · rw [h2, ← hby, q2] at h
            exact hirr _ h
        · exact ho (h q1)
      · exact q2 y (List.mem_cons_of_mem _ hy) hby
end
end HM
/-! The order of a run's entries; the reference's sort and merge. -/
theorem lessE_iff (x y : S43) : lessE x y = true ↔ x.f0.toList < y.f0.toList ∨ (x.f0.toList = y.f0.toList ∧ x.f1 > y.f1) := by
  unfold lessE
  rw [Go.Proofs.bytesLess_eq, Bool.or_eq_true, Bool.and_eq_true, decide_eq_true_eq, decide_eq_true_eq, decide_eq_true_eq]
theorem ordE : HM.Ord lessE where
  irrefl x := by
    cases h : lessE x x with
    | false => rfl
    | true =>
      rcases (lessE_iff x x).1 h with h | ⟨_, h⟩
      · exact absurd h (List.lt_irrefl _)
      · omega
  trans x y z h1 h2 := by
    rw [lessE_iff] at *
    rcases h1 with h1 | ⟨h1, h3⟩
    · rcases h2 with h2 | ⟨h2, h4⟩
      · exact Or.inl (List.lt_trans h1 h2)
      · rw [← h2]; exact Or.inl h1
    · rcases h2 with h2 | ⟨h2, h4⟩
      · rw [h1]; exact Or.inl h2
      · exact Or.inr ⟨h1.trans h2, by omega⟩
  weak x y z h := by
    rw [lessE_iff] at *
    rw [lessE_iff]
    rcases h with h | ⟨h, h3⟩
    · rcases Std.lt_trichotomy (a := x.f0.toList) (b := y.f0.toList) with q | q | q
      · exact Or.inl (Or.inl q)
      · rw [q] at h; exact Or.inr (Or.inl h)
      · exact Or.inr (Or.inl (List.lt_trans q h))
    · rcases Std.lt_trichotomy (a := x.f0.toList) (b := y.f0.toList) with q | q | q
      · exact Or.inl (Or.inl q)
      · by_cases h4 : x.f1 > y.f1
        · exact Or.inl (Or.inr ⟨q, h4⟩)
        · exact Or.inr (Or.inr ⟨q.symm.trans h, by omega⟩)
      · rw [h] at q; exact Or.inr (Or.inl q)
theorem take_set_drop {α : Type} (out : List α) (w e : α) {j : Nat} (hj : j ≤ out.length) : (out.take j ++ w :: out.drop j).set j e = out.take j ++ e :: out.drop j := by
  rw [List.set_append_right _ _ (by rw [List.length_take]; omega), show j - (out.take j).length = 0 by rw [List.length_take]; omega]
  rfl
theorem sort_l2 (l out : List S43) (hout : out.length ≤ 1099511627776) (i : Nat) (hi : i < l.length) (hl : l.length ≤ 1099511627776) (p : Nat) (hp : p ≤ out.length) (res : List S43)
    (hc : Ev (fun k => spec_l08Sort.l0 k l (out.take p ++ l[i] :: out.drop p) ((i + 1 : Nat) : Int)) res) : ∀ (d j : Nat) (w : S43), j - p = d → p ≤ j → j ≤ out.length →
    Ev (fun k => spec_l08Sort.l2 k l (out.take j ++ w :: out.drop j) (i : Int) (p : Int) (j : Int)) res := by
  intro d
  induction d with
  | zero =>
    intro j w hd hpj hj
    have e : j = p := by omega
    subst e
    have hlen : (out.take j ++ w :: out.drop j).length = out.length + 1 := by rw [List.length_append, List.length_take, List.length_cons, List.length_drop]; omega
    refine Ev.step (fun k => ?_) hc
    rw [spec_l08Sort.l2, if_neg (by omega), if_pos (by omega), if_pos (by omega), if_pos (by omega), if_pos (by omega), rdi_RunEntry l i hi, Int.toNat_natCast, take_set_drop _ _ _ hj, wrap64_id (x := (i : Int) + 1) (by omega) (by omega)]
    rfl
  | succ d ih =>
    intro j w hd hpj hj
    have hlen : (out.take j ++ w :: out.drop j).length = out.length + 1 := by rw [List.length_append, List.length_take, List.length_cons, List.length_drop]; omega
    obtain ⟨q, rfl⟩ : ∃ q, j = q + 1 := ⟨j - 1, by omega⟩
    have hw : wrap64 (((q + 1 : Nat) : Int) - 1) = (q : Int) := by rw [wrap64_id (by omega) (by omega)]; omega
    have hg : rd_T43 (out.take (q + 1) ++ w :: out.drop (q + 1)) (q : Int) = out[q] := by
      rw [rdi_RunEntry _ q (by omega), List.getElem_append_left (by rw [List.length_take]; omega), List.getElem_take]
    have he : out.take (q + 1) ++ out[q] :: out.drop (q + 1) = out.take q ++ out[q] :: out.drop q := by
      rw [List.drop_eq_getElem_cons (show q < out.length by omega), List.take_add_one, List.getElem?_eq_getElem (show q < out.length by omega), List.append_assoc]
      rfl
    refine Ev.step (fun k => ?_) (ih q out[q] (by omega) (by omega) (by omega))
    rw [spec_l08Sort.l2, if_pos (by omega), hw, if_pos (by omega), if_pos (by omega), if_pos (by omega), if_pos (by omega), hg, Int.toNat_natCast, take_set_drop _ _ _ hj, ← he]
theorem sort_l1 (l out : List S43) (hout : out.length ≤ 1099511627776) (i : Nat) (hi : i < l.length) (hl : l.length ≤ 1099511627776) (hu : HM.UpW lessE out) (res : List S43)
    (hc : Ev (fun k => spec_l08Sort.l0 k l (HM.insB lessE l[i] out) ((i + 1 : Nat) : Int)) res) : ∀ (p : Nat), p ≤ out.length → (∀ h : p < out.length, lessE l[i] out[p] = true) →
    Ev (fun k => spec_l08Sort.l1 k l out (i : Int) (p : Int)) res := by
  have fin : ∀ (p : Nat), p ≤ out.length → (∀ h : p < out.length, lessE l[i] out[p] = true) → (∀ j (hj : j < p) (hj2 : j < out.length), lessE l[i] out[j] = false) →
      Ev (fun k => spec_l08Sort.j2 k l out (i : Int) (p : Int) false) res := by
    intro p hp h1 h2
    rw [HM.insB_at l[i] out p hp (fun j hj => h2 j hj (by omega)) h1] at hc
    have h3 := sort_l2 l out hout i hi hl p hp res hc (out.length - p) out.length ⟨(⟨#[]⟩ : ByteArray), 0, false, (⟨#[]⟩ : ByteArray)⟩ rfl hp (Nat.le_refl _)
    rw [List.take_length, List.drop_length] at h3
    refine Ev.step (fun k => ?_) h3
    rw [spec_l08Sort.j2, if_neg (by decide), if_pos (by omega), Option.bind_some, List.length_append, List.length_singleton, wrap64_id (by omega) (by omega)]
    rw [show ((out.length + 1 : Nat) : Int) - 1 = (out.length : Int) by omega]
  intro p
  induction p with
  | zero =>
    intro hp h1
    refine Ev.step (fun k => ?_) (fin 0 hp h1 (fun j hj => by omega))
    rw [spec_l08Sort.l1, if_neg (by omega)]
  | succ p ih =>
    intro hp h1
    have hw : wrap64 (((p + 1 : Nat) : Int) - 1) = (p : Int) := by rw [wrap64_id (by omega) (by omega)]; omega
    have hstep : ∀ k, spec_l08Sort.l1 (k + 1) l out (i : Int) ((p + 1 : Nat) : Int) = spec_l08Sort.j2 k l out (i : Int) ((p + 1 : Nat) : Int) (lessE l[i] out[p]) := fun k => by
      rw [spec_l08Sort.l1, if_pos (by omega), if_pos (by omega), if_pos (by omega), hw, if_pos (by omega), if_pos (by omega), rdi_RunEntry l i hi, rdi_RunEntry out p (by omega), spec_less, Option.bind_some]
    cases hq : lessE l[i] out[p] with
    | true =>
      rw [hq] at hstep
      refine Ev.step hstep (Ev.step (fun k => ?_) (ih (by omega) (fun _ => hq)))
      rw [spec_l08Sort.j2, if_pos rfl, hw]
    | false =>
      rw [hq] at hstep
      refine Ev.step hstep (fin (p + 1) hp h1 (fun j hj hj2 => ?_))
      by_cases e : j = p
      · subst e; exact hq
      · cases hz : lessE l[i] out[j] with
        | false => rfl
        | true =>
          have hpw := List.pairwise_iff_getElem.1 hu j p hj2 (by omega) (by omega)
          rcases ordE.weak _ out[p] _ hz with w | w
          · rw [hq] at w; cases w
          · rw [hpw] at w; cases w
theorem sort_l0 (l : List S43) (hl : l.length ≤ 1099511627776) : ∀ (d i : Nat) (out : List S43), l.length - i = d → i ≤ l.length → out.length = i → HM.UpW lessE out →
    Ev (fun k => spec_l08Sort.l0 k l out (i : Int)) (HM.sortB lessE (l.drop i) out) := by
  intro d
  induction d with
  | zero =>
    intro i out hd hi ho hu
    refine Ev.step (fun k => by rw [spec_l08Sort.l0, if_neg (by omega)]) (Ev.give ?_)
    rw [List.drop_eq_nil_of_le (by omega)]; rfl
  | succ d ih =>
    intro i out hd hi ho hu
    have hlt : i < l.length := by omega
    rw [List.drop_eq_getElem_cons hlt]
    have hn := ih (i + 1) (HM.insB lessE l[i] out) (by omega) (by omega) (by rw [HM.insB_len]; omega) (HM.insB_upW ordE hu)
    refine Ev.step (fun k => ?_) (sort_l1 l out (by omega) i hlt hl hu _ hn out.length (Nat.le_refl _) (fun h => absurd h (Nat.lt_irrefl _)))
    rw [spec_l08Sort.l0, if_pos (by omega)]
theorem sort_f (l : List S43) (hl : l.length ≤ 1099511627776) : Ev (fun k => spec_l08Sort.f k l) (HM.sortB lessE l []) := by
  have := sort_l0 l hl l.length 0 [] (by omega) (by omega) rfl List.Pairwise.nil
  exact Ev.congr (fun k => by rw [spec_l08Sort.f]; rfl) this
/-! What is left at the floor: the reference's loop and the program's. -/
def keyE (x : S43) : List UInt8 := x.f0.toList
def oldE (fl : Int) (x : S43) : Bool := decide (x.f1 ≤ fl)
def goneE (x : S43) : Bool := x.f2
def prevO (l : List S43) (i : Nat) : Option S43 := if i = 0 then none else l[i - 1]?
theorem prevO_succ (l : List S43) {i : Nat} (h : i < l.length) : prevO l (i + 1) = some l[i] := by
  unfold prevO
  rw [if_neg (by omega), Nat.add_sub_cancel, List.getElem?_eq_getElem h]
theorem smerge_l1 (fl : Int) (l : List S43) (hl : l.length ≤ 1099511627776) : ∀ (d i : Nat) (out : List S43), l.length - i = d → i ≤ l.length → out.length ≤ i →
    Ev (fun k => spec_l08Merge.l1 k fl l out (i : Int)) (out ++ HM.keepS keyE (oldE fl) goneE (prevO l i) (l.drop i)) := by
  intro d
  induction d with
  | zero =>
    intro i out hd hi ho
    refine Ev.step (fun k => by rw [spec_l08Merge.l1, if_neg (by omega)]) (Ev.give ?_)
    rw [List.drop_eq_nil_of_le (by omega)]
    simp [HM.keepS]
  | succ d ih =>
    intro i out hd hi ho
    have hlt : i < l.length := by omega
    have hw : wrap64 ((i : Int) + 1) = ((i + 1 : Nat) : Int) := by rw [wrap64_id (by omega) (by omega)]; rfl
    have hr := rdi_RunEntry l i hlt
    have ihp := prevO_succ l hlt
    rw [List.drop_eq_getElem_cons hlt]
    have hskip := ih (i + 1) out (by omega) (by omega) (by omega)
    have htake := ih (i + 1) (out ++ [l[i]]) (by omega) (by omega) (by rw [List.length_append, List.length_singleton]; omega)
    rw [ihp] at hskip htake
    have hlen : out.length < 2932031007402 := by omega
    have hi1 : (i : Int) < (l.length : Int) := by omega
    have hi0 : (0 : Int) ≤ (i : Int) := by omega
    have hprev : 0 < i → wrap64 ((i : Int) - 1) = ((i - 1 : Nat) : Int) := fun h => by rw [wrap64_id (by omega) (by omega)]; omega
    have hprev2 : 0 < i → prevO l i = some (l[i - 1]'(by omega)) := fun h => by unfold prevO; rw [if_neg (by omega), List.getElem?_eq_getElem (by omega)]
    have hi2 : 0 < i → (i : Int) > 0 ∧ ((0 : Int) ≤ ((i - 1 : Nat) : Int)) ∧ ((i - 1 : Nat) : Int) < (l.length : Int) := fun h => ⟨by omega, by omega, by omega⟩
    have hi3 : i = 0 → ¬ (i : Int) > 0 := fun h => by omega
    clear hd ho hl hi
    generalize he : l[i] = e at *
    generalize hx : l.drop (i + 1) = r at *
    have hj3 : ∀ b, Ev (fun k => spec_l08Merge.j3 k fl l out (i : Int) b e.f0 e.f1 e.f2 e.f3) (out ++ (if b = true then HM.keepS keyE (oldE fl) goneE (some e) r else e :: HM.keepS keyE (oldE fl) goneE (some e) r)) := by
      intro b
      cases b with
      | true => exact Ev.step (fun k => by rw [spec_l08Merge.j3, if_pos rfl, hw]) hskip
      | false =>
        refine Ev.step (fun k => by rw [spec_l08Merge.j3, if_neg (by decide), if_pos hlen, hw]) ?_
        rw [if_neg (by decide)]
        have := htake
        rw [List.append_assoc] at this
        exact this
    have hj2 : ∀ b, Ev (fun k => spec_l08Merge.j2 k fl l out (i : Int) b e.f0 e.f1 e.f2 e.f3) (out ++ (if (b || goneE e) = true then HM.keepS keyE (oldE fl) goneE (some e) r else e :: HM.keepS keyE (oldE fl) goneE (some e) r)) := by
      intro b
      cases b with
      | true => exact Ev.step (fun k => by rw [spec_l08Merge.j2, if_pos rfl]) (hj3 true)
      | false => exact Ev.step (fun k => by rw [spec_l08Merge.j2, if_neg (by decide)]) (hj3 e.f2)
    by_cases hold : e.f1 ≤ fl
    · have ho : oldE fl e = true := decide_eq_true hold
      have hk : HM.keepS keyE (oldE fl) goneE (prevO l i) (e :: r) = (if (HM.oldP keyE (oldE fl) (prevO l i) e || goneE e) = true then HM.keepS keyE (oldE fl) goneE (some e) r else e :: HM.keepS keyE (oldE fl) goneE (some e) r) := by
        rw [HM.keepS, if_pos ho]
      rw [hk]
      by_cases h0 : i = 0
      · have hp : prevO l i = none := by unfold prevO; rw [if_pos h0]
        rw [hp]
        refine Ev.step (fun k => ?_) (hj2 false)
        rw [spec_l08Merge.l1, if_pos hi1, if_pos hi0, hr, if_pos hold, if_neg (hi3 h0)]
      · have hpos : 0 < i := Nat.pos_of_ne_zero h0
        obtain ⟨g1, g2, g3⟩ := hi2 hpos
        rw [hprev2 hpos]
        have hr2 := rdi_RunEntry l (i - 1) (by have := g3; omega)
        refine Ev.step (fun k => ?_) (hj2 (HM.oldP keyE (oldE fl) (some l[i - 1]) e))
        rw [spec_l08Merge.l1, if_pos hi1, if_pos hi0, hr, if_pos hold, if_pos g1, hprev hpos, if_pos g2, if_pos g3, hr2]
        show _ = spec_l08Merge.j2 k fl l out (i : Int) (decide (keyE l[i - 1] = keyE e) && oldE fl l[i - 1]) e.f0 e.f1 e.f2 e.f3
        by_cases hkey : (l[i - 1]).f0.toList = e.f0.toList
        · rw [if_pos hkey, show decide (keyE l[i - 1] = keyE e) = true from decide_eq_true hkey, Bool.true_and]
          rfl
        · rw [if_neg hkey, show decide (keyE l[i - 1] = keyE e) = false from decide_eq_false hkey, Bool.false_and]
    · have ho : ¬ oldE fl e = true := by unfold oldE; rw [decide_eq_true_eq]; exact hold
      have hk : HM.keepS keyE (oldE fl) goneE (prevO l i) (e :: r) = e :: HM.keepS keyE (oldE fl) goneE (some e) r := by
        rw [HM.keepS, if_neg ho]
      rw [hk]
      refine Ev.step (fun k => by rw [spec_l08Merge.l1, if_pos hi1, if_pos hi0, hr, if_neg hold, if_pos hlen, hw]) ?_
      have := htake
      rw [List.append_assoc] at this
      exact this
theorem imerge_l1 (fl : Int) (l : List S43) (hl : l.length ≤ 1099511627776) : ∀ (d i : Nat) (b : ByteArray) (out : List S43), l.length - i = d → i ≤ l.length → out.length ≤ i →
    Ev (fun k => impl_MergeRuns.l1 k fl b l (l.length : Int) (i : Int) out) (out ++ HM.keepI keyE (oldE fl) goneE b.toList (l.drop i)) := by
  intro d
  induction d with
  | zero =>
    intro i b out hd hi ho
    refine Ev.step (fun k => by rw [impl_MergeRuns.l1, if_neg (by omega)]) (Ev.give ?_)
    rw [List.drop_eq_nil_of_le (by omega)]
    simp [HM.keepI]
  | succ d ih =>
    intro i b out hd hi ho
    have hlt : i < l.length := by omega
    have hw : wrap64 ((i : Int) + 1) = ((i + 1 : Nat) : Int) := by rw [wrap64_id (by omega) (by omega)]; rfl
    have hr := rdi_RunEntry l i hlt
    rw [List.drop_eq_getElem_cons hlt]
    have hskip := fun b => ih (i + 1) b out (by omega) (by omega) (by omega)
    have htake := fun b => ih (i + 1) b (out ++ [l[i]]) (by omega) (by omega) (by rw [List.length_append, List.length_singleton]; omega)
    have hlen : out.length < 2932031007402 := by omega
    have hi1 : (i : Int) < (l.length : Int) := by omega
    have hi0 : (0 : Int) ≤ (i : Int) := by omega
    clear hd ho hl hi
    generalize he : l[i] = e at *
    generalize hx : l.drop (i + 1) = r at *
    simp only [List.append_assoc, List.singleton_append] at htake
    rw [HM.keepI]
    by_cases hold : e.f1 > fl
    · have ho : ¬ oldE fl e = true := by unfold oldE; rw [decide_eq_true_eq]; omega
      rw [if_neg ho]
      exact Ev.step (fun k => by rw [impl_MergeRuns.l1, if_pos hi1, if_pos hi0, if_pos hi1, hr, if_pos hold, if_pos hlen, hw]) (htake b)
    · have ho : oldE fl e = true := by unfold oldE; rw [decide_eq_true_eq]; omega
      rw [if_pos ho]
      by_cases hb : b.toList = e.f0.toList
      · rw [if_pos (show b.toList = keyE e from hb)]
        exact Ev.step (fun k => by rw [impl_MergeRuns.l1, if_pos hi1, if_pos hi0, if_pos hi1, hr, if_neg hold, if_pos hb, hw]) (hskip b)
      · rw [if_neg (show ¬ b.toList = keyE e from hb)]
        by_cases hg : e.f2 = true
        · rw [if_pos (show goneE e = true from hg)]
          exact Ev.step (fun k => by rw [impl_MergeRuns.l1, if_pos hi1, if_pos hi0, if_pos hi1, hr, if_neg hold, if_neg hb, if_pos hg, hw]) (hskip e.f0)
        · rw [if_neg (show ¬ goneE e = true from hg)]
          exact Ev.step (fun k => by rw [impl_MergeRuns.l1, if_pos hi1, if_pos hi0, if_pos hi1, hr, if_neg hold, if_neg hb, if_neg hg, if_pos hlen, hw]) (htake e.f0)
theorem ba_toList (s : ByteArray) : s.toList = s.data.toList := by
  obtain ⟨⟨l⟩⟩ := s
  rw [show (ByteArray.mk { toList := l }) = ByteArray.mk l.toArray from rfl, ByteArray.toList_mk]
/-! MergeRuns: the reference's and the program's answer. -/
theorem runFrom_ok (l : List S43) : ∀ (d i : Nat), runFrom l d i = 0 → ∀ j, i ≤ j → j < i + d → badAt l j = false
  | 0, i, _, j, h1, h2 => by omega
  | d + 1, i, h, j, h1, h2 => by
    unfold runFrom at h
    by_cases hb : badAt l i = true
    · rw [if_pos hb] at h; cases h
    · rw [if_neg hb] at h
      by_cases e : j = i
      · rw [e]; simpa using hb
      · exact runFrom_ok l d (i + 1) h j (by omega) (by omega)
theorem runFault_ok {l : List S43} (h : runFault l = 0) : l.length ≤ 1000 ∧ l.Pairwise (fun a b => lessE a b = true) ∧ ∀ x ∈ l, x.f0.toList ≠ [] := by
  unfold runFault at h
  by_cases hl : (l.length : Int) > 1000
  · rw [if_pos hl] at h; cases h
  · rw [if_neg hl] at h
    have hbad := runFrom_ok l l.length 0 h
    have hat : ∀ i (hi : i < l.length), enAt l i = l[i] := fun i hi => rdi_RunEntry l i hi
    have hadj : ∀ i (hi : i + 1 < l.length), lessE l[i] l[i + 1] = true := by
      intro i hi
      have := hbad (i + 1) (by omega) (by omega)
      unfold badAt prevBad at this
      rw [Bool.or_eq_false_iff, Bool.or_eq_false_iff, decide_eq_true (show 0 < i + 1 by omega), Bool.true_and, Nat.add_sub_cancel, hat i (by omega), hat (i + 1) hi] at this
      simpa using this.1.2
    refine ⟨by omega, ?_, ?_⟩
    · rw [List.pairwise_iff_getElem]
      intro i j hi hj hij
      obtain ⟨d, rfl⟩ : ∃ d, j = i + d + 1 := ⟨j - i - 1, by omega⟩
      clear hij
      induction d with
      | zero => exact hadj i hj
      | succ d ih => exact ordE.trans _ _ _ (ih (by omega)) (hadj (i + d + 1) hj)
    · intro x hx
      obtain ⟨i, hi, rfl⟩ := List.getElem_of_mem hx
      have := hbad i (by omega) (by omega)
      unfold badAt at this
      rw [Bool.or_eq_false_iff, Bool.or_eq_false_iff, hat i hi] at this
      have h1 := this.1.1
      unfold headBad at h1
      rw [decide_eq_false_iff_not] at h1
      intro e
      refine h1 (Or.inl ?_)
      have : l[i].f0.size = 0 := by
        have h2 : l[i].f0.toList.length = 0 := by rw [e]; rfl
        rw [ba_toList] at h2
        simpa using h2
      omega
/-- All entries of runs, one run behind the other. -/
def allE (rs : List S26) : List S43 := (rs.map (·.f0)).flatten
def mergeRes (rs : List S26) (fl : Int) : List S43 := HM.keepS keyE (oldE fl) goneE none (HM.sortB lessE (allE rs) [])
theorem sortB_mem : ∀ (l acc : List S43) (x : S43), x ∈ HM.sortB lessE l acc ↔ x ∈ l ∨ x ∈ acc
  | [], acc, x => by simp [HM.sortB]
  | y :: r, acc, x => by
    rw [HM.sortB, sortB_mem r, HM.insB_mem, List.mem_cons]
    constructor
    · rintro (h | h | h)
      · exact Or.inl (Or.inr h)
      · exact Or.inl (Or.inl h)
      · exact Or.inr h
    · rintro ((h | h) | h)
      · exact Or.inr (Or.inl h)
      · exact Or.inl h
      · exact Or.inr (Or.inr h)
theorem sortB_upW : ∀ (l acc : List S43), HM.UpW lessE acc → HM.UpW lessE (HM.sortB lessE l acc)
  | [], _, h => h
  | y :: r, acc, h => by rw [HM.sortB]; exact sortB_upW r _ (HM.insB_upW ordE h)
theorem sortB_len : ∀ (l acc : List S43), (HM.sortB lessE l acc).length = l.length + acc.length
  | [], acc => by simp [HM.sortB]
  | y :: r, acc => by rw [HM.sortB, sortB_len r, HM.insB_len, List.length_cons]; omega
theorem keep_both (fl : Int) (l : List S43) (hne : ∀ x ∈ l, x.f0.toList ≠ []) : HM.keepI keyE (oldE fl) goneE (⟨#[]⟩ : ByteArray).toList (HM.sortB lessE l []) = HM.keepS keyE (oldE fl) goneE none (HM.sortB lessE l []) := by
  refine HM.keep_same keyE (oldE fl) goneE (fun a b => a < b) (fun a => List.lt_irrefl a) (fun a b c h1 h2 => List.lt_trans h1 h2) _ none _ ?_ (Or.inr ⟨fun q h => (by cases h), fun e he => ?_⟩)
  · show (HM.sortB lessE l []).Pairwise _
    refine (sortB_upW l [] List.Pairwise.nil).imp (fun {a b} h => ?_)
    have hn : ¬ lessE b a = true := by rw [h]; decide
    rw [lessE_iff] at hn
    rcases Std.lt_trichotomy (a := a.f0.toList) (b := b.f0.toList) with q | q | q
    · exact Or.inl q
    · refine Or.inr ⟨q, fun ho => ?_⟩
      unfold oldE at ho ⊢
      rw [decide_eq_true_eq] at ho ⊢
      have : ¬ b.f1 > a.f1 := fun hh => hn (Or.inr ⟨q.symm, hh⟩)
      omega
    · exact absurd (Or.inl q) hn
  · have := hne e (((sortB_mem l [] e).1 he).resolve_right (by simp))
    intro q
    exact this (q.symm.trans (by rw [ba_toList]))
theorem rdi_SortedRun (l : List S26) (i : Nat) (h : i < l.length) : rd_T26 l (i : Int) = l[i] := by
  unfold rd_T26
  rw [Int.toNat_natCast, List.getD_eq_getElem?_getD, List.getElem?_eq_getElem h]; rfl
theorem allE_take (rs : List S26) {i : Nat} (h : i < rs.length) : allE (rs.take (i + 1)) = allE (rs.take i) ++ rs[i].f0 := by
  unfold allE
  rw [List.take_add_one, List.getElem?_eq_getElem h]
  simp only [Option.toList, List.map_append, List.flatten_append, List.map_cons, List.map_nil, List.flatten_cons, List.flatten_nil, List.append_nil]
theorem allE_le (rs : List S26) (i : Nat) : (allE (rs.take i)).length ≤ (allE rs).length := by
  have : allE rs = allE (rs.take i) ++ allE (rs.drop i) := by
    unfold allE
    rw [← List.flatten_append, ← List.map_append, List.take_append_drop]
  rw [this, List.length_append]; omega
theorem smerge_l0 (fl : Int) (rs : List S26) (hn : rs.length ≤ 1099511627776) (ht : (allE rs).length ≤ 1099511627776) : ∀ (d i : Nat), rs.length - i = d → i ≤ rs.length →
    Ev (fun k => spec_l08Merge.l0 k rs fl (allE (rs.take i)) (i : Int)) (mergeRes rs fl) := by
  intro d
  induction d with
  | zero =>
    intro i hd hi
    rw [List.take_of_length_le (by omega)]
    refine Ev.step (fun k => by rw [spec_l08Merge.l0, if_neg (by omega)]) (Ev.bind (sort_f _ ht) ?_)
    have := smerge_l1 fl (HM.sortB lessE (allE rs) []) (by rw [sortB_len]; simpa using ht) _ 0 [] rfl (by omega) (by simp)
    exact this
  | succ d ih =>
    intro i hd hi
    have hlt : i < rs.length := by omega
    have h1 := allE_le rs i
    have h2 := allE_le rs (i + 1)
    have h3 := allE_take rs hlt
    rw [h3, List.length_append] at h2
    have hn1 := ih (i + 1) (by omega) (by omega)
    rw [h3] at hn1
    refine Ev.step (fun k => ?_) hn1
    rw [spec_l08Merge.l0, if_pos (by omega), if_pos (by omega), rdi_SortedRun rs i hlt, if_pos (by omega), wrap64_id (x := (i : Int) + 1) (by omega) (by omega)]
    rfl
theorem smerge_f (fl : Int) (rs : List S26) (hn : rs.length ≤ 1099511627776) (ht : (allE rs).length ≤ 1099511627776) : Ev (fun k => spec_l08Merge.f k rs fl) (mergeRes rs fl) :=
  Ev.congr (fun k => by rw [spec_l08Merge.f]; rfl) (smerge_l0 fl rs hn ht rs.length 0 (by omega) (by omega))
theorem imerged_f (rs : List S26) (hn : rs.length ≤ 1099511627776) (ht : (allE rs).length ≤ 1099511627776) (hok : ∀ r ∈ rs, runFault r.f0 = 0) : impl_merged.f rs = some (HM.sortB lessE (allE rs) []) := by
  unfold impl_merged.f
  rw [if_pos ⟨ht, hn⟩]
  refine congrArg some ?_
  exact HM.merged_sort ordE z43 (rs.map (·.f0)) (fun r hr => by
    obtain ⟨q, hq, rfl⟩ := List.mem_map.1 hr
    exact (runFault_ok (hok q hq)).2.1) _ (Nat.le_refl _)
def okR (r : S26) : Bool := decide (runFault r.f0 = 0)
def answer (rs : List S26) (fl : Int) : List S43 := if rs.length ≤ 20 ∧ rs.all okR = true ∧ (allE rs).length ≤ 1000 then mergeRes rs fl else []
theorem smr_l0 (fl : Int) (rs : List S26) (hn : rs.length ≤ 20) (ht : (allE rs).length ≤ 1099511627776) : ∀ (d i : Nat), rs.length - i = d → i ≤ rs.length → (∀ r ∈ rs.take i, okR r = true) →
    Ev (fun k => spec_MergeRuns.l0 k rs fl ((allE (rs.take i)).length : Int) (i : Int)) (answer rs fl) := by
  intro d
  induction d with
  | zero =>
    intro i hd hi hok
    rw [List.take_of_length_le (by omega)] at hok ⊢
    have ha : rs.all okR = true := List.all_eq_true.2 hok
    refine Ev.step (fun k => by rw [spec_MergeRuns.l0, if_neg (by omega)]) ?_
    unfold answer
    by_cases h : ((allE rs).length : Int) > 1000
    · rw [if_neg (fun q => by have := q.2.2; omega)]
      exact Ev.pos h (Ev.now _)
    · rw [if_pos ⟨hn, ha, by omega⟩]
      exact Ev.neg h (Ev.bind (smerge_f fl rs (by omega) ht) (Ev.now _))
  | succ d ih =>
    intro i hd hi hok
    have hlt : i < rs.length := by omega
    have h1 := allE_le rs (i + 1)
    have h3 := allE_take rs hlt
    refine Ev.step (fun k => by rw [spec_MergeRuns.l0, if_pos (by omega), if_pos (by omega), rdi_SortedRun rs i hlt]) (Ev.bind (spec_runFault _) ?_)
    by_cases hf : runFault rs[i].f0 = 0
    · refine Ev.pos hf ?_
      have hn1 := ih (i + 1) (by omega) (by omega) (fun r hr => by
        rw [List.take_add_one, List.getElem?_eq_getElem hlt] at hr
        rcases List.mem_append.1 hr with hr | hr
        · exact hok r hr
        · have : r = rs[i] := by simpa using hr
          rw [this]; exact decide_eq_true hf)
      rw [h3, List.length_append] at hn1 h1
      rw [wrap64_id (x := ((allE (rs.take i)).length : Int) + (rs[i].f0.length : Int)) (by omega) (by omega), wrap64_id (x := (i : Int) + 1) (by omega) (by omega)]
      exact hn1
    · refine Ev.neg hf (Ev.give ?_)
      unfold answer
      rw [if_neg]
      intro q
      have := List.all_eq_true.1 q.2.1 rs[i] (List.getElem_mem hlt)
      exact hf (of_decide_eq_true this)
theorem smr_f (fl : Int) (rs : List S26) (ht : (allE rs).length ≤ 1099511627776) : Ev (fun k => spec_MergeRuns.f k rs fl) (answer rs fl) := by
  by_cases h : (rs.length : Int) > 20
  · refine Ev.congr (fun k => by rw [spec_MergeRuns.f]) (Ev.pos h (Ev.give ?_))
    unfold answer
    rw [if_neg (fun q => by have := q.1; omega)]
  · refine Ev.congr (fun k => by rw [spec_MergeRuns.f]) (Ev.neg h ?_)
    exact smr_l0 fl rs (by omega) ht rs.length 0 (by omega) (by omega) (by simp)
theorem imr_l0 (fl : Int) (rs : List S26) (hn : rs.length ≤ 1099511627776) (ht : (allE rs).length ≤ 1099511627776) (hx : ∀ r ∈ rs, ∀ x ∈ r.f0, (Lit.int .i64 x.f1).wf = true) : ∀ (d i : Nat), rs.length - i = d → i ≤ rs.length → (∀ r ∈ rs.take i, okR r = true) →
    Ev (fun k => impl_MergeRuns.l0 k rs fl ((allE (rs.take i)).length : Int) rs (rs.length : Int) (i : Int)) (answer rs fl) := by
  intro d
  induction d with
  | zero =>
    intro i hd hi hok
    rw [List.take_of_length_le (by omega)] at hok ⊢
    have ha : rs.all okR = true := List.all_eq_true.2 hok
    have hok2 : ∀ r ∈ rs, runFault r.f0 = 0 := fun r hr => of_decide_eq_true (hok r hr)
    refine Ev.step (fun k => by rw [impl_MergeRuns.l0, if_neg (by omega)]) ?_
    unfold answer
    by_cases h20 : (rs.length : Int) > 20
    · rw [if_neg (fun q => by have := q.1; omega)]
      exact Ev.pos h20 (Ev.step (fun k => by rw [impl_MergeRuns.j1, if_pos rfl]) (Ev.now _))
    · refine Ev.neg h20 ?_
      by_cases h : ((allE rs).length : Int) > 1000
      · rw [if_neg (fun q => by have := q.2.2; omega)]
        exact Ev.step (fun k => by rw [impl_MergeRuns.j1, if_pos (decide_eq_true h)]) (Ev.now _)
      · rw [if_pos ⟨by omega, ha, by omega⟩]
        refine Ev.step (fun k => by rw [impl_MergeRuns.j1, if_neg (by rw [decide_eq_true_eq]; exact h), imerged_f rs hn ht hok2, Option.bind_some]) ?_
        have h1 := imerge_l1 fl (HM.sortB lessE (allE rs) []) (by rw [sortB_len]; simpa using ht) _ 0 (⟨#[]⟩ : ByteArray) [] rfl (by omega) (by simp)
        rw [List.drop_zero, keep_both fl (allE rs) (fun x hx => by
          obtain ⟨l, hl, hxl⟩ := List.mem_flatten.1 hx
          obtain ⟨r, hr, rfl⟩ := List.mem_map.1 hl
          exact (runFault_ok (hok2 r hr)).2.2 x hxl)] at h1
        exact h1
  | succ d ih =>
    intro i hd hi hok
    have hlt : i < rs.length := by omega
    have h1 := allE_le rs (i + 1)
    have h3 := allE_take rs hlt
    have hxi : ∀ j, j < rs[i].f0.length → (Lit.int .i64 (enAt rs[i].f0 j).f1).wf = true := fun j hj => by
      have e : enAt rs[i].f0 j = rs[i].f0[j] := rdi_RunEntry rs[i].f0 j hj
      rw [e]
      exact hx rs[i] (List.getElem_mem hlt) _ (List.getElem_mem hj)
    refine Ev.step (fun k => by rw [impl_MergeRuns.l0, if_pos (by omega), if_pos (by omega), if_pos (by omega), rdi_SortedRun rs i hlt]) (Ev.bind (impl_runFault _ hxi) ?_)
    by_cases hf : runFault rs[i].f0 = 0
    · refine Ev.pos hf ?_
      have hn1 := ih (i + 1) (by omega) (by omega) (fun r hr => by
        rw [List.take_add_one, List.getElem?_eq_getElem hlt] at hr
        rcases List.mem_append.1 hr with hr | hr
        · exact hok r hr
        · have : r = rs[i] := by simpa using hr
          rw [this]; exact decide_eq_true hf)
      rw [h3, List.length_append] at hn1 h1
      rw [wrap64_id (x := ((allE (rs.take i)).length : Int) + (rs[i].f0.length : Int)) (by omega) (by omega), wrap64_id (x := (i : Int) + 1) (by omega) (by omega)]
      exact hn1
    · refine Ev.neg hf (Ev.give ?_)
      unfold answer
      rw [if_neg]
      intro q
      have := List.all_eq_true.1 q.2.1 rs[i] (List.getElem_mem hlt)
      exact hf (of_decide_eq_true this)
theorem imr_f (fl : Int) (rs : List S26) (hn : rs.length ≤ 1099511627776) (ht : (allE rs).length ≤ 1099511627776) (hx : ∀ r ∈ rs, ∀ x ∈ r.f0, (Lit.int .i64 x.f1).wf = true) : Ev (fun k => impl_MergeRuns.f k rs fl) (answer rs fl) :=
  Ev.congr (fun k => by rw [impl_MergeRuns.f]; rfl) (imr_l0 fl rs hn ht hx rs.length 0 (by omega) (by omega) (by simp))
/-! Texts that mark places: written over and read again. -/
theorem strOf1 (x : Int) : (strOfNums [x]).size = 1 := by rw [size_strOfNums]; rfl
theorem markText_l0 : ∀ (d n : Nat) (t : ByteArray), n < 10 ^ d → n < 9223372036854775808 → t.size + d ≤ 1000 → ∃ r, Ev (fun k => laws_markText.l0 k (n : Int) t) r := by
  intro d
  induction d with
  | zero =>
    intro n t hn _ ht
    have e : n = 0 := by omega
    subst e
    exact ⟨_, Ev.step (fun k => by rw [laws_markText.l0, if_neg (by omega), if_pos (by omega)]) (Ev.now _)⟩
  | succ d ih =>
    intro n t hn hb ht
    by_cases h0 : n = 0
    · subst h0
      exact ⟨_, Ev.step (fun k => by rw [laws_markText.l0, if_neg (by omega), if_pos (by omega)]) (Ev.now _)⟩
    · have e : Int.tdiv (n : Int) 10 = ((n / 10 : Nat) : Int) := rfl
      have h10 : n / 10 < 10 ^ d := by rw [Nat.pow_succ] at hn; exact Nat.div_lt_of_lt_mul (by omega)
      obtain ⟨r, hr⟩ := ih (n / 10) ((strOfNums [(wrap64 (48 + (Int.tmod (n : Int) 10))) % 256]) ++ t) h10 (by omega) (by rw [ByteArray.size_append, strOf1]; omega)
      refine ⟨r, Ev.step (fun k => by rw [laws_markText.l0, if_pos (by omega), Option.bind_some, if_pos (by rw [strOf1]; omega), e, wrap64_id (x := ((n / 10 : Nat) : Int)) (by omega) (by omega)]) hr⟩
theorem markText_some (n : Nat) (hn : n < 9223372036854775808) : ∃ r, Ev (fun k => laws_markText.f k (n : Int)) r := by
  by_cases h0 : n = 0
  · subst h0
    exact ⟨_, Ev.congr (fun k => by rw [laws_markText.f, if_pos (by omega)]) (Ev.now _)⟩
  · obtain ⟨r, hr⟩ := markText_l0 19 n ⟨#[]⟩ (by omega) hn (by decide)
    exact ⟨r, Ev.congr (fun k => by rw [laws_markText.f, if_neg (by omega)]) hr⟩
theorem markText_all : ∃ T : Nat → ByteArray, ∀ n : Nat, n < 9223372036854775808 → Ev (fun k => laws_markText.f k (n : Int)) (T n) := by
  refine ⟨fun n => if h : n < 9223372036854775808 then Classical.choose (markText_some n h) else ByteArray.empty, fun n hn => ?_⟩
  simp only [dif_pos hn]
  exact Classical.choose_spec (markText_some n hn)
/-! Marks in a run's entries, and that they are still there. -/
def markE (T : Nat → ByteArray) (n : Nat) : S43 := ⟨T n, ((n + 1 : Nat) : Int), (Int.tmod ((n + 2 : Nat) : Int) 3) == 0, T (n + 3)⟩
def markRE (T : Nat → ByteArray) (a n : Nat) : List S43 := (List.range n).map fun i => markE T (a + 4 * i)
theorem markRE_length (T : Nat → ByteArray) (a n : Nat) : (markRE T a n).length = n := by simp [markRE]
theorem markRE_succ (T : Nat → ByteArray) (a n : Nat) : markRE T a (n + 1) = markRE T a n ++ [markE T (a + 4 * n)] := by unfold markRE; rw [List.range_succ, List.map_append]; rfl
theorem rdE_set (l : List S43) {i : Nat} (h : i < l.length) (e : S43) : rd_T43 (l.set i e) (i : Int) = e := by
  rw [rdi_RunEntry _ i (by rw [List.length_set]; exact h), List.getElem_set_self]
theorem set_at_drop {α : Type} (M l : List α) {i : Nat} (hM : M.length = i) (hi : i < l.length) (e : α) : (M ++ l.drop i).set i e = (M ++ [e]) ++ l.drop (i + 1) := by
  rw [List.set_append_right _ _ (by omega), List.drop_eq_getElem_cons hi, show i - M.length = 0 by omega, List.append_assoc]
  rfl
theorem w4 (n : Nat) (h : n ≤ 4000000000000000) : wrap64 ((n : Int) + 1) = ((n + 1 : Nat) : Int) := by rw [wrap64_id (by omega) (by omega)]; rfl
section
variable {T : Nat → ByteArray} (hT : ∀ n : Nat, n < 9223372036854775808 → Ev (fun k => laws_markText.f k (n : Int)) (T n))
include hT
theorem markRunEntryS_l0 (l : List S43) (hl : l.length ≤ 1099511627776) (a : Nat) (ha : a ≤ 9000000000000) : ∀ (d i : Nat), l.length - i = d → i ≤ l.length →
    Ev (fun k => laws_markRunEntryS.l0 k (markRE T a i ++ l.drop i) ((a + 4 * i : Nat) : Int) (i : Int)) (((a + 4 * l.length : Nat) : Int), markRE T a l.length) := by
  intro d
  induction d with
  | zero =>
    intro i hd hi
    have e : i = l.length := by omega
    subst e
    have hlen := markRE_length T a l.length
    rw [List.drop_length, List.append_nil]
    exact Ev.step (fun k => by rw [laws_markRunEntryS.l0, if_neg (by omega)]) (Ev.now _)
  | succ d ih =>
    intro i hd hi
    have hlt : i < l.length := by omega
    have hM := markRE_length T a i
    have hlen : (markRE T a i ++ l.drop i).length = l.length := by rw [List.length_append, hM, List.length_drop]; omega
    have hn := ih (i + 1) (by omega) (by omega)
    rw [markRE_succ, ← set_at_drop (markRE T a i) l hM hlt] at hn
    generalize hx : markRE T a i ++ l.drop i = x at hn hlen ⊢
    have hxi : i < x.length := by omega
    generalize hm : a + 4 * i = m at hn ⊢
    have hm4 : a + 4 * (i + 1) = m + 4 := by omega
    rw [hm4] at hn
    refine Ev.step (fun k => by rw [laws_markRunEntryS.l0, if_pos (by omega)]) (Ev.bind (hT m (by omega)) ?_)
    refine Ev.pos (show (0 : Int) ≤ (i : Int) by omega) ?_
    refine Ev.bindS rfl ?_
    refine Ev.bindS rfl ?_
    refine Ev.bindS rfl ?_
    simp only [Int.toNat_natCast, List.set_set, rdE_set x hxi]
    rw [w4 m (by omega), w4 (m + 1) (by omega), w4 (m + 1 + 1) (by omega), w4 (m + 1 + 1 + 1) (by omega), w4 i (by omega)]
    refine Ev.bind (hT (m + 3) (by omega)) ?_
    try rw [List.set_set]
    exact hn
theorem markRunEntryS (l : List S43) (hl : l.length ≤ 1099511627776) (a : Nat) (ha : a ≤ 9000000000000) : Ev (fun k => laws_markRunEntryS.f k l (a : Int)) (((a + 4 * l.length : Nat) : Int), markRE T a l.length) :=
  Ev.congr (fun k => by rw [laws_markRunEntryS.f]; rfl) (markRunEntryS_l0 hT l hl a ha l.length 0 (by omega) (by omega))
theorem heldRunEntryS_l0 (n : Nat) (hn : n ≤ 1099511627776) (a : Nat) (ha : a ≤ 9000000000000) : ∀ (d i : Nat), n - i = d → i ≤ n →
    Ev (fun k => laws_heldRunEntryS.l0 k (markRE T a n) ((a + 4 * i : Nat) : Int) (i : Int)) ((a + 4 * n : Nat) : Int) := by
  intro d
  induction d with
  | zero =>
    intro i hd hi
    have e : i = n := by omega
    subst e
    have hlen := markRE_length T a i
    exact Ev.step (fun k => by rw [laws_heldRunEntryS.l0, if_neg (by omega)]) (Ev.now _)
  | succ d ih =>
    intro i hd hi
    have hlt : i < n := by omega
    have hlen := markRE_length T a n
    have hr : rd_T43 (markRE T a n) (i : Int) = markE T (a + 4 * i) := by
      rw [rdi_RunEntry _ i (by omega)]
      simp [markRE]
    have hn1 := ih (i + 1) (by omega) (by omega)
    generalize hm : a + 4 * i = m at hr ⊢
    have hm4 : a + 4 * (i + 1) = m + 4 := by omega
    rw [hm4] at hn1
    have hmb : m ≤ 18000000000000 := by omega
    have q1 : (i : Int) < ((markRE T a n).length : Int) := by omega
    have q2 : (0 : Int) ≤ (i : Int) := by omega
    have qi := w4 i (by omega)
    refine Ev.step (fun k => by rw [laws_heldRunEntryS.l0, if_pos q1, if_pos q2, hr, w4 m (by omega), w4 (m + 1) (by omega), w4 (m + 1 + 1) (by omega), w4 (m + 1 + 1 + 1) (by omega), qi]) ?_
    refine Ev.bind (hT m (by omega)) ?_
    refine Ev.pos (show (markE T m).f0.toList = (T m).toList from rfl) ?_
    refine Ev.pos (show (markE T m).f1 = ((m + 1 : Nat) : Int) from rfl) ?_
    refine Ev.neg (show ¬ ((markE T m).f2 != (Int.tmod ((m + 1 + 1 : Nat) : Int) 3 == 0)) = true by rw [show (markE T m).f2 = (Int.tmod ((m + 1 + 1 : Nat) : Int) 3 == 0) from rfl]; simp) ?_
    refine Ev.bind (hT (m + 3) (by omega)) ?_
    exact Ev.pos (show (markE T m).f3.toList = (T (m + 3)).toList from rfl) hn1
theorem heldRunEntryS (n : Nat) (hn : n ≤ 1099511627776) (a : Nat) (ha : a ≤ 9000000000000) : Ev (fun k => laws_heldRunEntryS.f k (markRE T a n) (a : Int)) ((a + 4 * n : Nat) : Int) :=
  Ev.congr (fun k => by rw [laws_heldRunEntryS.f]; rfl) (heldRunEntryS_l0 hT n hn a ha n 0 (by omega) (by omega))
theorem markSortedRunS_l0 (rs : List S26) (hrs : rs.length ≤ 1099511627776) (ht : (allE rs).length ≤ 1099511627776) : ∀ (d i : Nat) (M : List S26) (a : Nat), rs.length - i = d → i ≤ rs.length → M.length = i → a + 4 * (allE (rs.drop i)).length ≤ 9000000000000 →
    ∃ (b : Nat) (res : List S26), Ev (fun k => laws_markSortedRunS.l0 k (M ++ rs.drop i) (a : Int) (i : Int)) ((b : Int), res) := by
  intro d
  induction d with
  | zero =>
    intro i M a hd hi hM ha
    have hl : (M ++ rs.drop i).length = i := by rw [List.length_append, List.length_drop]; omega
    exact ⟨a, _, Ev.step (fun k => by rw [laws_markSortedRunS.l0, if_neg (by omega)]) (Ev.now _)⟩
  | succ d ih =>
    intro i M a hd hi hM ha
    have hlt : i < rs.length := by omega
    have hl : (M ++ rs.drop i).length = rs.length := by rw [List.length_append, List.length_drop]; omega
    have hr : rd_T26 (M ++ rs.drop i) (i : Int) = rs[i] := by
      rw [rdi_SortedRun _ i (by omega), List.getElem_append_right (by omega), List.getElem_drop]
      congr 1
      omega
    have h2 : (allE (rs.drop i)).length = rs[i].f0.length + (allE (rs.drop (i + 1))).length := by
      rw [List.drop_eq_getElem_cons hlt]
      simp only [allE, List.map_cons, List.flatten_cons, List.length_append]
    rw [h2] at ha
    have h3 : (allE (rs.drop i)).length ≤ (allE rs).length := by
      have : allE rs = allE (rs.take i) ++ allE (rs.drop i) := by
        unfold allE
        rw [← List.flatten_append, ← List.map_append, List.take_append_drop]
      rw [this, List.length_append]; omega
    have hmk := markRunEntryS hT rs[i].f0 (by omega) a (by omega)
    obtain ⟨b, res, hb⟩ := ih (i + 1) (M ++ [⟨markRE T a rs[i].f0.length⟩]) (a + 4 * rs[i].f0.length) (by omega) (by omega) (by rw [List.length_append, hM]; rfl) (by omega)
    refine ⟨b, res, Ev.step (fun k => by rw [laws_markSortedRunS.l0, if_pos (by omega), if_pos (by omega), hr]) (Ev.bind hmk ?_)⟩
    rw [Int.toNat_natCast, set_at_drop M rs hM hlt, w4 i (by omega)]
    exact hb
theorem markSortedRunS (rs : List S26) (hrs : rs.length ≤ 1099511627776) (ht : (allE rs).length ≤ 1099511627776) : ∃ (b : Nat) (res : List S26), Ev (fun k => laws_markSortedRunS.f k rs 1) ((b : Int), res) := by
  obtain ⟨b, res, h⟩ := markSortedRunS_l0 hT rs hrs ht rs.length 0 [] 1 (by omega) (by omega) rfl (by rw [List.drop_zero]; omega)
  exact ⟨b, res, Ev.congr (fun k => by rw [laws_markSortedRunS.f]; rfl) h⟩
end
/-! A law's copies of a list of SortedRun: sizes, copies, comparisons. -/
def okRun (n : Nat) (l : List S66) : Prop := l.length ≤ n ∧ ∀ x ∈ l, x.f0.size ≤ n ∧ x.f3.size ≤ n
def sortedOf (x : S38) : S26 := ⟨x.f0.map runEntryOf⟩
theorem rdl_Sorted (l : List S38) (i : Nat) (h : i < l.length) : rd_T38 l (i : Int) = l[i] := by
  unfold rd_T38; rw [Int.toNat_natCast, List.getD_eq_getElem?_getD, List.getElem?_eq_getElem h]; rfl
theorem rdi_Sorted (l : List S26) (i : Nat) (h : i < l.length) : rd_T26 l (i : Int) = l[i] := by
  unfold rd_T26; rw [Int.toNat_natCast, List.getD_eq_getElem?_getD, List.getElem?_eq_getElem h]; rfl
theorem sz_Sorted (l : List S66) (left : Int) (h0 : 0 ≤ left) (h1 : left ≤ 1048576) (g : okRun 9223372036854775807 l) :
    ∃ r, Ev (fun k => laws_szSortedRun.f k l left) r ∧ (0 ≤ r → r ≤ left ∧ okRun 1048576 l) := by
  obtain ⟨r1, e1, b1⟩ := szRunEntryS l left g.1 g.2 h0 h1
  by_cases n1 : r1 < 0
  · exact ⟨-1, Ev.congr (fun k => by rw [laws_szSortedRun.f]) (Ev.bind e1 (Ev.pos n1 (Ev.now _))), fun h => by omega⟩
  · have q1 := b1 (by omega)
    exact ⟨r1, Ev.congr (fun k => by rw [laws_szSortedRun.f]) (Ev.bind e1 (Ev.neg n1 (Ev.now _))), fun h => ⟨q1.1, q1.2.1, q1.2.2⟩⟩
theorem to_Sorted (l : List S66) (hl : l.length ≤ 1048576) : Ev (fun k => laws_toSortedRun.f k l) (l.map runEntryOf) :=
  Ev.congr (fun k => by rw [laws_toSortedRun.f]) (Ev.bind (toRunEntryS l hl) (Ev.now _))
theorem eq_Sorted (l : List S43) (hl : l.length ≤ 1048576) : Ev (fun k => laws_eqSortedRun.f k l l) true :=
  Ev.congr (fun k => by rw [laws_eqSortedRun.f]) (Ev.bind (eqRunEntryS _ hl) (Ev.pos rfl (Ev.now _)))
theorem toSortedS_l0 (l : List S38) (hl : l.length ≤ 1048576) (hg : ∀ x ∈ l, okRun 1048576 x.f0) : ∀ (d i : Nat), l.length - i = d → i ≤ l.length →
    Ev (fun k => laws_toSortedRunS.l0 k l ((l.take i).map sortedOf ++ List.replicate (l.length - i) z26) (i : Int)) (l.map sortedOf) := by
  intro d
  induction d with
  | zero =>
    intro i hd hi
    have : i = l.length := by omega
    subst this
    refine Ev.step (fun k => by rw [laws_toSortedRunS.l0, if_neg (by omega)]) (Ev.give ?_)
    simp
  | succ d ih =>
    intro i hd hi
    have hlt : i < l.length := by omega
    have hx : l[i]? = some l[i] := List.getElem?_eq_getElem hlt
    have hr := rdl_Sorted l i hlt
    have hw : wrap64 ((i : Int) + 1) = ((i + 1 : Nat) : Int) := by rw [wrap64_id (by omega) (by omega)]; rfl
    have hs := set_prefix sortedOf z26 l i hlt l[i] hx
    refine Ev.step (fun k => by rw [laws_toSortedRunS.l0, if_pos (by omega), if_pos (by omega), hr]) ?_
    refine Ev.bind (to_Sorted l[i].f0 (hg _ (List.getElem_mem hlt)).1) (Ev.congr (fun k => by rw [if_pos (by simp; omega), Int.toNat_natCast, hw]) ?_)
    have q := ih (i + 1) (by omega) (by omega)
    rw [← hs] at q
    exact q
theorem toSortedS (l : List S38) (hl : l.length ≤ 1048576) (hg : ∀ x ∈ l, okRun 1048576 x.f0) : Ev (fun k => laws_toSortedRunS.f k l) (l.map sortedOf) := by
  refine Ev.congr (fun k => by rw [laws_toSortedRunS.f, if_pos (by omega), if_pos (by omega), Int.toNat_natCast]) ?_
  have := toSortedS_l0 l hl hg l.length 0 rfl (by omega)
  simpa using this
theorem eqSortedS_l0 (l : List S26) (hl : l.length ≤ 1048576) (hg : ∀ x ∈ l, x.f0.length ≤ 1048576) : ∀ (d i : Nat), l.length - i = d → i ≤ l.length → Ev (fun k => laws_eqSortedRunS.l0 k l l (i : Int)) true := by
  intro d
  induction d with
  | zero =>
    intro i hd hi
    exact Ev.step (fun k => by rw [laws_eqSortedRunS.l0, if_neg (by omega)]) (Ev.now _)
  | succ d ih =>
    intro i hd hi
    have hlt : i < l.length := by omega
    have hr := rdi_Sorted l i hlt
    have hw : wrap64 ((i : Int) + 1) = ((i + 1 : Nat) : Int) := by rw [wrap64_id (by omega) (by omega)]; rfl
    refine Ev.step (fun k => by rw [laws_eqSortedRunS.l0, if_pos (by omega), if_pos (by omega), if_pos (by omega), hr, hw]) ?_
    exact Ev.bind (eq_Sorted l[i].f0 (hg _ (List.getElem_mem hlt))) (Ev.pos rfl (ih (i + 1) (by omega) (by omega)))
theorem eqSortedS (l : List S26) (hl : l.length ≤ 1048576) (hg : ∀ x ∈ l, x.f0.length ≤ 1048576) : Ev (fun k => laws_eqSortedRunS.f k l l) true := by
  refine Ev.congr (fun k => by rw [laws_eqSortedRunS.f, if_pos rfl]) ?_
  exact eqSortedS_l0 l hl hg l.length 0 rfl (by omega)
theorem szSortedS_l0 (l : List S38) (hl : l.length ≤ 1048576) (hg : ∀ x ∈ l, okRun 9223372036854775807 x.f0) : ∀ (d i : Nat) (left : Int), 0 ≤ left → left ≤ 1048576 → l.length - i = d → i ≤ l.length →
    ∃ r, Ev (fun k => laws_szSortedRunS.l0 k l left (i : Int)) r ∧ (0 ≤ r → r ≤ left ∧ ∀ x ∈ l.drop i, okRun 1048576 x.f0) := by
  intro d
  induction d with
  | zero =>
    intro i left h0 h1 hd hi
    exact ⟨left, Ev.step (fun k => by rw [laws_szSortedRunS.l0, if_neg (by omega)]) (Ev.now _), fun _ => ⟨by omega, by rw [List.drop_eq_nil_of_le (by omega)]; simp⟩⟩
  | succ d ih =>
    intro i left h0 h1 hd hi
    have hlt : i < l.length := by omega
    have hr := rdl_Sorted l i hlt
    have hw : wrap64 ((i : Int) + 1) = ((i + 1 : Nat) : Int) := by rw [wrap64_id (by omega) (by omega)]; rfl
    obtain ⟨r1, e1, b1⟩ := sz_Sorted l[i].f0 left h0 h1 (hg l[i] (List.getElem_mem hlt))
    by_cases hn : r1 < 0
    · refine ⟨-1, Ev.step (fun k => by rw [laws_szSortedRunS.l0, if_pos (by omega), if_pos (by omega), hr]) (Ev.bind e1 (Ev.pos hn (Ev.now _))), fun h => by omega⟩
    · have q1 := b1 (by omega)
      obtain ⟨r2, e2, b2⟩ := ih (i + 1) r1 (by omega) (by omega) (by omega) (by omega)
      refine ⟨r2, Ev.step (fun k => by rw [laws_szSortedRunS.l0, if_pos (by omega), if_pos (by omega), hr, hw]) (Ev.bind e1 (Ev.neg hn e2)), fun h => ?_⟩
      have q2 := b2 h
      refine ⟨by omega, fun x hx => ?_⟩
      rw [List.drop_eq_getElem_cons hlt, List.mem_cons] at hx
      rcases hx with rfl | hx
      · exact q1.2
      · exact q2.2 x hx
theorem szSortedS (l : List S38) (left : Int) (hl : l.length ≤ 9223372036854775807) (hg : ∀ x ∈ l, okRun 9223372036854775807 x.f0) (h0 : 0 ≤ left) (h1 : left ≤ 1048576) :
    ∃ r, Ev (fun k => laws_szSortedRunS.f k l left) r ∧ (0 ≤ r → r ≤ left ∧ l.length ≤ 1048576 ∧ ∀ x ∈ l, okRun 1048576 x.f0) := by
  have hw : wrap64 (left - (l.length : Int)) = left - (l.length : Int) := wrap64_id (by omega) (by omega)
  by_cases hn : left - (l.length : Int) < 0
  · exact ⟨-1, Ev.congr (fun k => by rw [laws_szSortedRunS.f, hw, if_pos hn]) (Ev.now _), fun h => by omega⟩
  · obtain ⟨r, e, b⟩ := szSortedS_l0 l (by omega) hg l.length 0 (left - (l.length : Int)) (by omega) (by omega) rfl (by omega)
    refine ⟨r, Ev.congr (fun k => by rw [laws_szSortedRunS.f, hw, if_neg hn]; rfl) e, fun h => ?_⟩
    have q := b h
    exact ⟨by omega, by omega, by simpa using q.2⟩
/-! The law of MergeRuns. -/
theorem keepS_len (fl : Int) : ∀ (l : List S43) (p : Option S43), (HM.keepS keyE (oldE fl) goneE p l).length ≤ l.length
  | [], _ => Nat.le_refl _
  | e :: r, p => by
    have := keepS_len fl r (some e)
    unfold HM.keepS
    split
    · split
      · rw [List.length_cons]; omega
      · rw [List.length_cons, List.length_cons]; omega
    · rw [List.length_cons, List.length_cons]; omega
theorem answer_len (rs : List S26) (fl : Int) : (answer rs fl).length ≤ 1000 := by
  unfold answer
  split
  · rename_i h
    have := keepS_len fl (HM.sortB lessE (allE rs) []) none
    rw [sortB_len] at this
    unfold mergeRes
    simp only [List.length_nil, Nat.add_zero] at this
    have h2 := h.2.2
    omega
  · simp
theorem allE_bound (b : Nat) : ∀ rs : List S26, (∀ r ∈ rs, r.f0.length ≤ b) → (allE rs).length ≤ rs.length * b
  | [], _ => by simp [allE]
  | r :: rs, h => by
    have h1 := allE_bound b rs (fun q hq => h q (List.mem_cons_of_mem _ hq))
    have h2 := h r (List.mem_cons_self)
    have e : (allE (r :: rs)).length = r.f0.length + (allE rs).length := by simp only [allE, List.map_cons, List.flatten_cons, List.length_append]
    rw [e, List.length_cons, Nat.add_mul, Nat.one_mul]
    omega
theorem merge_law (x0 : List S38) (fl : Int) (hlen : x0.length ≤ 9223372036854775807) (hg : ∀ x ∈ x0, okRun 9223372036854775807 x.f0) (hx : ∀ r ∈ x0, ∀ x ∈ r.f0, (Lit.int .i64 x.f1).wf = true) :
    Ev (fun k => laws_FnExactMergeRuns.f k x0 fl) true := by
  obtain ⟨r, e1, b1⟩ := szSortedS x0 1048576 hlen hg (by omega) (by omega)
  refine Ev.congr (fun k => by rw [laws_FnExactMergeRuns.f]) (Ev.bind e1 ?_)
  by_cases hn : r < 0
  · exact Ev.pos hn (Ev.now _)
  · refine Ev.neg hn ?_
    obtain ⟨_, b2, b3⟩ := b1 (by omega)
    have hto := toSortedS x0 b2 b3
    have hlen2 : (x0.map sortedOf).length ≤ 1048576 := by rw [List.length_map]; exact b2
    have hrun : ∀ q ∈ x0.map sortedOf, q.f0.length ≤ 1048576 := fun q hq => by
      obtain ⟨y, hy, rfl⟩ := List.mem_map.1 hq
      show (y.f0.map runEntryOf).length ≤ 1048576
      rw [List.length_map]
      exact (b3 y hy).1
    have hwf : ∀ q ∈ x0.map sortedOf, ∀ x ∈ q.f0, (Lit.int .i64 x.f1).wf = true := fun q hq x hxq => by
      obtain ⟨y, hy, rfl⟩ := List.mem_map.1 hq
      obtain ⟨z, hz, rfl⟩ := List.mem_map.1 hxq
      exact hx y hy z hz
    have htot : (allE (x0.map sortedOf)).length ≤ 1099511627776 := by
      have h1 := allE_bound 1048576 (x0.map sortedOf) hrun
      have h2 := Nat.mul_le_mul_right 1048576 hlen2
      omega
    generalize x0.map sortedOf = rs at hto hlen2 hrun hwf htot
    have hs := smr_f fl rs htot
    have hi := imr_f fl rs (by omega) htot hwf
    have hal := answer_len rs fl
    generalize answer rs fl = w at hs hi hal
    have heq := eq_Sorted w (by omega)
    have heqS := eqSortedS rs hlen2 hrun
    obtain ⟨T, hT⟩ := markText_all
    obtain ⟨b, res, hm⟩ := markSortedRunS hT rs (by omega) htot
    have hmk1 : Ev (fun k => laws_markRunEntryS.f k w 1) (((1 + 4 * w.length : Nat) : Int), markRE T 1 w.length) := markRunEntryS hT w (by omega) 1 (by omega)
    have hmk : Ev (fun k => laws_markSortedRun.f k w 1) (((1 + 4 * w.length : Nat) : Int), markRE T 1 w.length) :=
      Ev.congr (fun k => by rw [laws_markSortedRun.f]) (Ev.bind hmk1 (Ev.now _))
    have hhd1 : Ev (fun k => laws_heldRunEntryS.f k (markRE T 1 w.length) 1) (((1 + 4 * w.length : Nat) : Int)) := heldRunEntryS hT w.length (by omega) 1 (by omega)
    have hhd : Ev (fun k => laws_heldSortedRun.f k (markRE T 1 w.length) 1) (((1 + 4 * w.length : Nat) : Int)) :=
      (Ev.bind hhd1 (Ev.neg (show ¬ (((1 + 4 * w.length : Nat) : Int)) < 0 by omega) (Ev.now _)) : Ev (fun k => (laws_heldRunEntryS.f k (markRE T 1 w.length) 1).bind fun t => if t < 0 then some (-1) else some t) _)
    refine Ev.bind hto (Ev.bind hs (Ev.bind hto (Ev.bind hi (Ev.bind heq (Ev.pos rfl (Ev.bind hto (Ev.bind heqS (Ev.pos rfl (Ev.bind hm ?_)))))))))
    refine Ev.neg (show ¬ ((b : Int)) < 0 by omega) (Ev.bind heq ?_)
    refine Ev.step (fun k => by rw [laws_FnExactMergeRuns.j0, if_neg (by decide)]) ?_
    refine Ev.bind hmk (Ev.bind hhd ?_)
    refine Ev.neg (show ¬ (((1 + 4 * w.length : Nat) : Int)) < 0 by omega) (Ev.pos rfl ?_)
    refine Ev.bind hto (Ev.bind hi (Ev.bind heq (Ev.pos rfl (Ev.bind hhd ?_))))
    exact Ev.neg (show ¬ (((1 + 4 * w.length : Nat) : Int)) < 0 by omega) (Ev.pos rfl (Ev.now true))
theorem FnExactMergeRuns : laws_FnExactMergeRuns.Wants := by
  intro x0 fl h1 h2
  exact Ev.rounds (merge_law x0 fl h1.1 (fun x hx => ⟨(h1.2 x hx).1, fun e he => ⟨((h1.2 x hx).2 e he).1, ((h1.2 x hx).2 e he).2.2.2⟩⟩) (fun r hr x hx => ((h1.2 r hr).2 x hx).2.1))
end Go.Proofs.Ytjjccaepbfijeaa.Pure
