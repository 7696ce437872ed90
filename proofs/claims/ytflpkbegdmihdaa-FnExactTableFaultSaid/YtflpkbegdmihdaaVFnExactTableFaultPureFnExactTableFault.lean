/- The statement FnExactTableFault over numbers and lists alone: the program's TableFault and the reference's answer the same, and the table that was handed in is as it was. No condition. -/
import Derived.Test.YtflpkbegdmihdaaVFnExactTableFaultQFnExactTableFaultx9
import Derived.Laws.BitsAllLaws
import Derived.Laws.Bits64
import Derived.Test.YtflpkbegdmihdaaVFnExactTableFaultGoodFnExactTableFault
set_option linter.all false
namespace Go.Proofs.Ytflpkbegdmihdaa.Pure
open Go.RowKit Go.Proofs.Ytflpkbegdmihdaa.QFnExactTableFault Go.Proofs.YtflpkbegdmihdaaW.PrintWords Go.Proofs.YtflpkbegdmihdaaW.PrintLast Go.Proofs.YtflpkbegdmihdaaW.PrintMore
theorem wrap64_id {x : Int} (h0 : -9223372036854775808 ≤ x) (h1 : x < 9223372036854775808) : wrap64 x = x := by unfold wrap64; omega
theorem Ev.pos {α : Type} {c : Prop} [Decidable c] {f g : Nat → Option α} {r : α} (h : c) (e : Ev f r) : Ev (fun k => if c then f k else g k) r := by simpa [h] using e
theorem Ev.neg {α : Type} {c : Prop} [Decidable c] {f g : Nat → Option α} {r : α} (h : ¬ c) (e : Ev g r) : Ev (fun k => if c then f k else g k) r := by simpa [h] using e
theorem Ev.bindS {α β : Type} {g : Option α} {f : Nat → α → Option β} {a : α} {r : β} (h : g = some a) (e : Ev (fun k => f k a) r) : Ev (fun k => g.bind (f k)) r := by subst h; simpa using e
theorem Ev.give {α : Type} {r s : α} (h : s = r) : Ev (fun _ => some s) r := by subst h; exact Ev.now _
theorem set_prefix {α β : Type} (f : α → β) (z : β) (l : List α) (i : Nat) (h : i < l.length) (x : α) (hx : l[i]? = some x) :
    ((l.take i).map f ++ List.replicate (l.length - i) z).set i (f x) = (l.take (i + 1)).map f ++ List.replicate (l.length - (i + 1)) z := by
  have h1 : ((l.take i).map f).length = i := by simp; omega
  rw [List.set_append_right _ _ (by omega), h1, Nat.sub_self]
  have h2 : List.replicate (l.length - i) z = z :: List.replicate (l.length - (i + 1)) z := by
    rw [show l.length - i = (l.length - (i + 1)) + 1 by omega]; rfl
  rw [h2, List.set_cons_zero, List.take_add_one, hx, List.map_append]
  simp
def runEntryOf (x : S211) : S118 := ⟨x.f0, x.f1, x.f2, x.f3⟩
theorem rdl_RunEntry (l : List S211) (i : Nat) (h : i < l.length) : rd_T211 l (i : Int) = l[i] := by
  unfold rd_T211; rw [Int.toNat_natCast, List.getD_eq_getElem?_getD, List.getElem?_eq_getElem h]; rfl
theorem rdi_RunEntry (l : List S118) (i : Nat) (h : i < l.length) : rd_T118 l (i : Int) = l[i] := by
  unfold rd_T118; rw [Int.toNat_natCast, List.getD_eq_getElem?_getD, List.getElem?_eq_getElem h]; rfl
theorem sz_RunEntry (x : S211) (left : Int) (h0 : 0 ≤ left) (h1 : left ≤ 1048576) (g0 : x.f0.size ≤ 9223372036854775807) (g3 : x.f3.size ≤ 9223372036854775807) : ∃ r, laws_szRunEntry.f x.f0 x.f1 x.f2 x.f3 left = some r ∧ (0 ≤ r → r ≤ left ∧ x.f0.size ≤ 1048576 ∧ x.f3.size ≤ 1048576) := by
  unfold laws_szRunEntry.f
  rw [(wrap64_id (x := left - (x.f0.size : Int)) (by omega) (by omega))]
  by_cases c0 : left - (x.f0.size : Int) < 0
  · rw [if_pos c0]; exact ⟨_, rfl, fun h => by omega⟩
  · rw [if_neg c0]
    rw [(wrap64_id (x := (left - (x.f0.size : Int)) - (x.f3.size : Int)) (by omega) (by omega))]
    by_cases c1 : (left - (x.f0.size : Int)) - (x.f3.size : Int) < 0
    · rw [if_pos c1]; exact ⟨_, rfl, fun h => by omega⟩
    · rw [if_neg c1]
      exact ⟨_, rfl, fun h => by omega⟩
theorem toRunEntryS_l0 (l : List S211) (hl : l.length ≤ 1048576) : ∀ (d i : Nat), l.length - i = d → i ≤ l.length →
    Ev (fun k => laws_toRunEntryS.l0 k l ((l.take i).map runEntryOf ++ List.replicate (l.length - i) z118) (i : Int)) (l.map runEntryOf) := by
  intro d
  induction d with
  | zero =>
    intro i hd hi
    have : i = l.length := by omega
    subst this
    refine Ev.step (fun k => by rw [laws_toRunEntryS.l0, if_neg (by omega)]) (Ev.give ?_)
    simp
  | succ d ih =>
    intro i hd hi
    have hlt : i < l.length := by omega
    have hx : l[i]? = some l[i] := List.getElem?_eq_getElem hlt
    have hr := rdl_RunEntry l i hlt
    have hw : wrap64 ((i : Int) + 1) = ((i + 1 : Nat) : Int) := by rw [wrap64_id (by omega) (by omega)]; rfl
    have hs := set_prefix runEntryOf z118 l i hlt l[i] hx
    refine Ev.step (fun k => by rw [laws_toRunEntryS.l0, if_pos (by omega), if_pos (by omega), hr, show laws_toRunEntry.f l[i].f0 l[i].f1 l[i].f2 l[i].f3 = some (l[i].f0, l[i].f1, l[i].f2, l[i].f3) from rfl, Option.bind_some, if_pos (by simp; omega), Int.toNat_natCast, hw, show (⟨(l[i].f0, l[i].f1, l[i].f2, l[i].f3).1, (l[i].f0, l[i].f1, l[i].f2, l[i].f3).2.1, (l[i].f0, l[i].f1, l[i].f2, l[i].f3).2.2.1, (l[i].f0, l[i].f1, l[i].f2, l[i].f3).2.2.2⟩ : S118) = runEntryOf l[i] from rfl, hs]) ?_
    exact ih (i + 1) (by omega) (by omega)
theorem toRunEntryS (l : List S211) (hl : l.length ≤ 1048576) : Ev (fun k => laws_toRunEntryS.f k l) (l.map runEntryOf) := by
  refine Ev.congr (fun k => by rw [laws_toRunEntryS.f, if_pos (by omega), if_pos (by omega), Int.toNat_natCast]) ?_
  have := toRunEntryS_l0 l hl l.length 0 rfl (by omega)
  simpa using this
theorem eqRunEntry_self (a0 : ByteArray) (a1 : Int) (a2 : Bool) (a3 : ByteArray) : laws_eqRunEntry.f a0 a1 a2 a3 a0 a1 a2 a3 = some true := by unfold laws_eqRunEntry.f; simp
theorem eqRunEntryS_l0 (l : List S118) (hl : l.length ≤ 1048576) : ∀ (d i : Nat), l.length - i = d → i ≤ l.length → Ev (fun k => laws_eqRunEntryS.l0 k l l (i : Int)) true := by
  intro d
  induction d with
  | zero =>
    intro i hd hi
    exact Ev.step (fun k => by rw [laws_eqRunEntryS.l0, if_neg (by omega)]) (Ev.now _)
  | succ d ih =>
    intro i hd hi
    have hw : wrap64 ((i : Int) + 1) = ((i + 1 : Nat) : Int) := by rw [wrap64_id (by omega) (by omega)]; rfl
    refine Ev.step (fun k => by rw [laws_eqRunEntryS.l0, if_pos (by omega), if_pos (by omega), if_pos (by omega), eqRunEntry_self, Option.bind_some, if_pos rfl, hw]) ?_
    exact ih (i + 1) (by omega) (by omega)
theorem eqRunEntryS (l : List S118) (hl : l.length ≤ 1048576) : Ev (fun k => laws_eqRunEntryS.f k l l) true := by
  refine Ev.congr (fun k => by rw [laws_eqRunEntryS.f, if_pos rfl]) ?_
  exact eqRunEntryS_l0 l hl l.length 0 rfl (by omega)
theorem szRunEntryS_l0 (l : List S211) (hl : l.length ≤ 1048576) (hg : ∀ x ∈ l, x.f0.size ≤ 9223372036854775807 ∧ x.f3.size ≤ 9223372036854775807) : ∀ (d i : Nat) (left : Int), 0 ≤ left → left ≤ 1048576 → l.length - i = d → i ≤ l.length →
    ∃ r, Ev (fun k => laws_szRunEntryS.l0 k l left (i : Int)) r ∧ (0 ≤ r → r ≤ left ∧ ∀ x ∈ l.drop i, x.f0.size ≤ 1048576 ∧ x.f3.size ≤ 1048576) := by
  intro d
  induction d with
  | zero =>
    intro i left h0 h1 hd hi
    exact ⟨left, Ev.step (fun k => by rw [laws_szRunEntryS.l0, if_neg (by omega)]) (Ev.now _), fun _ => ⟨by omega, by rw [List.drop_eq_nil_of_le (by omega)]; simp⟩⟩
  | succ d ih =>
    intro i left h0 h1 hd hi
    have hlt : i < l.length := by omega
    have hr := rdl_RunEntry l i hlt
    have hw : wrap64 ((i : Int) + 1) = ((i + 1 : Nat) : Int) := by rw [wrap64_id (by omega) (by omega)]; rfl
    have g := hg l[i] (List.getElem_mem hlt)
    obtain ⟨r1, e1, b1⟩ := sz_RunEntry l[i] left h0 h1 g.1 g.2
    by_cases hn : r1 < 0
    · refine ⟨-1, Ev.step (fun k => by rw [laws_szRunEntryS.l0, if_pos (by omega), if_pos (by omega), hr, e1, Option.bind_some, if_pos hn]) (Ev.now _), fun h => by omega⟩
    · obtain ⟨r2, e2, b2⟩ := ih (i + 1) r1 (by omega) (by have := b1 (by omega); omega) (by omega) (by omega)
      refine ⟨r2, Ev.step (fun k => by rw [laws_szRunEntryS.l0, if_pos (by omega), if_pos (by omega), hr, e1, Option.bind_some, if_neg hn, hw]) e2, fun h => ?_⟩
      have q1 := b1 (by omega)
      have q2 := b2 h
      refine ⟨by omega, fun x hx => ?_⟩
      rw [List.drop_eq_getElem_cons hlt, List.mem_cons] at hx
      rcases hx with rfl | hx
      · exact q1.2
      · exact q2.2 x hx
theorem szRunEntryS (l : List S211) (left : Int) (hl : l.length ≤ 9223372036854775807) (hg : ∀ x ∈ l, x.f0.size ≤ 9223372036854775807 ∧ x.f3.size ≤ 9223372036854775807) (h0 : 0 ≤ left) (h1 : left ≤ 1048576) :
    ∃ r, Ev (fun k => laws_szRunEntryS.f k l left) r ∧ (0 ≤ r → r ≤ left ∧ l.length ≤ 1048576 ∧ ∀ x ∈ l, x.f0.size ≤ 1048576 ∧ x.f3.size ≤ 1048576) := by
  have hw : wrap64 (left - (l.length : Int)) = left - (l.length : Int) := wrap64_id (by omega) (by omega)
  by_cases hn : left - (l.length : Int) < 0
  · exact ⟨-1, Ev.congr (fun k => by rw [laws_szRunEntryS.f, hw, if_pos hn]) (Ev.now _), fun h => by omega⟩
  · obtain ⟨r, e, b⟩ := szRunEntryS_l0 l (by omega) hg l.length 0 (left - (l.length : Int)) (by omega) (by omega) rfl (by omega)
    refine ⟨r, Ev.congr (fun k => by rw [laws_szRunEntryS.f, hw, if_neg hn]; rfl) e, fun h => ?_⟩
    have q := b h
    exact ⟨by omega, by omega, by simpa using q.2⟩
theorem inInts_l0 (l : List Int) (hl : l.length ≤ 1048576) (a : Int) : ∀ (d i : Nat), l.length - i = d → i ≤ l.length → Ev (fun k => spec_l01InInts.l0 k l a (i : Int)) (decide (a ∈ l.drop i)) := by
  intro d
  induction d with
  | zero =>
    intro i hd hi
    rw [List.drop_eq_nil_of_le (by omega)]
    refine Ev.step (fun k => by rw [spec_l01InInts.l0, if_neg (by omega)]) (Ev.give ?_)
    simp
  | succ d ih =>
    intro i hd hi
    have hlt : i < l.length := by omega
    have hw : wrap64 ((i : Int) + 1) = ((i + 1 : Nat) : Int) := by rw [wrap64_id (by omega) (by omega)]; rfl
    have hn := ih (i + 1) (by omega) (by omega)
    have hr : rd l (i : Int) = l[i] := by unfold rd; rw [Int.toNat_natCast, List.getD_eq_getElem?_getD, List.getElem?_eq_getElem hlt]; rfl
    rw [List.drop_eq_getElem_cons hlt]
    refine Ev.step (fun k => by rw [spec_l01InInts.l0, if_pos (by omega), if_pos (by omega), hr, hw]) ?_
    by_cases e : l[i] = a
    · refine Ev.pos e (Ev.give ?_)
      rw [e]; simp
    · refine Ev.neg e ?_
      have h2 : decide (a ∈ l[i] :: l.drop (i + 1)) = decide (a ∈ l.drop (i + 1)) := by
        apply decide_eq_decide.2
        rw [List.mem_cons]
        exact ⟨fun h => h.resolve_left (fun h3 => e h3.symm), Or.inr⟩
      rw [h2]
      exact hn
theorem inInts (l : List Int) (hl : l.length ≤ 1048576) (a : Int) : Ev (fun k => spec_l01InInts.f k l a) (decide (a ∈ l)) := by
  have := inInts_l0 l hl a l.length 0 (by omega) (by omega)
  rw [List.drop_zero] at this
  exact Ev.congr (fun k => by rw [spec_l01InInts.f]; rfl) this
def lessE (x y : S118) : Bool := Op.bytesLess x.f0.toList y.f0.toList || (decide (x.f0.toList = y.f0.toList) && decide (x.f1 > y.f1))
theorem spec_less (x y : S118) : spec_l08Less.f x.f0 x.f1 x.f2 x.f3 y.f0 y.f1 y.f2 y.f3 = some (lessE x y) := by
  unfold spec_l08Less.f lessE
  by_cases h1 : Op.bytesLess x.f0.toList y.f0.toList = true
  · rw [if_pos h1, h1, Bool.true_or]
  · rw [if_neg h1]
    rw [Bool.not_eq_true] at h1
    rw [h1, Bool.false_or]
    by_cases h2 : x.f0.toList = y.f0.toList
    · rw [if_pos h2, decide_eq_true h2, Bool.true_and]
    · rw [if_neg h2, decide_eq_false h2, Bool.false_and]
theorem less_tri : ∀ a b : List UInt8, (!(Op.bytesLess a b || a == b)) = Op.bytesLess b a
  | [], [] => rfl
  | [], _ :: _ => rfl
  | _ :: _, [] => rfl
  | x :: a, y :: b => by
    have ih := less_tri a b
    by_cases h1 : x < y
    · have h2 : ¬ y < x := UInt8.lt_asymm h1
      have h3 : y ≠ x := fun e => by subst e; exact h2 h1
      simp [Op.bytesLess, h1, h2, h3]
    · by_cases h2 : y < x
      · have h3 : x ≠ y := fun e => by subst e; exact h1 h2
        simp [Op.bytesLess, h1, h2, h3]
      · have h3 : x = y := UInt8.le_antisymm (UInt8.not_lt.1 h2) (UInt8.not_lt.1 h1)
        subst h3
        simpa [Op.bytesLess, h1] using ih
theorem less_irrefl (a : List UInt8) : Op.bytesLess a a = false := by
  have := less_tri a a
  simp at this
  exact this
theorem impl_order (x y : S118) : ∃ c, impl_entryOrder.f x.f0 x.f1 x.f2 x.f3 y.f0 y.f1 y.f2 y.f3 = some c ∧ decide (c ≥ 0) = !(lessE x y) := by
  have n0 : ∀ s : ByteArray, cmp_isNaN_string.f s = some false := fun s => by unfold cmp_isNaN_string.f; simp
  have n1 : ∀ s : Int, cmp_isNaN_int64.f s = some false := fun s => by unfold cmp_isNaN_int64.f; simp
  unfold impl_entryOrder.f cmp_Compare_string.f lessE
  rw [n0, n0, Option.bind_some, Option.bind_some, if_neg (by decide), if_neg (by decide)]
  by_cases h1 : Op.bytesLess x.f0.toList y.f0.toList = true
  · rw [if_pos h1, Option.bind_some, if_neg (by decide)]
    refine ⟨_, rfl, ?_⟩
    rw [h1]; simp
  · rw [if_neg h1]
    rw [Bool.not_eq_true] at h1
    have ht := less_tri x.f0.toList y.f0.toList
    rw [h1, Bool.false_or] at ht
    rw [h1, Bool.false_or]
    by_cases h2 : x.f0.toList = y.f0.toList
    · have h3 : Op.bytesLess y.f0.toList x.f0.toList = false := by rw [← h2]; exact less_irrefl _
      rw [h3, if_neg (by decide), Option.bind_some, if_pos rfl, decide_eq_true h2, Bool.true_and]
      unfold cmp_Compare_int64.f
      rw [n1, n1, Option.bind_some, Option.bind_some, if_neg (by decide), if_neg (by decide)]
      by_cases h4 : y.f1 < x.f1
      · rw [if_pos h4, Option.bind_some]
        refine ⟨_, rfl, ?_⟩
        rw [decide_eq_true h4]; decide
      · rw [if_neg h4]
        by_cases h5 : y.f1 > x.f1
        · rw [if_pos h5, Option.bind_some]
          refine ⟨_, rfl, ?_⟩
          rw [decide_eq_false h4]; decide
        · rw [if_neg h5, Option.bind_some]
          refine ⟨_, rfl, ?_⟩
          rw [decide_eq_false h4]; decide
    · have h3 : Op.bytesLess y.f0.toList x.f0.toList = true := by rw [← ht]; simp [h2]
      rw [if_pos h3, Option.bind_some, if_neg (by decide)]
      refine ⟨_, rfl, ?_⟩
      rw [decide_eq_false h2]; simp
def headBad (x : S118) : Bool := decide ((x.f0.size : Int) < 1 ∨ (x.f0.size : Int) > 200 ∨ x.f1 < 1 ∨ (x.f2 = true ∧ ¬ x.f3.toList = ([] : List UInt8)) ∨ (x.f3.size : Int) > 100000)
def enAt (l : List S118) (i : Nat) : S118 := rd_T118 l (i : Int)
def seenTo (l : List S118) (i : Nat) : List Int := (List.range i).map fun j => (enAt l j).f1
theorem seenTo_succ (l : List S118) (i : Nat) : seenTo l (i + 1) = seenTo l i ++ [(enAt l i).f1] := by unfold seenTo; rw [List.range_succ, List.map_append]; rfl
theorem seenTo_length (l : List S118) (i : Nat) : (seenTo l i).length = i := by simp [seenTo]
def prevBad (l : List S118) (i : Nat) : Bool := decide (0 < i) && !(lessE (enAt l (i - 1)) (enAt l i))
def badAt (l : List S118) (i : Nat) : Bool := headBad (enAt l i) || prevBad l i || decide ((enAt l i).f1 ∈ seenTo l i)
def runFrom (l : List S118) : Nat → Nat → Int
  | 0, _ => 0
  | d + 1, i => if badAt l i = true then 1 else runFrom l d (i + 1)
theorem badAt_head {l : List S118} {i : Nat} (h : headBad (enAt l i) = true) : badAt l i = true := by unfold badAt; rw [h]; rfl
theorem badAt_of {l : List S118} {i : Nat} (h : headBad (enAt l i) = false) : badAt l i = (prevBad l i || decide ((enAt l i).f1 ∈ seenTo l i)) := by unfold badAt; rw [h, Bool.false_or]
theorem spec_run_tail (l : List S118) (hl : l.length ≤ 1000) (d i : Nat) (hd : l.length - i = d + 1) (ih : Ev (fun k => spec_RunFault.l0 k (seenTo l (i + 1)) ((i + 1 : Nat) : Int) l) (runFrom l d (i + 1))) (b : Bool) :
    Ev (fun k => spec_RunFault.j1 k (seenTo l i) (i : Int) b l (enAt l i).f0 (enAt l i).f1 (enAt l i).f2 (enAt l i).f3) (if b = true then 1 else runFrom l d (i + 1)) := by
  have hw : wrap64 ((i : Int) + 1) = ((i + 1 : Nat) : Int) := by rw [wrap64_id (by omega) (by omega)]; rfl
  cases b with
  | true => rw [if_pos rfl]; exact Ev.step (fun k => by rw [spec_RunFault.j1, if_pos rfl]) (Ev.now _)
  | false =>
    refine Ev.step (fun k => by rw [spec_RunFault.j1, if_neg (by decide), if_pos (by rw [seenTo_length]; omega), hw, ← seenTo_succ]) ?_
    rw [if_neg (by decide)]
    exact ih
theorem spec_run_last (l : List S118) (hl : l.length ≤ 1000) (d i : Nat) (hd : l.length - i = d + 1) (ih : Ev (fun k => spec_RunFault.l0 k (seenTo l (i + 1)) ((i + 1 : Nat) : Int) l) (runFrom l d (i + 1))) (hh : headBad (enAt l i) = false) :
    Ev (fun k => if (i : Int) > 0 then (if 0 ≤ (wrap64 ((i : Int) - 1)) then (if (wrap64 ((i : Int) - 1)) < (l.length : Int) then ((spec_l08Less.f ((rd_T118 l (wrap64 ((i : Int) - 1))).f0) ((rd_T118 l (wrap64 ((i : Int) - 1))).f1) ((rd_T118 l (wrap64 ((i : Int) - 1))).f2) ((rd_T118 l (wrap64 ((i : Int) - 1))).f3) ((rd_T118 l (i : Int)).f0) ((rd_T118 l (i : Int)).f1) ((rd_T118 l (i : Int)).f2) ((rd_T118 l (i : Int)).f3)).bind fun t116 => (if t116 = true then ((spec_l01InInts.f k (seenTo l i) ((rd_T118 l (i : Int)).f1)).bind fun t117 => (spec_RunFault.j1 k (seenTo l i) (i : Int) t117 l ((rd_T118 l (i : Int)).f0) ((rd_T118 l (i : Int)).f1) ((rd_T118 l (i : Int)).f2) ((rd_T118 l (i : Int)).f3))) else (spec_RunFault.j1 k (seenTo l i) (i : Int) true l ((rd_T118 l (i : Int)).f0) ((rd_T118 l (i : Int)).f1) ((rd_T118 l (i : Int)).f2) ((rd_T118 l (i : Int)).f3)))) else (none)) else (none)) else ((spec_l01InInts.f k (seenTo l i) ((rd_T118 l (i : Int)).f1)).bind fun t118 => (spec_RunFault.j1 k (seenTo l i) (i : Int) t118 l ((rd_T118 l (i : Int)).f0) ((rd_T118 l (i : Int)).f1) ((rd_T118 l (i : Int)).f2) ((rd_T118 l (i : Int)).f3)))) (if badAt l i = true then 1 else runFrom l d (i + 1)) := by
  have hs : (seenTo l i).length ≤ 1048576 := by rw [seenTo_length]; omega
  have hin := inInts (seenTo l i) hs (enAt l i).f1
  rw [badAt_of hh]
  unfold prevBad
  by_cases h0 : 0 < i
  · have hw1 : wrap64 ((i : Int) - 1) = ((i - 1 : Nat) : Int) := by rw [wrap64_id (by omega) (by omega)]; omega
    rw [hw1, decide_eq_true h0, Bool.true_and]
    refine Ev.pos (by omega) (Ev.pos (by omega) (Ev.pos (by omega) (Ev.bindS (spec_less (enAt l (i - 1)) (enAt l i)) ?_)))
    cases hle : lessE (enAt l (i - 1)) (enAt l i) with
    | true =>
      refine Ev.pos rfl (Ev.bind hin ?_)
      exact spec_run_tail l hl d i hd ih _
    | false =>
      refine Ev.neg (by decide) ?_
      exact spec_run_tail l hl d i hd ih true
  · rw [decide_eq_false h0, Bool.false_and, Bool.false_or]
    refine Ev.neg (by omega) (Ev.bind hin ?_)
    exact spec_run_tail l hl d i hd ih _
theorem spec_run_l0 (l : List S118) (hl : l.length ≤ 1000) : ∀ (d i : Nat), l.length - i = d → i ≤ l.length → Ev (fun k => spec_RunFault.l0 k (seenTo l i) (i : Int) l) (runFrom l d i) := by
  intro d
  induction d with
  | zero =>
    intro i hd hi
    exact Ev.step (fun k => by rw [spec_RunFault.l0, if_neg (by omega)]; rfl) (Ev.now _)
  | succ d ih =>
    intro i hd hi
    have hn := ih (i + 1) (by omega) (by omega)
    have out := spec_run_tail l hl d i hd hn true
    rw [if_pos rfl] at out
    refine Ev.step (fun k => by rw [spec_RunFault.l0, if_pos (by omega), if_pos (by omega)]) ?_
    unfold runFrom
    have bad : ∀ h : headBad (enAt l i) = true, Ev (fun k => spec_RunFault.j1 k (seenTo l i) (i : Int) true l (enAt l i).f0 (enAt l i).f1 (enAt l i).f2 (enAt l i).f3) (if badAt l i = true then 1 else runFrom l d (i + 1)) := fun h => by rw [if_pos (badAt_head h)]; exact out
    by_cases h1 : (((enAt l i).f0).size : Int) < 1
    · exact Ev.pos h1 (bad (decide_eq_true (Or.inl h1)))
    · refine Ev.neg h1 ?_
      by_cases h2 : (((enAt l i).f0).size : Int) > 200
      · exact Ev.pos h2 (bad (decide_eq_true (Or.inr (Or.inl h2))))
      · refine Ev.neg h2 ?_
        by_cases h3 : (enAt l i).f1 < 1
        · exact Ev.pos h3 (bad (decide_eq_true (Or.inr (Or.inr (Or.inl h3)))))
        · refine Ev.neg h3 ?_
          by_cases h4 : (enAt l i).f2 = true
          · refine Ev.pos h4 ?_
            by_cases h5 : ((enAt l i).f3).toList = ([] : List UInt8)
            · refine Ev.pos h5 ?_
              by_cases h6 : (((enAt l i).f3).size : Int) > 100000
              · exact Ev.pos h6 (bad (decide_eq_true (Or.inr (Or.inr (Or.inr (Or.inr h6))))))
              · exact Ev.neg h6 (spec_run_last l hl d i hd hn (decide_eq_false (fun h => by rcases h with h | h | h | h | h; exact h1 h; exact h2 h; exact h3 h; exact h.2 h5; exact h6 h)))
            · exact Ev.neg h5 (bad (decide_eq_true (Or.inr (Or.inr (Or.inr (Or.inl ⟨h4, h5⟩))))))
          · refine Ev.neg h4 ?_
            by_cases h6 : (((enAt l i).f3).size : Int) > 100000
            · exact Ev.pos h6 (bad (decide_eq_true (Or.inr (Or.inr (Or.inr (Or.inr h6))))))
            · exact Ev.neg h6 (spec_run_last l hl d i hd hn (decide_eq_false (fun h => by rcases h with h | h | h | h | h; exact h1 h; exact h2 h; exact h3 h; exact h4 h.1; exact h6 h)))
def runFault (l : List S118) : Int := if (l.length : Int) > 1000 then 1 else runFrom l l.length 0
theorem spec_runFault (l : List S118) : Ev (fun k => spec_RunFault.f k l) (runFault l) := by
  unfold runFault
  refine Ev.congr (fun k => by rw [spec_RunFault.f]) ?_
  by_cases h : (l.length : Int) > 1000
  · rw [if_pos h]; exact Ev.pos h (Ev.now _)
  · rw [if_neg h]
    exact Ev.neg h (spec_run_l0 l (by omega) l.length 0 (by omega) (by omega))
theorem impl_run_j2 (l : List S118) (hl : l.length ≤ 1000) (d i : Nat) (hd : l.length - i = d + 1) (hx : (Lit.int .i64 (enAt l i).f1).wf = true) (ih : Ev (fun k => impl_RunFault.l0 k (seenTo l (i + 1)) l (l.length : Int) ((i + 1 : Nat) : Int) l) (runFrom l d (i + 1))) (b : Bool) :
    Ev (fun k => impl_RunFault.j2 k (seenTo l i) l (l.length : Int) (i : Int) b l (enAt l i).f0 (enAt l i).f1 (enAt l i).f2 (enAt l i).f3) (if b = true then 1 else runFrom l d (i + 1)) := by
  have hw : wrap64 ((i : Int) + 1) = ((i + 1 : Nat) : Int) := by rw [wrap64_id (by omega) (by omega)]; rfl
  cases b with
  | true => rw [if_pos rfl]; exact Ev.step (fun k => by rw [impl_RunFault.j2, if_pos rfl]) (Ev.now _)
  | false =>
    have hk : keyIn.f (enAt l i).f1 = some (enAt l i).f1 := by unfold keyIn.f; rw [if_pos hx]
    refine Ev.step (fun k => by rw [impl_RunFault.j2, if_neg (by decide), hk, Option.bind_some, if_pos (by rw [seenTo_length]; omega), hw, ← seenTo_succ]) ?_
    rw [if_neg (by decide)]
    exact ih
theorem impl_run_j1 (l : List S118) (hl : l.length ≤ 1000) (d i : Nat) (hd : l.length - i = d + 1) (hx : (Lit.int .i64 (enAt l i).f1).wf = true) (ih : Ev (fun k => impl_RunFault.l0 k (seenTo l (i + 1)) l (l.length : Int) ((i + 1 : Nat) : Int) l) (runFrom l d (i + 1))) (b : Bool) :
    Ev (fun k => impl_RunFault.j1 k (seenTo l i) (i : Int) l (l.length : Int) (i : Int) b l (enAt l i).f0 (enAt l i).f1 (enAt l i).f2 (enAt l i).f3) (if (prevBad l i || b) = true then 1 else runFrom l d (i + 1)) := by
  cases b with
  | true =>
    rw [if_pos (by simp)]
    exact Ev.step (fun k => by rw [impl_RunFault.j1, if_pos rfl]) (Ev.now _)
  | false =>
    rw [Bool.or_false]
    refine Ev.step (fun k => by rw [impl_RunFault.j1, if_neg (by decide)]) ?_
    unfold prevBad
    by_cases h0 : 0 < i
    · have hw1 : wrap64 ((i : Int) - 1) = ((i - 1 : Nat) : Int) := by rw [wrap64_id (by omega) (by omega)]; omega
      obtain ⟨c, hc, hc2⟩ := impl_order (enAt l (i - 1)) (enAt l i)
      rw [hw1, decide_eq_true h0, Bool.true_and, ← hc2]
      refine Ev.pos (by omega) (Ev.pos (by omega) (Ev.pos (by omega) (Ev.bindS hc ?_)))
      exact impl_run_j2 l hl d i hd hx ih _
    · rw [decide_eq_false h0, Bool.false_and]
      refine Ev.neg (by omega) ?_
      exact impl_run_j2 l hl d i hd hx ih false
theorem impl_run_l0 (l : List S118) (hl : l.length ≤ 1000) (hx : ∀ i, i < l.length → (Lit.int .i64 (enAt l i).f1).wf = true) : ∀ (d i : Nat), l.length - i = d → i ≤ l.length → Ev (fun k => impl_RunFault.l0 k (seenTo l i) l (l.length : Int) (i : Int) l) (runFrom l d i) := by
  intro d
  induction d with
  | zero =>
    intro i hd hi
    exact Ev.step (fun k => by rw [impl_RunFault.l0, if_neg (by omega)]; rfl) (Ev.now _)
  | succ d ih =>
    intro i hd hi
    have hn := ih (i + 1) (by omega) (by omega)
    have hxi := hx i (by omega)
    have j1 := fun b => impl_run_j1 l hl d i hd hxi hn b
    have hm : mapHas.f (seenTo l i) (enAt l i).f1 = some (decide ((enAt l i).f1 ∈ seenTo l i)) := by unfold mapHas.f; rw [if_pos hxi]
    refine Ev.step (fun k => by rw [impl_RunFault.l0, if_pos (by omega), if_pos (by omega), if_pos (by omega)]) ?_
    unfold runFrom
    have bad : ∀ h : headBad (enAt l i) = true, Ev (fun k => impl_RunFault.j1 k (seenTo l i) (i : Int) l (l.length : Int) (i : Int) true l (enAt l i).f0 (enAt l i).f1 (enAt l i).f2 (enAt l i).f3) (if badAt l i = true then 1 else runFrom l d (i + 1)) := fun h => by
      have := j1 true
      rw [if_pos (by simp)] at this
      rw [if_pos (badAt_head h)]; exact this
    have last : ∀ h : headBad (enAt l i) = false, Ev (fun k => (mapHas.f (seenTo l i) (enAt l i).f1).bind fun t => (impl_RunFault.j1 k (seenTo l i) (i : Int) l (l.length : Int) (i : Int) t l (enAt l i).f0 (enAt l i).f1 (enAt l i).f2 (enAt l i).f3)) (if badAt l i = true then 1 else runFrom l d (i + 1)) := fun h => by
      rw [badAt_of h]
      exact Ev.bindS hm (j1 _)
    by_cases h1 : (((enAt l i).f0).size : Int) < 1
    · exact Ev.pos h1 (bad (decide_eq_true (Or.inl h1)))
    · refine Ev.neg h1 ?_
      by_cases h2 : (((enAt l i).f0).size : Int) > 200
      · exact Ev.pos h2 (bad (decide_eq_true (Or.inr (Or.inl h2))))
      · refine Ev.neg h2 ?_
        by_cases h3 : (enAt l i).f1 < 1
        · exact Ev.pos h3 (bad (decide_eq_true (Or.inr (Or.inr (Or.inl h3)))))
        · refine Ev.neg h3 ?_
          by_cases h4 : (enAt l i).f2 = true
          · refine Ev.pos h4 ?_
            by_cases h5 : ((enAt l i).f3).toList = ([] : List UInt8)
            · refine Ev.pos h5 ?_
              by_cases h6 : (((enAt l i).f3).size : Int) > 100000
              · exact Ev.pos h6 (bad (decide_eq_true (Or.inr (Or.inr (Or.inr (Or.inr h6))))))
              · exact Ev.neg h6 (last (decide_eq_false (fun h => by rcases h with h | h | h | h | h; exact h1 h; exact h2 h; exact h3 h; exact h.2 h5; exact h6 h)))
            · exact Ev.neg h5 (bad (decide_eq_true (Or.inr (Or.inr (Or.inr (Or.inl ⟨h4, h5⟩))))))
          · refine Ev.neg h4 ?_
            by_cases h6 : (((enAt l i).f3).size : Int) > 100000
            · exact Ev.pos h6 (bad (decide_eq_true (Or.inr (Or.inr (Or.inr (Or.inr h6))))))
            · exact Ev.neg h6 (last (decide_eq_false (fun h => by rcases h with h | h | h | h | h; exact h1 h; exact h2 h; exact h3 h; exact h4 h.1; exact h6 h)))
theorem impl_runFault (l : List S118) (hx : ∀ i, i < l.length → (Lit.int .i64 (enAt l i).f1).wf = true) : Ev (fun k => impl_RunFault.f k l) (runFault l) := by
  unfold runFault
  refine Ev.congr (fun k => by rw [impl_RunFault.f]) ?_
  by_cases h : (l.length : Int) > 1000
  · rw [if_pos h]; exact Ev.pos h (Ev.now _)
  · rw [if_neg h]
    exact Ev.neg h (impl_run_l0 l (by omega) hx l.length 0 (by omega) (by omega))
def okRun (n : Nat) (l : List S211) : Prop := l.length ≤ n ∧ ∀ x ∈ l, x.f0.size ≤ n ∧ x.f3.size ≤ n
def sortedOf (x : S45) : S53 := ⟨x.f0.map runEntryOf⟩
theorem rdl_Sorted (l : List S45) (i : Nat) (h : i < l.length) : rd_T45 l (i : Int) = l[i] := by
  unfold rd_T45; rw [Int.toNat_natCast, List.getD_eq_getElem?_getD, List.getElem?_eq_getElem h]; rfl
theorem rdi_Sorted (l : List S53) (i : Nat) (h : i < l.length) : rd_T53 l (i : Int) = l[i] := by
  unfold rd_T53; rw [Int.toNat_natCast, List.getD_eq_getElem?_getD, List.getElem?_eq_getElem h]; rfl
theorem sz_Sorted (l : List S211) (left : Int) (h0 : 0 ≤ left) (h1 : left ≤ 1048576) (g : okRun 9223372036854775807 l) :
    ∃ r, Ev (fun k => laws_szSortedRun.f k l left) r ∧ (0 ≤ r → r ≤ left ∧ okRun 1048576 l) := by
  obtain ⟨r1, e1, b1⟩ := szRunEntryS l left g.1 g.2 h0 h1
  by_cases n1 : r1 < 0
  · exact ⟨-1, Ev.congr (fun k => by rw [laws_szSortedRun.f]) (Ev.bind e1 (Ev.pos n1 (Ev.now _))), fun h => by omega⟩
  · have q1 := b1 (by omega)
    exact ⟨r1, Ev.congr (fun k => by rw [laws_szSortedRun.f]) (Ev.bind e1 (Ev.neg n1 (Ev.now _))), fun h => ⟨q1.1, q1.2.1, q1.2.2⟩⟩
theorem to_Sorted (l : List S211) (hl : l.length ≤ 1048576) : Ev (fun k => laws_toSortedRun.f k l) (l.map runEntryOf) :=
  Ev.congr (fun k => by rw [laws_toSortedRun.f]) (Ev.bind (toRunEntryS l hl) (Ev.now _))
theorem eq_Sorted (l : List S118) (hl : l.length ≤ 1048576) : Ev (fun k => laws_eqSortedRun.f k l l) true :=
  Ev.congr (fun k => by rw [laws_eqSortedRun.f]) (Ev.bind (eqRunEntryS _ hl) (Ev.pos rfl (Ev.now _)))
theorem toSortedS_l0 (l : List S45) (hl : l.length ≤ 1048576) (hg : ∀ x ∈ l, okRun 1048576 x.f0) : ∀ (d i : Nat), l.length - i = d → i ≤ l.length →
    Ev (fun k => laws_toSortedRunS.l0 k l ((l.take i).map sortedOf ++ List.replicate (l.length - i) z53) (i : Int)) (l.map sortedOf) := by
  intro d
  induction d with
  | zero =>
    intro i hd hi
    have : i = l.length := by omega
    subst this
    refine Ev.step (fun k => by rw [laws_toSortedRunS.l0, if_neg (by omega)]) (Ev.give ?_)
    simp
  | succ d ih =>
    intro i hd hi
    have hlt : i < l.length := by omega
    have hx : l[i]? = some l[i] := List.getElem?_eq_getElem hlt
    have hr := rdl_Sorted l i hlt
    have hw : wrap64 ((i : Int) + 1) = ((i + 1 : Nat) : Int) := by rw [wrap64_id (by omega) (by omega)]; rfl
    have hs := set_prefix sortedOf z53 l i hlt l[i] hx
    refine Ev.step (fun k => by rw [laws_toSortedRunS.l0, if_pos (by omega), if_pos (by omega), hr]) ?_
    refine Ev.bind (to_Sorted l[i].f0 (hg _ (List.getElem_mem hlt)).1) (Ev.congr (fun k => by rw [if_pos (by simp; omega), Int.toNat_natCast, hw]) ?_)
    have q := ih (i + 1) (by omega) (by omega)
    rw [← hs] at q
    exact q
theorem toSortedS (l : List S45) (hl : l.length ≤ 1048576) (hg : ∀ x ∈ l, okRun 1048576 x.f0) : Ev (fun k => laws_toSortedRunS.f k l) (l.map sortedOf) := by
  refine Ev.congr (fun k => by rw [laws_toSortedRunS.f, if_pos (by omega), if_pos (by omega), Int.toNat_natCast]) ?_
  have := toSortedS_l0 l hl hg l.length 0 rfl (by omega)
  simpa using this
theorem eqSortedS_l0 (l : List S53) (hl : l.length ≤ 1048576) (hg : ∀ x ∈ l, x.f0.length ≤ 1048576) : ∀ (d i : Nat), l.length - i = d → i ≤ l.length → Ev (fun k => laws_eqSortedRunS.l0 k l l (i : Int)) true := by
  intro d
  induction d with
  | zero =>
    intro i hd hi
    exact Ev.step (fun k => by rw [laws_eqSortedRunS.l0, if_neg (by omega)]) (Ev.now _)
  | succ d ih =>
    intro i hd hi
    have hlt : i < l.length := by omega
    have hr := rdi_Sorted l i hlt
    have hw : wrap64 ((i : Int) + 1) = ((i + 1 : Nat) : Int) := by rw [wrap64_id (by omega) (by omega)]; rfl
    refine Ev.step (fun k => by rw [laws_eqSortedRunS.l0, if_pos (by omega), if_pos (by omega), if_pos (by omega), hr, hw]) ?_
    exact Ev.bind (eq_Sorted l[i].f0 (hg _ (List.getElem_mem hlt))) (Ev.pos rfl (ih (i + 1) (by omega) (by omega)))
theorem eqSortedS (l : List S53) (hl : l.length ≤ 1048576) (hg : ∀ x ∈ l, x.f0.length ≤ 1048576) : Ev (fun k => laws_eqSortedRunS.f k l l) true := by
  refine Ev.congr (fun k => by rw [laws_eqSortedRunS.f, if_pos rfl]) ?_
  exact eqSortedS_l0 l hl hg l.length 0 rfl (by omega)
theorem szSortedS_l0 (l : List S45) (hl : l.length ≤ 1048576) (hg : ∀ x ∈ l, okRun 9223372036854775807 x.f0) : ∀ (d i : Nat) (left : Int), 0 ≤ left → left ≤ 1048576 → l.length - i = d → i ≤ l.length →
    ∃ r, Ev (fun k => laws_szSortedRunS.l0 k l left (i : Int)) r ∧ (0 ≤ r → r ≤ left ∧ ∀ x ∈ l.drop i, okRun 1048576 x.f0) := by
  intro d
  induction d with
  | zero =>
    intro i left h0 h1 hd hi
    exact ⟨left, Ev.step (fun k => by rw [laws_szSortedRunS.l0, if_neg (by omega)]) (Ev.now _), fun _ => ⟨by omega, by rw [List.drop_eq_nil_of_le (by omega)]; simp⟩⟩
  | succ d ih =>
    intro i left h0 h1 hd hi
    have hlt : i < l.length := by omega
    have hr := rdl_Sorted l i hlt
    have hw : wrap64 ((i : Int) + 1) = ((i + 1 : Nat) : Int) := by rw [wrap64_id (by omega) (by omega)]; rfl
    obtain ⟨r1, e1, b1⟩ := sz_Sorted l[i].f0 left h0 h1 (hg l[i] (List.getElem_mem hlt))
    by_cases hn : r1 < 0
    · refine ⟨-1, Ev.step (fun k => by rw [laws_szSortedRunS.l0, if_pos (by omega), if_pos (by omega), hr]) (Ev.bind e1 (Ev.pos hn (Ev.now _))), fun h => by omega⟩
    · have q1 := b1 (by omega)
      obtain ⟨r2, e2, b2⟩ := ih (i + 1) r1 (by omega) (by omega) (by omega) (by omega)
      refine ⟨r2, Ev.step (fun k => by rw [laws_szSortedRunS.l0, if_pos (by omega), if_pos (by omega), hr, hw]) (Ev.bind e1 (Ev.neg hn e2)), fun h => ?_⟩
      have q2 := b2 h
      refine ⟨by omega, fun x hx => ?_⟩
      rw [List.drop_eq_getElem_cons hlt, List.mem_cons] at hx
      rcases hx with rfl | hx
      · exact q1.2
      · exact q2.2 x hx
theorem szSortedS (l : List S45) (left : Int) (hl : l.length ≤ 9223372036854775807) (hg : ∀ x ∈ l, okRun 9223372036854775807 x.f0) (h0 : 0 ≤ left) (h1 : left ≤ 1048576) :
    ∃ r, Ev (fun k => laws_szSortedRunS.f k l left) r ∧ (0 ≤ r → r ≤ left ∧ l.length ≤ 1048576 ∧ ∀ x ∈ l, okRun 1048576 x.f0) := by
  have hw : wrap64 (left - (l.length : Int)) = left - (l.length : Int) := wrap64_id (by omega) (by omega)
  by_cases hn : left - (l.length : Int) < 0
  · exact ⟨-1, Ev.congr (fun k => by rw [laws_szSortedRunS.f, hw, if_pos hn]) (Ev.now _), fun h => by omega⟩
  · obtain ⟨r, e, b⟩ := szSortedS_l0 l (by omega) hg l.length 0 (left - (l.length : Int)) (by omega) (by omega) rfl (by omega)
    refine ⟨r, Ev.congr (fun k => by rw [laws_szSortedRunS.f, hw, if_neg hn]; rfl) e, fun h => ?_⟩
    have q := b h
    exact ⟨by omega, by omega, by simpa using q.2⟩
def entI (seq : Int) : List S118 → List Int → Option (List Int)
  | [], seen => some seen
  | e :: es, seen => if e.f1 ∈ seen then none else if e.f1 > seq then none else entI seq es (seen ++ [e.f1])
def runsI (seq : Int) : List S53 → List Int → Option (List Int)
  | [], seen => some seen
  | r :: rs, seen => if runFault r.f0 = 0 then (match entI seq r.f0 seen with | none => none | some s => runsI seq rs s) else none
def runsS (seq : Int) : List S53 → List Int → Option (List Int)
  | [], seen => some seen
  | r :: rs, seen => if runFault r.f0 = 0 then (if seen.length + r.f0.length > 1000 then none else (match entI seq r.f0 seen with | none => none | some s => runsS seq rs s)) else none
theorem entI_len (seq : Int) : ∀ (es : List S118) (seen s : List Int), entI seq es seen = some s → s.length = seen.length + es.length := by
  intro es
  induction es with
  | nil => intro seen s h; simp only [entI, Option.some.injEq] at h; subst h; simp
  | cons e es ih =>
    intro seen s h
    rw [entI] at h
    split at h
    · cases h
    · split at h
      · cases h
      · have := ih _ _ h
        simp at this ⊢
        omega
theorem entI_nodup (seq : Int) : ∀ (es : List S118) (seen s : List Int), seen.Nodup → entI seq es seen = some s → s.Nodup := by
  intro es
  induction es with
  | nil => intro seen s hn h; simp only [entI, Option.some.injEq] at h; subst h; exact hn
  | cons e es ih =>
    intro seen s hn h
    rw [entI] at h
    split at h
    · cases h
    · rename_i hm
      split at h
      · cases h
      · refine ih _ _ (List.nodup_append.2 ⟨hn, by simp, fun a ha b hb e2 => ?_⟩) h
        simp at hb
        subst hb
        subst e2
        exact hm ha
theorem runsI_len (seq : Int) : ∀ (rs : List S53) (seen s : List Int), runsI seq rs seen = some s → seen.length ≤ s.length := by
  intro rs
  induction rs with
  | nil => intro seen s h; simp only [runsI, Option.some.injEq] at h; subst h; exact Nat.le_refl _
  | cons r rs ih =>
    intro seen s h
    rw [runsI] at h
    split at h
    · cases he : entI seq r.f0 seen with
      | none => rw [he] at h; cases h
      | some s2 =>
        rw [he] at h
        have := entI_len seq _ _ _ he
        have := ih _ _ h
        omega
    · cases h
theorem runsS_of (seq : Int) : ∀ (rs : List S53) (seen : List Int), (∀ s, runsI seq rs seen = some s → s.length ≤ 1000 → runsS seq rs seen = some s) ∧ (∀ s, runsS seq rs seen = some s → runsI seq rs seen = some s) := by
  intro rs
  induction rs with
  | nil => intro seen; exact ⟨fun s h _ => h, fun s h => h⟩
  | cons r rs ih =>
    intro seen
    rw [runsI, runsS]
    by_cases hf : runFault r.f0 = 0
    · rw [if_pos hf, if_pos hf]
      cases he : entI seq r.f0 seen with
      | none => exact ⟨fun s h => (by cases h), fun s h => (by split at h <;> cases h)⟩
      | some s2 =>
        have hl := entI_len seq _ _ _ he
        refine ⟨fun s h hs => ?_, fun s h => ?_⟩
        · have h2 := runsI_len seq _ _ _ h
          rw [if_neg (by omega)]
          exact (ih s2).1 s h hs
        · split at h
          · cases h
          · exact (ih s2).2 s h
    · rw [if_neg hf, if_neg hf]
      exact ⟨fun s h => (by cases h), fun s h => (by cases h)⟩
def mostOf (l : List Int) : Int := l.foldl max 0
theorem le_foldl_max (l : List Int) : ∀ a x : Int, x ≤ l.foldl max a ↔ x ≤ a ∨ ∃ y ∈ l, x ≤ y := by
  induction l with
  | nil => intro a x; simp
  | cons y l ih =>
    intro a x
    rw [List.foldl_cons, ih]
    constructor
    · rintro (h | ⟨z, hz, h⟩)
      · rcases Int.le_total a y with h2 | h2
        · rw [Int.max_eq_right h2] at h
          exact Or.inr ⟨y, List.mem_cons_self, h⟩
        · rw [Int.max_eq_left h2] at h
          exact Or.inl h
      · exact Or.inr ⟨z, List.mem_cons_of_mem _ hz, h⟩
    · rintro (h | ⟨z, hz, h⟩)
      · exact Or.inl (Int.le_trans h (Int.le_max_left _ _))
      · rcases List.mem_cons.1 hz with rfl | hz
        · exact Or.inl (Int.le_trans h (Int.le_max_right _ _))
        · exact Or.inr ⟨z, hz, h⟩
def freshI (seq most : Int) : List S118 → Bool
  | [] => true
  | e :: es => if e.f1 ≤ most then false else if e.f1 > seq then false else freshI seq most es
def aboveAll (x : Int) : List Int → Bool
  | [] => true
  | y :: l => if x ≤ y then false else aboveAll x l
def freshS (seq : Int) (seqs : List Int) : List S118 → Bool
  | [] => true
  | e :: es => if e.f1 > seq then false else if aboveAll e.f1 seqs = true then freshS seq seqs es else false
theorem aboveAll_iff (x : Int) (l : List Int) : aboveAll x l = true ↔ ∀ y ∈ l, ¬ x ≤ y := by
  induction l with
  | nil => simp [aboveAll]
  | cons y l ih =>
    rw [aboveAll]
    by_cases h : x ≤ y
    · rw [if_pos h]
      exact ⟨fun h2 => (by cases h2), fun h2 => absurd h (h2 y List.mem_cons_self)⟩
    · rw [if_neg h, ih]
      constructor
      · intro h2 z hz
        rcases List.mem_cons.1 hz with rfl | hz
        · exact h
        · exact h2 z hz
      · intro h2 z hz
        exact h2 z (List.mem_cons_of_mem _ hz)
theorem fresh_eq (seq : Int) (seqs : List Int) : ∀ es : List S118, (∀ e ∈ es, 1 ≤ e.f1) → freshI seq (mostOf seqs) es = freshS seq seqs es := by
  intro es
  induction es with
  | nil => intro _; rfl
  | cons e es ih =>
    intro h
    have h1 := h e List.mem_cons_self
    rw [freshI, freshS, ih (fun x hx => h x (List.mem_cons_of_mem _ hx))]
    have hm : e.f1 ≤ mostOf seqs ↔ ∃ y ∈ seqs, e.f1 ≤ y := by
      unfold mostOf
      rw [le_foldl_max]
      exact ⟨fun h2 => h2.resolve_left (by omega), Or.inr⟩
    by_cases h2 : e.f1 > seq
    · rw [if_pos h2, if_pos h2]; split <;> rfl
    · rw [if_neg h2, if_neg h2]
      by_cases h3 : e.f1 ≤ mostOf seqs
      · rw [if_pos h3, if_neg (fun h4 => by obtain ⟨y, hy, hle⟩ := hm.1 h3; exact (aboveAll_iff _ _).1 h4 y hy hle)]
      · rw [if_neg h3, if_pos ((aboveAll_iff _ _).2 (fun y hy hle => h3 (hm.2 ⟨y, hy, hle⟩)))]
theorem runFrom_pos (l : List S118) : ∀ (d i : Nat), runFrom l d i = 0 → ∀ j, i ≤ j → j < i + d → 1 ≤ (enAt l j).f1 := by
  intro d
  induction d with
  | zero => intro i _ j h1 h2; omega
  | succ d ih =>
    intro i h j h1 h2
    rw [runFrom] at h
    split at h
    · cases h
    · rename_i hb
      by_cases e : j = i
      · subst e
        have hh : headBad (enAt l j) = false := by
          cases hc : headBad (enAt l j) with
          | false => rfl
          | true => exact absurd (badAt_head hc) hb
        unfold headBad at hh
        have := of_decide_eq_false hh
        omega
      · exact ih (i + 1) h j (by omega) (by omega)
theorem runFault_pos (l : List S118) (h : runFault l = 0) : ∀ e ∈ l, 1 ≤ e.f1 := by
  unfold runFault at h
  split at h
  · cases h
  · intro e he
    obtain ⟨j, hj, rfl⟩ := List.mem_iff_getElem.1 he
    have := runFrom_pos l l.length 0 h j (by omega) (by omega)
    unfold enAt at this
    rwa [rdi_RunEntry l j hj] at this
def tableOf (seq floor : Int) (fresh : List S118) (runs : List S53) : Int :=
  if (runs.length : Int) > 20 then 1 else if runFault fresh = 0 then (if seq > 4611686018427387904 then 1 else if floor < 0 then 1 else if floor > seq then 1 else
    match runsI seq runs [] with
    | none => 1
    | some s => if freshI seq (mostOf s) fresh = true then (if s.length + fresh.length > 1000 then 1 else 0) else 1) else 1
def tailOf (seq : Int) (fresh : List S118) (s : List Int) : Int := if freshI seq (mostOf s) fresh = true then (if s.length + fresh.length > 1000 then 1 else 0) else 1
theorem mostOf_snoc (l : List Int) (x : Int) : mostOf (l ++ [x]) = mx (mostOf l) x := by
  unfold mostOf mx
  rw [List.foldl_append]
  show max (l.foldl max 0) x = _
  by_cases h : l.foldl max 0 < x
  · rw [if_pos h]; exact Int.max_eq_right (by omega)
  · rw [if_neg h]; exact Int.max_eq_left (by omega)
theorem impl_fresh_l2 (seq floor : Int) (fresh : List S118) (runs : List S53) (s : List Int) (hn : s.Nodup) (hs : s.length ≤ 1048576) (hl : fresh.length ≤ 1048576) : ∀ (d i : Nat), fresh.length - i = d → i ≤ fresh.length →
    Ev (fun k => impl_TableFault.l2 k s (mostOf s) fresh (fresh.length : Int) (i : Int) seq floor fresh runs) (if freshI seq (mostOf s) (fresh.drop i) = true then (if s.length + fresh.length > 1000 then 1 else 0) else 1) := by
  intro d
  induction d with
  | zero =>
    intro i hd hi
    rw [List.drop_eq_nil_of_le (by omega)]
    have hw : wrap64 ((s.length : Int) + (fresh.length : Int)) = (s.length : Int) + (fresh.length : Int) := wrap64_id (by omega) (by omega)
    refine Ev.step (fun k => by rw [impl_TableFault.l2, if_neg (by omega)]) (Ev.bindS (show mapLen.f s = some (s.length : Int) by unfold mapLen.f; rw [if_pos hn]) ?_)
    rw [hw, freshI, if_pos rfl]
    by_cases h : s.length + fresh.length > 1000
    · rw [if_pos h]; exact Ev.pos (by omega) (Ev.now _)
    · rw [if_neg h]; exact Ev.neg (by omega) (Ev.now _)
  | succ d ih =>
    intro i hd hi
    have hlt : i < fresh.length := by omega
    have hr := rdi_RunEntry fresh i hlt
    have hw : wrap64 ((i : Int) + 1) = ((i + 1 : Nat) : Int) := by rw [wrap64_id (by omega) (by omega)]; rfl
    have hn2 := ih (i + 1) (by omega) (by omega)
    rw [List.drop_eq_getElem_cons hlt, freshI]
    refine Ev.step (fun k => by rw [impl_TableFault.l2, if_pos (by omega), if_pos (by omega), if_pos (by omega), hr]) ?_
    by_cases h1 : fresh[i].f1 ≤ mostOf s
    · rw [if_pos h1, if_neg (by decide : ¬ (false = true))]
      refine Ev.pos h1 (Ev.step (fun k => by rw [impl_TableFault.j5, if_pos rfl]) (Ev.now _))
    · refine Ev.neg h1 ?_
      rw [if_neg h1]
      by_cases h2 : fresh[i].f1 > seq
      · rw [if_pos h2, decide_eq_true h2, if_neg (by decide : ¬ (false = true))]
        exact Ev.step (fun k => by rw [impl_TableFault.j5, if_pos rfl]) (Ev.now _)
      · rw [if_neg h2, decide_eq_false h2]
        exact Ev.step (fun k => by rw [impl_TableFault.j5, if_neg (by decide), hw]) hn2
theorem impl_ent_l1 (seq floor : Int) (fresh : List S118) (runs : List S53) (es : List S118) (i : Int) (he : es.length ≤ 1000) (hx : ∀ e ∈ es, (Lit.int .i64 e.f1).wf = true) (next : List Int → Int) :
    ∀ (d j : Nat) (s : List Int), es.length - j = d → j ≤ es.length → s.length ≤ 1048576 - 1000 + j →
    (∀ s2, entI seq (es.drop j) s = some s2 → Ev (fun k => impl_TableFault.l0 k s2 (mostOf s2) runs (runs.length : Int) (wrap64 (i + 1)) seq floor fresh runs) (next s2)) →
    Ev (fun k => impl_TableFault.l1 k s (mostOf s) runs (runs.length : Int) i es (es.length : Int) (j : Int) seq floor fresh runs) (match entI seq (es.drop j) s with | none => 1 | some s2 => next s2) := by
  intro d
  induction d with
  | zero =>
    intro j s hd hj hs hnext
    rw [List.drop_eq_nil_of_le (by omega)] at hnext ⊢
    exact Ev.step (fun k => by rw [impl_TableFault.l1, if_neg (by omega)]) (hnext s rfl)
  | succ d ih =>
    intro j s hd hj hs hnext
    have hlt : j < es.length := by omega
    have hr := rdi_RunEntry es j hlt
    have hw : wrap64 ((j : Int) + 1) = ((j + 1 : Nat) : Int) := by rw [wrap64_id (by omega) (by omega)]; rfl
    have hxx := hx _ (List.getElem_mem hlt)
    rw [List.drop_eq_getElem_cons hlt, entI] at hnext ⊢
    refine Ev.step (fun k => by rw [impl_TableFault.l1, if_pos (by omega), if_pos (by omega), if_pos (by omega), hr]) (Ev.bindS (show mapHas.f s es[j].f1 = some (decide (es[j].f1 ∈ s)) by unfold mapHas.f; rw [if_pos hxx]) ?_)
    by_cases h1 : es[j].f1 ∈ s
    · rw [if_pos h1, decide_eq_true h1]
      exact Ev.pos rfl (Ev.step (fun k => by rw [impl_TableFault.j3, if_pos rfl]) (Ev.now _))
    · rw [if_neg h1] at hnext ⊢
      rw [decide_eq_false h1]
      refine Ev.neg (by decide) ?_
      by_cases h2 : es[j].f1 > seq
      · rw [if_pos h2, decide_eq_true h2]
        exact Ev.step (fun k => by rw [impl_TableFault.j3, if_pos rfl]) (Ev.now _)
      · rw [if_neg h2] at hnext ⊢
        rw [decide_eq_false h2]
        refine Ev.step (fun k => by rw [impl_TableFault.j3, if_neg (by decide), hw]) (Ev.bindS (show keyIn.f es[j].f1 = some es[j].f1 by unfold keyIn.f; rw [if_pos hxx]) ?_)
        refine Ev.pos (show s.length < 17592186044416 by omega) ?_
        have q := ih (j + 1) (s ++ [es[j].f1]) (by omega) (by omega) (by simp; omega) hnext
        rw [mostOf_snoc] at q
        exact q
theorem runFault_len (l : List S118) (h : runFault l = 0) : l.length ≤ 1000 := by
  unfold runFault at h
  split at h
  · cases h
  · omega
theorem impl_runs_l0 (seq floor : Int) (fresh : List S118) (runs : List S53) (hrl : runs.length ≤ 20) (hf : fresh.length ≤ 1048576) (hx : ∀ r ∈ runs, ∀ e ∈ r.f0, (Lit.int .i64 e.f1).wf = true) :
    ∀ (d i : Nat) (s : List Int), runs.length - i = d → i ≤ runs.length → s.Nodup → s.length ≤ 1000 * i →
    Ev (fun k => impl_TableFault.l0 k s (mostOf s) runs (runs.length : Int) (i : Int) seq floor fresh runs) (match runsI seq (runs.drop i) s with | none => 1 | some s2 => tailOf seq fresh s2) := by
  intro d
  induction d with
  | zero =>
    intro i s hd hi hn hs
    rw [List.drop_eq_nil_of_le (by omega), runsI]
    refine Ev.step (fun k => by rw [impl_TableFault.l0, if_neg (by omega)]) ?_
    have q := impl_fresh_l2 seq floor fresh runs s hn (by omega) hf fresh.length 0 rfl (by omega)
    rw [List.drop_zero] at q
    exact q
  | succ d ih =>
    intro i s hd hi hn hs
    have hlt : i < runs.length := by omega
    have hr := rdi_Sorted runs i hlt
    have hw : wrap64 ((i : Int) + 1) = ((i + 1 : Nat) : Int) := by rw [wrap64_id (by omega) (by omega)]; rfl
    have hxr := hx _ (List.getElem_mem hlt)
    rw [List.drop_eq_getElem_cons hlt, runsI]
    refine Ev.step (fun k => by rw [impl_TableFault.l0, if_pos (by omega), if_pos (by omega), if_pos (by omega), hr]) (Ev.bind (impl_runFault runs[i].f0 (fun j hj => by unfold enAt; rw [rdi_RunEntry _ j hj]; exact hxr _ (List.getElem_mem hj))) ?_)
    by_cases h0 : runFault runs[i].f0 = 0
    · rw [if_pos h0]
      refine Ev.pos h0 ?_
      have hlen := runFault_len _ h0
      have q := impl_ent_l1 seq floor fresh runs runs[i].f0 (i : Int) hlen hxr (fun s2 => match runsI seq (runs.drop (i + 1)) s2 with | none => 1 | some s3 => tailOf seq fresh s3) runs[i].f0.length 0 s rfl (by omega) (by omega) (fun s2 h2 => by
        rw [List.drop_zero] at h2
        rw [hw]
        have hl2 := entI_len seq _ _ _ h2
        exact ih (i + 1) s2 (by omega) (by omega) (entI_nodup seq _ _ _ hn h2) (by omega))
      rw [List.drop_zero] at q
      cases hE : entI seq runs[i].f0 s with
      | none => rw [hE] at q; exact q
      | some s2 => rw [hE] at q; exact q
    · rw [if_neg h0]
      exact Ev.neg h0 (Ev.now _)
theorem impl_table (seq floor : Int) (fresh : List S118) (runs : List S53) (hf : fresh.length ≤ 1048576) (hxf : ∀ e ∈ fresh, (Lit.int .i64 e.f1).wf = true) (hx : ∀ r ∈ runs, ∀ e ∈ r.f0, (Lit.int .i64 e.f1).wf = true) :
    Ev (fun k => impl_TableFault.f k seq floor fresh runs) (tableOf seq floor fresh runs) := by
  have T : Ev (fun k => impl_TableFault.j0 k true seq floor fresh runs) 1 := Ev.step (fun k => by rw [impl_TableFault.j0, if_pos rfl]) (Ev.now _)
  unfold tableOf
  refine Ev.congr (fun k => by rw [impl_TableFault.f]) ?_
  by_cases h0 : (runs.length : Int) > 20
  · rw [if_pos h0]; exact Ev.pos h0 T
  · refine Ev.neg h0 (Ev.bind (impl_runFault fresh (fun j hj => by unfold enAt; rw [rdi_RunEntry _ j hj]; exact hxf _ (List.getElem_mem hj))) ?_)
    rw [if_neg h0]
    by_cases h1 : runFault fresh = 0
    · refine Ev.pos h1 ?_
      rw [if_pos h1]
      by_cases h2 : seq > 4611686018427387904
      · rw [if_pos h2]; exact Ev.pos h2 T
      · refine Ev.neg h2 ?_
        rw [if_neg h2]
        by_cases h3 : floor < 0
        · rw [if_pos h3]; exact Ev.pos h3 T
        · refine Ev.neg h3 ?_
          rw [if_neg h3]
          by_cases h4 : floor > seq
          · rw [if_pos h4, decide_eq_true h4]; exact T
          · rw [if_neg h4, decide_eq_false h4]
            refine Ev.step (fun k => by rw [impl_TableFault.j0, if_neg (by decide)]) ?_
            have q := impl_runs_l0 seq floor fresh runs (by omega) hf hx runs.length 0 [] rfl (by omega) List.nodup_nil (by simp)
            rw [List.drop_zero] at q
            exact q
    · rw [if_neg h1]
      exact Ev.neg h1 T
def tailS (seq : Int) (fresh : List S118) (s : List Int) : Int := if s.length + fresh.length > 1000 then 1 else if freshS seq s fresh = true then 0 else 1
theorem spec_above_l3 (seq floor : Int) (fresh : List S118) (runs : List S53) (s : List Int) (hs : s.length ≤ 1048576) (i : Int) (x : Int) (r : Int) (hnext : Ev (fun k => spec_TableFault.l2 k s (wrap64 (i + 1)) seq floor fresh runs) r) :
    ∀ (d j : Nat), s.length - j = d → j ≤ s.length → Ev (fun k => spec_TableFault.l3 k s i x (j : Int) seq floor fresh runs) (if aboveAll x (s.drop j) = true then r else 1) := by
  intro d
  induction d with
  | zero =>
    intro j hd hj
    rw [List.drop_eq_nil_of_le (by omega)]
    exact Ev.step (fun k => by rw [spec_TableFault.l3, if_neg (by omega)]) (by simpa [aboveAll] using hnext)
  | succ d ih =>
    intro j hd hj
    have hlt : j < s.length := by omega
    have hr : rd s (j : Int) = s[j] := by unfold rd; rw [Int.toNat_natCast, List.getD_eq_getElem?_getD, List.getElem?_eq_getElem hlt]; rfl
    have hw : wrap64 ((j : Int) + 1) = ((j + 1 : Nat) : Int) := by rw [wrap64_id (by omega) (by omega)]; rfl
    have hn := ih (j + 1) (by omega) (by omega)
    rw [List.drop_eq_getElem_cons hlt, aboveAll]
    refine Ev.step (fun k => by rw [spec_TableFault.l3, if_pos (by omega), if_pos (by omega), hr, hw]) ?_
    by_cases h : x ≤ s[j]
    · rw [if_pos h]; exact Ev.pos h (Ev.now _)
    · rw [if_neg h]; exact Ev.neg h hn
theorem spec_fresh_l2 (seq floor : Int) (fresh : List S118) (runs : List S53) (s : List Int) (hs : s.length ≤ 1048576) (hf : fresh.length ≤ 1048576) :
    ∀ (d i : Nat), fresh.length - i = d → i ≤ fresh.length → Ev (fun k => spec_TableFault.l2 k s (i : Int) seq floor fresh runs) (if freshS seq s (fresh.drop i) = true then 0 else 1) := by
  intro d
  induction d with
  | zero =>
    intro i hd hi
    rw [List.drop_eq_nil_of_le (by omega)]
    exact Ev.step (fun k => by rw [spec_TableFault.l2, if_neg (by omega)]; rfl) (Ev.now _)
  | succ d ih =>
    intro i hd hi
    have hlt : i < fresh.length := by omega
    have hr := rdi_RunEntry fresh i hlt
    have hw : wrap64 ((i : Int) + 1) = ((i + 1 : Nat) : Int) := by rw [wrap64_id (by omega) (by omega)]; rfl
    have hn := ih (i + 1) (by omega) (by omega)
    rw [List.drop_eq_getElem_cons hlt, freshS]
    refine Ev.step (fun k => by rw [spec_TableFault.l2, if_pos (by omega), if_pos (by omega), hr]) ?_
    by_cases h1 : fresh[i].f1 > seq
    · rw [if_pos h1]; exact Ev.pos h1 (Ev.now _)
    · refine Ev.neg h1 ?_
      rw [if_neg h1]
      have q := spec_above_l3 seq floor fresh runs s hs (i : Int) fresh[i].f1 _ (by rw [hw]; exact hn) s.length 0 rfl (by omega)
      rw [List.drop_zero] at q
      by_cases h2 : aboveAll fresh[i].f1 s = true
      · rw [if_pos h2] at q ⊢; exact q
      · rw [if_neg h2] at q ⊢; exact q
theorem spec_ent_l1 (seq floor : Int) (fresh : List S118) (runs : List S53) (i : Nat) (hi : i < runs.length) (hrl : runs.length ≤ 20) (t : Int) (he : runs[i].f0.length ≤ 1000) (next : List Int → Int) :
    ∀ (d j : Nat) (s : List Int), runs[i].f0.length - j = d → j ≤ runs[i].f0.length → s.length ≤ 1048576 - 1000 + j →
    (∀ s2, entI seq (runs[i].f0.drop j) s = some s2 → Ev (fun k => spec_TableFault.l0 k s2 t (wrap64 ((i : Int) + 1)) seq floor fresh runs) (next s2)) →
    Ev (fun k => spec_TableFault.l1 k s t (i : Int) (j : Int) seq floor fresh runs) (match entI seq (runs[i].f0.drop j) s with | none => 1 | some s2 => next s2) := by
  have hR := rdi_Sorted runs i hi
  intro d
  induction d with
  | zero =>
    intro j s hd hj hs hnext
    rw [List.drop_eq_nil_of_le (by omega)] at hnext ⊢
    exact Ev.step (fun k => by rw [spec_TableFault.l1, if_pos (by omega), if_pos (by omega), hR, if_neg (by omega)]) (hnext s rfl)
  | succ d ih =>
    intro j s hd hj hs hnext
    have hlt : j < runs[i].f0.length := by omega
    have hr := rdi_RunEntry runs[i].f0 j hlt
    have hw : wrap64 ((j : Int) + 1) = ((j + 1 : Nat) : Int) := by rw [wrap64_id (by omega) (by omega)]; rfl
    have E : entI seq (runs[i].f0.drop j) s = if (runs[i].f0)[j].f1 ∈ s then none else if (runs[i].f0)[j].f1 > seq then none else entI seq (runs[i].f0.drop (j + 1)) (s ++ [(runs[i].f0)[j].f1]) := by
      rw [List.drop_eq_getElem_cons hlt, entI]
    rw [E] at hnext ⊢
    refine Ev.step (fun k => by rw [spec_TableFault.l1, if_pos (by omega), if_pos (by omega), hR, if_pos (by omega), if_pos (by omega), hr]) ?_
    generalize (runs[i].f0)[j] = e at hnext ⊢
    by_cases h2 : e.f1 > seq
    · refine Ev.pos h2 (Ev.step (fun k => by rw [spec_TableFault.j3, if_pos rfl]) ?_)
      by_cases h1 : e.f1 ∈ s
      · rw [if_pos h1]; exact Ev.now _
      · rw [if_neg h1, if_pos h2]; exact Ev.now _
    · refine Ev.neg h2 (Ev.bind (inInts s (by omega) e.f1) ?_)
      by_cases h1 : e.f1 ∈ s
      · rw [if_pos h1, decide_eq_true h1]
        exact Ev.step (fun k => by rw [spec_TableFault.j3, if_pos rfl]) (Ev.now _)
      · rw [if_neg h1, if_neg h2] at hnext ⊢
        rw [decide_eq_false h1]
        refine Ev.step (fun k => by rw [spec_TableFault.j3, if_neg (by decide), if_pos (by omega), hw]) ?_
        exact ih (j + 1) (s ++ [e.f1]) (by omega) (by omega) (by simp; omega) hnext
theorem spec_runs_l0 (seq floor : Int) (fresh : List S118) (runs : List S53) (hrl : runs.length ≤ 20) (hf : fresh.length ≤ 1048576) :
    ∀ (d i : Nat) (s : List Int), runs.length - i = d → i ≤ runs.length → s.length ≤ 1000 * i →
    Ev (fun k => spec_TableFault.l0 k s (s.length : Int) (i : Int) seq floor fresh runs) (match runsS seq (runs.drop i) s with | none => 1 | some s2 => tailS seq fresh s2) := by
  intro d
  induction d with
  | zero =>
    intro i s hd hi hs
    rw [List.drop_eq_nil_of_le (by omega), runsS]
    have hw : wrap64 ((s.length : Int) + (fresh.length : Int)) = (s.length : Int) + (fresh.length : Int) := wrap64_id (by omega) (by omega)
    refine Ev.step (fun k => by rw [spec_TableFault.l0, if_neg (by omega), hw]) ?_
    show Ev _ (tailS seq fresh s)
    unfold tailS
    by_cases h : s.length + fresh.length > 1000
    · rw [if_pos h]; exact Ev.pos (by omega) (Ev.now _)
    · rw [if_neg h]
      have q := spec_fresh_l2 seq floor fresh runs s (by omega) hf fresh.length 0 rfl (by omega)
      rw [List.drop_zero] at q
      exact Ev.neg (by omega) q
  | succ d ih =>
    intro i s hd hi hs
    have hlt : i < runs.length := by omega
    have hr := rdi_Sorted runs i hlt
    have hw : wrap64 ((i : Int) + 1) = ((i + 1 : Nat) : Int) := by rw [wrap64_id (by omega) (by omega)]; rfl
    rw [List.drop_eq_getElem_cons hlt, runsS]
    refine Ev.step (fun k => by rw [spec_TableFault.l0, if_pos (by omega), if_pos (by omega), hr]) (Ev.bind (spec_runFault runs[i].f0) ?_)
    by_cases h0 : runFault runs[i].f0 = 0
    · rw [if_pos h0]
      refine Ev.pos h0 ?_
      have hlen := runFault_len _ h0
      have hv : wrap64 ((s.length : Int) + (runs[i].f0.length : Int)) = (s.length : Int) + (runs[i].f0.length : Int) := wrap64_id (by omega) (by omega)
      rw [hv]
      by_cases h1 : s.length + runs[i].f0.length > 1000
      · rw [if_pos h1]; exact Ev.pos (by omega) (Ev.now _)
      · rw [if_neg h1]
        refine Ev.neg (by omega) ?_
        have q := spec_ent_l1 seq floor fresh runs i hlt hrl ((s.length : Int) + (runs[i].f0.length : Int)) hlen (fun s2 => match runsS seq (runs.drop (i + 1)) s2 with | none => 1 | some s3 => tailS seq fresh s3) runs[i].f0.length 0 s rfl (by omega) (by omega) (fun s2 h2 => by
          rw [List.drop_zero] at h2
          rw [hw]
          have hl2 := entI_len seq _ _ _ h2
          have e : (s.length : Int) + (runs[i].f0.length : Int) = (s2.length : Int) := by omega
          rw [e]
          exact ih (i + 1) s2 (by omega) (by omega) (by omega))
        rw [List.drop_zero] at q
        cases hE : entI seq runs[i].f0 s with
        | none => rw [hE] at q; exact q
        | some s2 => rw [hE] at q; exact q
    · rw [if_neg h0]
      exact Ev.neg h0 (Ev.now _)
theorem table_eq (seq : Int) (fresh : List S118) (runs : List S53) (hp : ∀ e ∈ fresh, 1 ≤ e.f1) :
    (match runsI seq runs [] with | none => 1 | some s2 => tailOf seq fresh s2) = (match runsS seq runs [] with | none => 1 | some s2 => tailS seq fresh s2) := by
  have q := runsS_of seq runs []
  cases hI : runsI seq runs [] with
  | none =>
    cases hS : runsS seq runs [] with
    | none => rfl
    | some s => have := q.2 s hS; rw [hI] at this; cases this
  | some s =>
    by_cases hs : s.length ≤ 1000
    · rw [q.1 s hI hs]
      show tailOf seq fresh s = tailS seq fresh s
      unfold tailOf tailS
      rw [fresh_eq seq s fresh hp]
      by_cases h1 : s.length + fresh.length > 1000
      · rw [if_pos h1, if_pos h1]; split <;> rfl
      · rw [if_neg h1, if_neg h1]
    · have e1 : tailOf seq fresh s = 1 := by
        unfold tailOf; rw [if_pos (by omega : s.length + fresh.length > 1000)]; split <;> rfl
      show tailOf seq fresh s = _
      rw [e1]
      cases hS : runsS seq runs [] with
      | none => rfl
      | some s2 =>
        have := q.2 s2 hS
        rw [hI] at this
        cases this
        show 1 = tailS seq fresh s
        unfold tailS
        rw [if_pos (by omega)]
theorem spec_table (seq floor : Int) (fresh : List S118) (runs : List S53) (hf : fresh.length ≤ 1048576) :
    Ev (fun k => spec_TableFault.f k seq floor fresh runs) (tableOf seq floor fresh runs) := by
  have T : tableOf seq floor fresh runs = 1 → Ev (fun k => spec_TableFault.j0 k true seq floor fresh runs) (tableOf seq floor fresh runs) := fun e => by
    rw [e]; exact Ev.step (fun k => by rw [spec_TableFault.j0, if_pos rfl]) (Ev.now _)
  have B : ∀ (c : Prop) [Decidable c] (x : Int), (if c then (1 : Int) else x) = 1 ∨ ¬ c := fun c _ x => by by_cases h : c; exact Or.inl (if_pos h); exact Or.inr h
  refine Ev.congr (fun k => by rw [spec_TableFault.f]) ?_
  have A : (seq < 0 ∨ seq > 4611686018427387904 ∨ floor < 0 ∨ floor > seq ∨ (runs.length : Int) > 20 ∨ ¬ runFault fresh = 0) → tableOf seq floor fresh runs = 1 := by
    intro h
    unfold tableOf
    by_cases h0 : (runs.length : Int) > 20
    · rw [if_pos h0]
    · rw [if_neg h0]
      by_cases h1 : runFault fresh = 0
      · rw [if_pos h1]
        by_cases h2 : seq > 4611686018427387904
        · rw [if_pos h2]
        · rw [if_neg h2]
          by_cases h3 : floor < 0
          · rw [if_pos h3]
          · rw [if_neg h3, if_pos (by omega)]
      · rw [if_neg h1]
  by_cases h1 : seq < 0
  · exact Ev.pos h1 (T (A (by omega)))
  · refine Ev.neg h1 ?_
    by_cases h2 : seq > 4611686018427387904
    · exact Ev.pos h2 (T (A (by omega)))
    · refine Ev.neg h2 ?_
      by_cases h3 : floor < 0
      · exact Ev.pos h3 (T (A (by omega)))
      · refine Ev.neg h3 ?_
        by_cases h4 : floor > seq
        · exact Ev.pos h4 (T (A (by omega)))
        · refine Ev.neg h4 ?_
          by_cases h5 : (runs.length : Int) > 20
          · exact Ev.pos h5 (T (A (by omega)))
          · refine Ev.neg h5 (Ev.bind (spec_runFault fresh) ?_)
            by_cases h6 : runFault fresh = 0
            · have b : (runFault fresh != 0) = false := by rw [h6]; rfl
              rw [b]
              refine Ev.step (fun k => by rw [spec_TableFault.j0, if_neg (by decide)]) ?_
              have q := spec_runs_l0 seq floor fresh runs (by omega) hf runs.length 0 [] rfl (by omega) (by simp)
              rw [List.drop_zero, ← table_eq seq fresh runs (runFault_pos fresh h6)] at q
              unfold tableOf
              rw [if_neg h5, if_pos h6, if_neg h2, if_neg h3, if_neg h4]
              exact q
            · have b : (runFault fresh != 0) = true := bne_iff_ne.2 h6
              rw [b]
              exact T (A (by omega))
theorem szTable (seq floor : Int) (fresh : List S211) (runs : List S45) (left : Int) (h0 : 0 ≤ left) (h1 : left ≤ 1048576) (gf : okRun 9223372036854775807 fresh) (gl : runs.length ≤ 9223372036854775807) (gr : ∀ x ∈ runs, okRun 9223372036854775807 x.f0) :
    ∃ r, Ev (fun k => laws_szTable.f k seq floor fresh runs left) r ∧ (0 ≤ r → okRun 1048576 fresh ∧ runs.length ≤ 1048576 ∧ ∀ x ∈ runs, okRun 1048576 x.f0) := by
  obtain ⟨r1, e1, b1⟩ := sz_Sorted fresh left h0 h1 gf
  by_cases n1 : r1 < 0
  · exact ⟨-1, Ev.congr (fun k => by rw [laws_szTable.f]) (Ev.bind e1 (Ev.pos n1 (Ev.now _))), fun h => by omega⟩
  · have q1 := b1 (by omega)
    obtain ⟨r2, e2, b2⟩ := szSortedS runs r1 gl gr (by omega) (by omega)
    by_cases n2 : r2 < 0
    · exact ⟨-1, Ev.congr (fun k => by rw [laws_szTable.f]) (Ev.bind e1 (Ev.neg n1 (Ev.bind e2 (Ev.pos n2 (Ev.now _))))), fun h => by omega⟩
    · have q2 := b2 (by omega)
      exact ⟨r2, Ev.congr (fun k => by rw [laws_szTable.f]) (Ev.bind e1 (Ev.neg n1 (Ev.bind e2 (Ev.neg n2 (Ev.now _))))), fun h => ⟨q1.2, q2.2.1, q2.2.2⟩⟩
theorem FnExactTableFault : laws_FnExactTableFault.Wants := by
  intro seq floor fresh runs gq gp g2 g3
  refine Ev.rounds (Ev.congr (fun k => by rw [laws_FnExactTableFault.f]) ?_)
  obtain ⟨r, e, b⟩ := szTable seq floor fresh runs 1048576 (by omega) (by omega) ⟨g2.1, fun x hx => ⟨(g2.2 x hx).1, (g2.2 x hx).2.2.2⟩⟩ g3.1 (fun x hx => ⟨(g3.2 x hx).1, fun y hy => ⟨((g3.2 x hx).2 y hy).1, ((g3.2 x hx).2 y hy).2.2.2⟩⟩)
  refine Ev.bind e ?_
  by_cases hn : r < 0
  · exact Ev.pos hn (Ev.now _)
  · refine Ev.neg hn ?_
    obtain ⟨qf, ql, qr⟩ := b (by omega)
    have hto : Ev (fun k => laws_toTable.f k seq floor fresh runs) (seq, floor, fresh.map runEntryOf, runs.map sortedOf) := by
      refine Ev.congr (fun k => by rw [laws_toTable.f]) (Ev.bind (to_Sorted fresh qf.1) (Ev.bind (toSortedS runs ql qr) ?_))
      exact Ev.now _
    have mf : (fresh.map runEntryOf).length ≤ 1048576 := by simpa using qf.1
    have ml : (runs.map sortedOf).length ≤ 1048576 := by simpa using ql
    have mr : ∀ x ∈ runs.map sortedOf, x.f0.length ≤ 1048576 := fun x hx => by obtain ⟨y, hy, rfl⟩ := List.mem_map.1 hx; show (y.f0.map runEntryOf).length ≤ _; simpa using (qr y hy).1
    have hxf : ∀ e ∈ fresh.map runEntryOf, (Lit.int .i64 e.f1).wf = true := fun x hx => by obtain ⟨y, hy, rfl⟩ := List.mem_map.1 hx; exact (g2.2 y hy).2.1
    have hxr : ∀ x ∈ runs.map sortedOf, ∀ e ∈ x.f0, (Lit.int .i64 e.f1).wf = true := fun x hx e he => by
      obtain ⟨y, hy, rfl⟩ := List.mem_map.1 hx
      obtain ⟨z, hz, rfl⟩ := List.mem_map.1 (show e ∈ y.f0.map runEntryOf from he)
      exact ((g3.2 y hy).2 z hz).2.1
    have eq : Ev (fun k => laws_eqTable.f k seq floor (fresh.map runEntryOf) (runs.map sortedOf) seq floor (fresh.map runEntryOf) (runs.map sortedOf)) true :=
      Ev.congr (fun k => by rw [laws_eqTable.f]) (Ev.pos rfl (Ev.pos rfl (Ev.bind (eq_Sorted _ mf) (Ev.pos rfl (Ev.bind (eqSortedS _ ml mr) (Ev.pos rfl (Ev.now _)))))))
    exact Ev.bind hto (Ev.bind (spec_table seq floor _ _ mf) (Ev.bind hto (Ev.bind (impl_table seq floor _ _ mf hxf hxr) (Ev.pos rfl (Ev.bind hto (Ev.bind eq (Ev.pos rfl (Ev.now _))))))))
end Go.Proofs.Ytflpkbegdmihdaa.Pure
