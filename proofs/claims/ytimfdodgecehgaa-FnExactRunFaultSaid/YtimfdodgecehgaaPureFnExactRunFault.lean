/- The statement FnExactRunFault over numbers and lists alone: the program's RunFault and the reference's answer the same, and the run that was handed in is as it was. No condition. -/
import Derived.Test.YtimfdodgecehgaaQFnExactRunFaultx5
import Derived.Laws.BitsAllLaws
import Derived.Laws.Bits64
import Derived.Test.YtimfdodgecehgaaGoodFnExactRunFault
set_option linter.all false
namespace Go.Proofs.Ytimfdodgecehgaa.Pure
open Go.RowKit Go.Proofs.Ytimfdodgecehgaa.QFnExactRunFault Go.Proofs.YtimfdodgecehgaaW.PrintWords Go.Proofs.YtimfdodgecehgaaW.PrintLast Go.Proofs.YtimfdodgecehgaaW.PrintMore

/-! Small lemmas on wraps, rounds and lists. -/
theorem wrap64_id {x : Int} (h0 : -9223372036854775808 ≤ x) (h1 : x < 9223372036854775808) : wrap64 x = x := by unfold wrap64; omega
theorem u64_id {x : Int} (h0 : 0 ≤ x) (h1 : x < 18446744073709551616) : IntKind.u64.wrap x = x := by rw [IntKind.wrap_u64]; omega
theorem Ev.pos {α : Type} {c : Prop} [Decidable c] {f g : Nat → Option α} {r : α} (h : c) (e : Ev f r) : Ev (fun k => if c then f k else g k) r := by simpa [h] using e
theorem Ev.neg {α : Type} {c : Prop} [Decidable c] {f g : Nat → Option α} {r : α} (h : ¬ c) (e : Ev g r) : Ev (fun k => if c then f k else g k) r := by simpa [h] using e
theorem Ev.bindS {α β : Type} {g : Option α} {f : Nat → α → Option β} {a : α} {r : β} (h : g = some a) (e : Ev (fun k => f k a) r) : Ev (fun k => g.bind (f k)) r := by subst h; simpa using e
theorem Ev.give {α : Type} {r s : α} (h : s = r) : Ev (fun _ => some s) r := by subst h; exact Ev.now _
theorem bt_drop (s : ByteArray) (i : Nat) (h : i < s.size) : ∃ c : UInt8, s.data.toList.drop i = c :: s.data.toList.drop (i + 1) ∧ bt s (i : Int) = (c.toNat : Int) := by
  have hl : i < s.data.toList.length := by simpa using h
  refine ⟨s.data.toList[i], List.drop_eq_getElem_cons hl, ?_⟩
  unfold bt
  rw [dif_pos (by simpa using h)]
  simp [ByteArray.getElem_eq_getElem_data]
theorem drop_end (s : ByteArray) (i : Nat) (h : s.size ≤ i) : s.data.toList.drop i = [] := List.drop_eq_nil_of_le (by simpa using h)
theorem size_strOfNums (l : List Int) : (strOfNums l).size = l.length := by
  show (strOfNums l).data.size = l.length
  simp [strOfNums]
theorem i64_range {n : Int} (h : (Lit.int .i64 n).wf = true) : -9223372036854775808 ≤ n ∧ n < 9223372036854775808 := by
  simp only [Lit.wf, IntKind.min, IntKind.max, IntKind.signed, IntKind.bits, Bool.and_eq_true, decide_eq_true_eq, if_true] at h; omega
theorem byte_eq_int (c d : UInt8) : ((c.toNat : Int) = (d.toNat : Int)) ↔ c = d := by
  constructor
  · intro h; exact UInt8.toNat_inj.1 (by omega)
  · rintro rfl; rfl
theorem byte_eq_lit (c : UInt8) (n : Nat) (hn : n < 256) : ((c.toNat : Int) = (n : Int)) ↔ c = UInt8.ofNat n := by
  rw [← byte_eq_int]
  have : (UInt8.ofNat n).toNat = n := by simp [UInt8.toNat_ofNat']; omega
  rw [this]
theorem bt_get (s : ByteArray) (i : Nat) (h : i < s.size) : ∃ c : UInt8, s.data.toList[i]? = some c ∧ bt s (i : Int) = (c.toNat : Int) := by
  obtain ⟨c, e, hb⟩ := bt_drop s i h
  refine ⟨c, ?_, hb⟩
  have : (s.data.toList.drop i)[0]? = some c := by rw [e]; rfl
  simpa using this

theorem set_prefix {α β : Type} (f : α → β) (z : β) (l : List α) (i : Nat) (h : i < l.length) (x : α) (hx : l[i]? = some x) :
    ((l.take i).map f ++ List.replicate (l.length - i) z).set i (f x) = (l.take (i + 1)).map f ++ List.replicate (l.length - (i + 1)) z := by
  have h1 : ((l.take i).map f).length = i := by simp; omega
  rw [List.set_append_right _ _ (by omega), h1, Nat.sub_self]
  have h2 : List.replicate (l.length - i) z = z :: List.replicate (l.length - (i + 1)) z := by
    rw [show l.length - i = (l.length - (i + 1)) + 1 by omega]; rfl
  rw [h2, List.set_cons_zero, List.take_add_one, hx, List.map_append]
  simp

/-! A law's copies of a list of RunEntry: sizes, copies, comparisons. -/
def runEntryOf (x : S178) : S128 := ⟨x.f0, x.f1, x.f2, x.f3⟩
theorem rdl_RunEntry (l : List S178) (i : Nat) (h : i < l.length) : rd_T178 l (i : Int) = l[i] := by
  unfold rd_T178; rw [Int.toNat_natCast, List.getD_eq_getElem?_getD, List.getElem?_eq_getElem h]; rfl
theorem rdi_RunEntry (l : List S128) (i : Nat) (h : i < l.length) : rd_T128 l (i : Int) = l[i] := by
  unfold rd_T128; rw [Int.toNat_natCast, List.getD_eq_getElem?_getD, List.getElem?_eq_getElem h]; rfl
theorem sz_RunEntry (x : S178) (left : Int) (h0 : 0 ≤ left) (h1 : left ≤ 1048576) (g0 : x.f0.size ≤ 9223372036854775807) (g3 : x.f3.size ≤ 9223372036854775807) : ∃ r, laws_szRunEntry.f x.f0 x.f1 x.f2 x.f3 left = some r ∧ (0 ≤ r → r ≤ left ∧ x.f0.size ≤ 1048576 ∧ x.f3.size ≤ 1048576) := by
  unfold laws_szRunEntry.f
  rw [(wrap64_id (x := left - (x.f0.size : Int)) (by omega) (by omega))]
  by_cases c0 : left - (x.f0.size : Int) < 0
  · rw [if_pos c0]; exact ⟨_, rfl, fun h => by omega⟩
  · rw [if_neg c0]
    rw [(wrap64_id (x := (left - (x.f0.size : Int)) - (x.f3.size : Int)) (by omega) (by omega))]
    by_cases c1 : (left - (x.f0.size : Int)) - (x.f3.size : Int) < 0
    · rw [if_pos c1]; exact ⟨_, rfl, fun h => by omega⟩
    · rw [if_neg c1]
      exact ⟨_, rfl, fun h => by omega⟩
theorem toRunEntryS_l0 (l : List S178) (hl : l.length ≤ 1048576) : ∀ (d i : Nat), l.length - i = d → i ≤ l.length →
    Ev (fun k => laws_toRunEntryS.l0 k l ((l.take i).map runEntryOf ++ List.replicate (l.length - i) z128) (i : Int)) (l.map runEntryOf) := by
  intro d
  induction d with
  | zero =>
    intro i hd hi
    have : i = l.length := by omega
    subst this
    refine Ev.step (fun k => by rw [laws_toRunEntryS.l0, if_neg (by omega)]) (Ev.give ?_)
    simp
  | succ d ih =>
    intro i hd hi
    have hlt : i < l.length := by omega
    have hx : l[i]? = some l[i] := List.getElem?_eq_getElem hlt
    have hr := rdl_RunEntry l i hlt
    have hw : wrap64 ((i : Int) + 1) = ((i + 1 : Nat) : Int) := by rw [wrap64_id (by omega) (by omega)]; rfl
    have hs := set_prefix runEntryOf z128 l i hlt l[i] hx
    refine Ev.step (fun k => by rw [laws_toRunEntryS.l0, if_pos (by omega), if_pos (by omega), hr, show laws_toRunEntry.f l[i].f0 l[i].f1 l[i].f2 l[i].f3 = some (l[i].f0, l[i].f1, l[i].f2, l[i].f3) from rfl, Option.bind_some, if_pos (by simp; omega), Int.toNat_natCast, hw, show (⟨(l[i].f0, l[i].f1, l[i].f2, l[i].f3).1, (l[i].f0, l[i].f1, l[i].f2, l[i].f3).2.1, (l[i].f0, l[i].f1, l[i].f2, l[i].f3).2.2.1, (l[i].f0, l[i].f1, l[i].f2, l[i].f3).2.2.2⟩ : S128) = runEntryOf l[i] from rfl, hs]) ?_
    exact ih (i + 1) (by omega) (by omega)
theorem toRunEntryS (l : List S178) (hl : l.length ≤ 1048576) : Ev (fun k => laws_toRunEntryS.f k l) (l.map runEntryOf) := by
  refine Ev.congr (fun k => by rw [laws_toRunEntryS.f, if_pos (by omega), if_pos (by omega), Int.toNat_natCast]) ?_
  have := toRunEntryS_l0 l hl l.length 0 rfl (by omega)
  simpa using this
theorem eqRunEntry_self (a0 : ByteArray) (a1 : Int) (a2 : Bool) (a3 : ByteArray) : laws_eqRunEntry.f a0 a1 a2 a3 a0 a1 a2 a3 = some true := by unfold laws_eqRunEntry.f; simp
theorem eqRunEntryS_l0 (l : List S128) (hl : l.length ≤ 1048576) : ∀ (d i : Nat), l.length - i = d → i ≤ l.length → Ev (fun k => laws_eqRunEntryS.l0 k l l (i : Int)) true := by
  intro d
  induction d with
  | zero =>
    intro i hd hi
    exact Ev.step (fun k => by rw [laws_eqRunEntryS.l0, if_neg (by omega)]) (Ev.now _)
  | succ d ih =>
    intro i hd hi
    have hw : wrap64 ((i : Int) + 1) = ((i + 1 : Nat) : Int) := by rw [wrap64_id (by omega) (by omega)]; rfl
    refine Ev.step (fun k => by rw [laws_eqRunEntryS.l0, if_pos (by omega), if_pos (by omega), if_pos (by omega), eqRunEntry_self, Option.bind_some, if_pos rfl, hw]) ?_
    exact ih (i + 1) (by omega) (by omega)
theorem eqRunEntryS (l : List S128) (hl : l.length ≤ 1048576) : Ev (fun k => laws_eqRunEntryS.f k l l) true := by
  refine Ev.congr (fun k => by rw [laws_eqRunEntryS.f, if_pos rfl]) ?_
  exact eqRunEntryS_l0 l hl l.length 0 rfl (by omega)
theorem szRunEntryS_l0 (l : List S178) (hl : l.length ≤ 1048576) (hg : ∀ x ∈ l, x.f0.size ≤ 9223372036854775807 ∧ x.f3.size ≤ 9223372036854775807) : ∀ (d i : Nat) (left : Int), 0 ≤ left → left ≤ 1048576 → l.length - i = d → i ≤ l.length →
    ∃ r, Ev (fun k => laws_szRunEntryS.l0 k l left (i : Int)) r ∧ (0 ≤ r → r ≤ left ∧ ∀ x ∈ l.drop i, x.f0.size ≤ 1048576 ∧ x.f3.size ≤ 1048576) := by
  intro d
  induction d with
  | zero =>
    intro i left h0 h1 hd hi
    exact ⟨left, Ev.step (fun k => by rw [laws_szRunEntryS.l0, if_neg (by omega)]) (Ev.now _), fun _ => ⟨by omega, by rw [List.drop_eq_nil_of_le (by omega)]; simp⟩⟩
  | succ d ih =>
    intro i left h0 h1 hd hi
    have hlt : i < l.length := by omega
    have hr := rdl_RunEntry l i hlt
    have hw : wrap64 ((i : Int) + 1) = ((i + 1 : Nat) : Int) := by rw [wrap64_id (by omega) (by omega)]; rfl
    have g := hg l[i] (List.getElem_mem hlt)
    obtain ⟨r1, e1, b1⟩ := sz_RunEntry l[i] left h0 h1 g.1 g.2
    by_cases hn : r1 < 0
    · refine ⟨-1, Ev.step (fun k => by rw [laws_szRunEntryS.l0, if_pos (by omega), if_pos (by omega), hr, e1, Option.bind_some, if_pos hn]) (Ev.now _), fun h => by omega⟩
    · obtain ⟨r2, e2, b2⟩ := ih (i + 1) r1 (by omega) (by have := b1 (by omega); omega) (by omega) (by omega)
      refine ⟨r2, Ev.step (fun k => by rw [laws_szRunEntryS.l0, if_pos (by omega), if_pos (by omega), hr, e1, Option.bind_some, if_neg hn, hw]) e2, fun h => ?_⟩
      have q1 := b1 (by omega)
      have q2 := b2 h
      refine ⟨by omega, fun x hx => ?_⟩
      rw [List.drop_eq_getElem_cons hlt, List.mem_cons] at hx
      rcases hx with rfl | hx
      · exact q1.2
      · exact q2.2 x hx
theorem szRunEntryS (l : List S178) (left : Int) (hl : l.length ≤ 9223372036854775807) (hg : ∀ x ∈ l, x.f0.size ≤ 9223372036854775807 ∧ x.f3.size ≤ 9223372036854775807) (h0 : 0 ≤ left) (h1 : left ≤ 1048576) :
    ∃ r, Ev (fun k => laws_szRunEntryS.f k l left) r ∧ (0 ≤ r → r ≤ left ∧ l.length ≤ 1048576 ∧ ∀ x ∈ l, x.f0.size ≤ 1048576 ∧ x.f3.size ≤ 1048576) := by
  have hw : wrap64 (left - (l.length : Int)) = left - (l.length : Int) := wrap64_id (by omega) (by omega)
  by_cases hn : left - (l.length : Int) < 0
  · exact ⟨-1, Ev.congr (fun k => by rw [laws_szRunEntryS.f, hw, if_pos hn]) (Ev.now _), fun h => by omega⟩
  · obtain ⟨r, e, b⟩ := szRunEntryS_l0 l (by omega) hg l.length 0 (left - (l.length : Int)) (by omega) (by omega) rfl (by omega)
    refine ⟨r, Ev.congr (fun k => by rw [laws_szRunEntryS.f, hw, if_neg hn]; rfl) e, fun h => ?_⟩
    have q := b h
    exact ⟨by omega, by omega, by simpa using q.2⟩

/-! What is right about a run. -/
theorem inInts_l0 (l : List Int) (hl : l.length ≤ 1048576) (a : Int) : ∀ (d i : Nat), l.length - i = d → i ≤ l.length → Ev (fun k => spec_l01InInts.l0 k l a (i : Int)) (decide (a ∈ l.drop i)) := by
  intro d
  induction d with
  | zero =>
    intro i hd hi
    rw [List.drop_eq_nil_of_le (by omega)]
    refine Ev.step (fun k => by rw [spec_l01InInts.l0, if_neg (by omega)]) (Ev.give ?_)
    simp
  | succ d ih =>
    intro i hd hi
    have hlt : i < l.length := by omega
    have hw : wrap64 ((i : Int) + 1) = ((i + 1 : Nat) : Int) := by rw [wrap64_id (by omega) (by omega)]; rfl
    have hn := ih (i + 1) (by omega) (by omega)
    have hr : rd l (i : Int) = l[i] := by unfold rd; rw [Int.toNat_natCast, List.getD_eq_getElem?_getD, List.getElem?_eq_getElem hlt]; rfl
    rw [List.drop_eq_getElem_cons hlt]
    refine Ev.step (fun k => by rw [spec_l01InInts.l0, if_pos (by omega), if_pos (by omega), hr, hw]) ?_
    by_cases e : l[i] = a
    · refine Ev.pos e (Ev.give ?_)
      rw [e]; simp
    · refine Ev.neg e ?_
      have h2 : decide (a ∈ l[i] :: l.drop (i + 1)) = decide (a ∈ l.drop (i + 1)) := by
        apply decide_eq_decide.2
        rw [List.mem_cons]
        exact ⟨fun h => h.resolve_left (fun h3 => e h3.symm), Or.inr⟩
      rw [h2]
      exact hn
theorem inInts (l : List Int) (hl : l.length ≤ 1048576) (a : Int) : Ev (fun k => spec_l01InInts.f k l a) (decide (a ∈ l)) := by
  have := inInts_l0 l hl a l.length 0 (by omega) (by omega)
  rw [List.drop_zero] at this
  exact Ev.congr (fun k => by rw [spec_l01InInts.f]; rfl) this
/-- Is an entry before another one? -/
def lessE (x y : S128) : Bool := Op.bytesLess x.f0.toList y.f0.toList || (decide (x.f0.toList = y.f0.toList) && decide (x.f1 > y.f1))
theorem spec_less (x y : S128) : spec_l08Less.f x.f0 x.f1 x.f2 x.f3 y.f0 y.f1 y.f2 y.f3 = some (lessE x y) := by
  unfold spec_l08Less.f lessE
  by_cases h1 : Op.bytesLess x.f0.toList y.f0.toList = true
  · rw [if_pos h1, h1, Bool.true_or]
  · rw [if_neg h1]
    rw [Bool.not_eq_true] at h1
    rw [h1, Bool.false_or]
    by_cases h2 : x.f0.toList = y.f0.toList
    · rw [if_pos h2, decide_eq_true h2, Bool.true_and]
    · rw [if_neg h2, decide_eq_false h2, Bool.false_and]
theorem less_tri : ∀ a b : List UInt8, (!(Op.bytesLess a b || a == b)) = Op.bytesLess b a
  | [], [] => rfl
  | [], _ :: _ => rfl
  | _ :: _, [] => rfl
  | x :: a, y :: b => by
    have ih := less_tri a b
    by_cases h1 : x < y
    · have h2 : ¬ y < x := UInt8.lt_asymm h1
      have h3 : y ≠ x := fun e => by subst e; exact h2 h1
      simp [Op.bytesLess, h1, h2, h3]
    · by_cases h2 : y < x
      · have h3 : x ≠ y := fun e => by subst e; exact h1 h2
        simp [Op.bytesLess, h1, h2, h3]
      · have h3 : x = y := UInt8.le_antisymm (UInt8.not_lt.1 h2) (UInt8.not_lt.1 h1)
        subst h3
        simpa [Op.bytesLess, h1] using ih
theorem less_irrefl (a : List UInt8) : Op.bytesLess a a = false := by
  have := less_tri a a
  simp at this
  exact this
theorem impl_order (x y : S128) : ∃ c, impl_entryOrder.f x.f0 x.f1 x.f2 x.f3 y.f0 y.f1 y.f2 y.f3 = some c ∧ decide (c ≥ 0) = !(lessE x y) := by
  have n0 : ∀ s : ByteArray, cmp_isNaN_string.f s = some false := fun s => by unfold cmp_isNaN_string.f; simp
  have n1 : ∀ s : Int, cmp_isNaN_int64.f s = some false := fun s => by unfold cmp_isNaN_int64.f; simp
  unfold impl_entryOrder.f cmp_Compare_string.f lessE
  rw [n0, n0, Option.bind_some, Option.bind_some, if_neg (by decide), if_neg (by decide)]
  by_cases h1 : Op.bytesLess x.f0.toList y.f0.toList = true
  · rw [if_pos h1, Option.bind_some, if_neg (by decide)]
    refine ⟨_, rfl, ?_⟩
    rw [h1]; simp
  · rw [if_neg h1]
    rw [Bool.not_eq_true] at h1
    have ht := less_tri x.f0.toList y.f0.toList
    rw [h1, Bool.false_or] at ht
    rw [h1, Bool.false_or]
    by_cases h2 : x.f0.toList = y.f0.toList
    · have h3 : Op.bytesLess y.f0.toList x.f0.toList = false := by rw [← h2]; exact less_irrefl _
      rw [h3, if_neg (by decide), Option.bind_some, if_pos rfl, decide_eq_true h2, Bool.true_and]
      unfold cmp_Compare_int64.f
      rw [n1, n1, Option.bind_some, Option.bind_some, if_neg (by decide), if_neg (by decide)]
      by_cases h4 : y.f1 < x.f1
      · rw [if_pos h4, Option.bind_some]
        refine ⟨_, rfl, ?_⟩
        rw [decide_eq_true h4]; decide
      · rw [if_neg h4]
        by_cases h5 : y.f1 > x.f1
        · rw [if_pos h5, Option.bind_some]
          refine ⟨_, rfl, ?_⟩
          rw [decide_eq_false h4]; decide
        · rw [if_neg h5, Option.bind_some]
          refine ⟨_, rfl, ?_⟩
          rw [decide_eq_false h4]; decide
    · have h3 : Op.bytesLess y.f0.toList x.f0.toList = true := by rw [← ht]; simp [h2]
      rw [if_pos h3, Option.bind_some, if_neg (by decide)]
      refine ⟨_, rfl, ?_⟩
      rw [decide_eq_false h2]; simp
def headBad (x : S128) : Bool := decide ((x.f0.size : Int) < 1 ∨ (x.f0.size : Int) > 200 ∨ x.f1 < 1 ∨ (x.f2 = true ∧ ¬ x.f3.toList = ([] : List UInt8)) ∨ (x.f3.size : Int) > 100000)
def enAt (l : List S128) (i : Nat) : S128 := rd_T128 l (i : Int)
def seenTo (l : List S128) (i : Nat) : List Int := (List.range i).map fun j => (enAt l j).f1
theorem seenTo_succ (l : List S128) (i : Nat) : seenTo l (i + 1) = seenTo l i ++ [(enAt l i).f1] := by unfold seenTo; rw [List.range_succ, List.map_append]; rfl
theorem seenTo_length (l : List S128) (i : Nat) : (seenTo l i).length = i := by simp [seenTo]
def prevBad (l : List S128) (i : Nat) : Bool := decide (0 < i) && !(lessE (enAt l (i - 1)) (enAt l i))
def badAt (l : List S128) (i : Nat) : Bool := headBad (enAt l i) || prevBad l i || decide ((enAt l i).f1 ∈ seenTo l i)
def runFrom (l : List S128) : Nat → Nat → Int
  | 0, _ => 0
  | d + 1, i => if badAt l i = true then 1 else runFrom l d (i + 1)
theorem badAt_head {l : List S128} {i : Nat} (h : headBad (enAt l i) = true) : badAt l i = true := by unfold badAt; rw [h]; rfl
theorem badAt_of {l : List S128} {i : Nat} (h : headBad (enAt l i) = false) : badAt l i = (prevBad l i || decide ((enAt l i).f1 ∈ seenTo l i)) := by unfold badAt; rw [h, Bool.false_or]
/-- The reference's round behind the plain tests. -/
theorem spec_run_tail (l : List S128) (hl : l.length ≤ 1000) (d i : Nat) (hd : l.length - i = d + 1) (ih : Ev (fun k => spec_RunFault.l0 k (seenTo l (i + 1)) ((i + 1 : Nat) : Int) l) (runFrom l d (i + 1))) (b : Bool) :
    Ev (fun k => spec_RunFault.j1 k (seenTo l i) (i : Int) b l (enAt l i).f0 (enAt l i).f1 (enAt l i).f2 (enAt l i).f3) (if b = true then 1 else runFrom l d (i + 1)) := by
  have hw : wrap64 ((i : Int) + 1) = ((i + 1 : Nat) : Int) := by rw [wrap64_id (by omega) (by omega)]; rfl
  cases b with
  | true => rw [if_pos rfl]; exact Ev.step (fun k => by rw [spec_RunFault.j1, if_pos rfl]) (Ev.now _)
  | false =>
    refine Ev.step (fun k => by rw [spec_RunFault.j1, if_neg (by decide), if_pos (by rw [seenTo_length]; omega), hw, ← seenTo_succ]) ?_
    rw [if_neg (by decide)]
    exact ih
theorem spec_run_last (l : List S128) (hl : l.length ≤ 1000) (d i : Nat) (hd : l.length - i = d + 1) (ih : Ev (fun k => spec_RunFault.l0 k (seenTo l (i + 1)) ((i + 1 : Nat) : Int) l) (runFrom l d (i + 1))) (hh : headBad (enAt l i) = false) :
    Ev (fun k => if (i : Int) > 0 then (if 0 ≤ (wrap64 ((i : Int) - 1)) then (if (wrap64 ((i : Int) - 1)) < (l.length : Int) then ((spec_l08Less.f ((rd_T128 l (wrap64 ((i : Int) - 1))).f0) ((rd_T128 l (wrap64 ((i : Int) - 1))).f1) ((rd_T128 l (wrap64 ((i : Int) - 1))).f2) ((rd_T128 l (wrap64 ((i : Int) - 1))).f3) ((rd_T128 l (i : Int)).f0) ((rd_T128 l (i : Int)).f1) ((rd_T128 l (i : Int)).f2) ((rd_T128 l (i : Int)).f3)).bind fun t116 => (if t116 = true then ((spec_l01InInts.f k (seenTo l i) ((rd_T128 l (i : Int)).f1)).bind fun t117 => (spec_RunFault.j1 k (seenTo l i) (i : Int) t117 l ((rd_T128 l (i : Int)).f0) ((rd_T128 l (i : Int)).f1) ((rd_T128 l (i : Int)).f2) ((rd_T128 l (i : Int)).f3))) else (spec_RunFault.j1 k (seenTo l i) (i : Int) true l ((rd_T128 l (i : Int)).f0) ((rd_T128 l (i : Int)).f1) ((rd_T128 l (i : Int)).f2) ((rd_T128 l (i : Int)).f3)))) else (none)) else (none)) else ((spec_l01InInts.f k (seenTo l i) ((rd_T128 l (i : Int)).f1)).bind fun t118 => (spec_RunFault.j1 k (seenTo l i) (i : Int) t118 l ((rd_T128 l (i : Int)).f0) ((rd_T128 l (i : Int)).f1) ((rd_T128 l (i : Int)).f2) ((rd_T128 l (i : Int)).f3)))) (if badAt l i = true then 1 else runFrom l d (i + 1)) := by
  have hs : (seenTo l i).length ≤ 1048576 := by rw [seenTo_length]; omega
  have hin := inInts (seenTo l i) hs (enAt l i).f1
  rw [badAt_of hh]
  unfold prevBad
  by_cases h0 : 0 < i
  · have hw1 : wrap64 ((i : Int) - 1) = ((i - 1 : Nat) : Int) := by rw [wrap64_id (by omega) (by omega)]; omega
    rw [hw1, decide_eq_true h0, Bool.true_and]
    refine Ev.pos (by omega) (Ev.pos (by omega) (Ev.pos (by omega) (Ev.bindS (spec_less (enAt l (i - 1)) (enAt l i)) ?_)))
    cases hle : lessE (enAt l (i - 1)) (enAt l i) with
    | true =>
      refine Ev.pos rfl (Ev.bind hin ?_)
      exact spec_run_tail l hl d i hd ih _
    | false =>
      refine Ev.neg (by decide) ?_
      exact spec_run_tail l hl d i hd ih true
  · rw [decide_eq_false h0, Bool.false_and, Bool.false_or]
    refine Ev.neg (by omega) (Ev.bind hin ?_)
    exact spec_run_tail l hl d i hd ih _
theorem spec_run_l0 (l : List S128) (hl : l.length ≤ 1000) : ∀ (d i : Nat), l.length - i = d → i ≤ l.length → Ev (fun k => spec_RunFault.l0 k (seenTo l i) (i : Int) l) (runFrom l d i) := by
  intro d
  induction d with
  | zero =>
    intro i hd hi
    exact Ev.step (fun k => by rw [spec_RunFault.l0, if_neg (by omega)]; rfl) (Ev.now _)
  | succ d ih =>
    intro i hd hi
    have hn := ih (i + 1) (by omega) (by omega)
    have out := spec_run_tail l hl d i hd hn true
    rw [if_pos rfl] at out
    refine Ev.step (fun k => by rw [spec_RunFault.l0, if_pos (by omega), if_pos (by omega)]) ?_
    unfold runFrom
    have bad : ∀ h : headBad (enAt l i) = true, Ev (fun k => spec_RunFault.j1 k (seenTo l i) (i : Int) true l (enAt l i).f0 (enAt l i).f1 (enAt l i).f2 (enAt l i).f3) (if badAt l i = true then 1 else runFrom l d (i + 1)) := fun h => by rw [if_pos (badAt_head h)]; exact out
    by_cases h1 : (((enAt l i).f0).size : Int) < 1
    · exact Ev.pos h1 (bad (decide_eq_true (Or.inl h1)))
    · refine Ev.neg h1 ?_
      by_cases h2 : (((enAt l i).f0).size : Int) > 200
      · exact Ev.pos h2 (bad (decide_eq_true (Or.inr (Or.inl h2))))
      · refine Ev.neg h2 ?_
        by_cases h3 : (enAt l i).f1 < 1
        · exact Ev.pos h3 (bad (decide_eq_true (Or.inr (Or.inr (Or.inl h3)))))
        · refine Ev.neg h3 ?_
          by_cases h4 : (enAt l i).f2 = true
          · refine Ev.pos h4 ?_
            by_cases h5 : ((enAt l i).f3).toList = ([] : List UInt8)
            · refine Ev.pos h5 ?_
              by_cases h6 : (((enAt l i).f3).size : Int) > 100000
              · exact Ev.pos h6 (bad (decide_eq_true (Or.inr (Or.inr (Or.inr (Or.inr h6))))))
              · exact Ev.neg h6 (spec_run_last l hl d i hd hn (decide_eq_false (fun h => by rcases h with h | h | h | h | h; exact h1 h; exact h2 h; exact h3 h; exact h.2 h5; exact h6 h)))
            · exact Ev.neg h5 (bad (decide_eq_true (Or.inr (Or.inr (Or.inr (Or.inl ⟨h4, h5⟩))))))
          · refine Ev.neg h4 ?_
            by_cases h6 : (((enAt l i).f3).size : Int) > 100000
            · exact Ev.pos h6 (bad (decide_eq_true (Or.inr (Or.inr (Or.inr (Or.inr h6))))))
            · exact Ev.neg h6 (spec_run_last l hl d i hd hn (decide_eq_false (fun h => by rcases h with h | h | h | h | h; exact h1 h; exact h2 h; exact h3 h; exact h4 h.1; exact h6 h)))
def runFault (l : List S128) : Int := if (l.length : Int) > 1000 then 1 else runFrom l l.length 0
theorem spec_runFault (l : List S128) : Ev (fun k => spec_RunFault.f k l) (runFault l) := by
  unfold runFault
  refine Ev.congr (fun k => by rw [spec_RunFault.f]) ?_
  by_cases h : (l.length : Int) > 1000
  · rw [if_pos h]; exact Ev.pos h (Ev.now _)
  · rw [if_neg h]
    exact Ev.neg h (spec_run_l0 l (by omega) l.length 0 (by omega) (by omega))
/-- The program's round behind the plain tests. -/
theorem impl_run_j2 (l : List S128) (hl : l.length ≤ 1000) (d i : Nat) (hd : l.length - i = d + 1) (hx : (Lit.int .i64 (enAt l i).f1).wf = true) (ih : Ev (fun k => impl_RunFault.l0 k (seenTo l (i + 1)) l (l.length : Int) ((i + 1 : Nat) : Int) l) (runFrom l d (i + 1))) (b : Bool) :
    Ev (fun k => impl_RunFault.j2 k (seenTo l i) l (l.length : Int) (i : Int) b l (enAt l i).f0 (enAt l i).f1 (enAt l i).f2 (enAt l i).f3) (if b = true then 1 else runFrom l d (i + 1)) := by
  have hw : wrap64 ((i : Int) + 1) = ((i + 1 : Nat) : Int) := by rw [wrap64_id (by omega) (by omega)]; rfl
  cases b with
  | true => rw [if_pos rfl]; exact Ev.step (fun k => by rw [impl_RunFault.j2, if_pos rfl]) (Ev.now _)
  | false =>
    have hk : keyIn.f (enAt l i).f1 = some (enAt l i).f1 := by unfold keyIn.f; rw [if_pos hx]
    refine Ev.step (fun k => by rw [impl_RunFault.j2, if_neg (by decide), hk, Option.bind_some, if_pos (by rw [seenTo_length]; omega), hw, ← seenTo_succ]) ?_
    rw [if_neg (by decide)]
    exact ih
theorem impl_run_j1 (l : List S128) (hl : l.length ≤ 1000) (d i : Nat) (hd : l.length - i = d + 1) (hx : (Lit.int .i64 (enAt l i).f1).wf = true) (ih : Ev (fun k => impl_RunFault.l0 k (seenTo l (i + 1)) l (l.length : Int) ((i + 1 : Nat) : Int) l) (runFrom l d (i + 1))) (b : Bool) :
    Ev (fun k => impl_RunFault.j1 k (seenTo l i) (i : Int) l (l.length : Int) (i : Int) b l (enAt l i).f0 (enAt l i).f1 (enAt l i).f2 (enAt l i).f3) (if (prevBad l i || b) = true then 1 else runFrom l d (i + 1)) := by
  cases b with
  | true =>
    rw [if_pos (by simp)]
    exact Ev.step (fun k => by rw [impl_RunFault.j1, if_pos rfl]) (Ev.now _)
  | false =>
    rw [Bool.or_false]
    refine Ev.step (fun k => by rw [impl_RunFault.j1, if_neg (by decide)]) ?_
    unfold prevBad
    by_cases h0 : 0 < i
    · have hw1 : wrap64 ((i : Int) - 1) = ((i - 1 : Nat) : Int) := by rw [wrap64_id (by omega) (by omega)]; omega
      obtain ⟨c, hc, hc2⟩ := impl_order (enAt l (i - 1)) (enAt l i)
      rw [hw1, decide_eq_true h0, Bool.true_and, ← hc2]
      refine Ev.pos (by omega) (Ev.pos (by omega) (Ev.pos (by omega) (Ev.bindS hc ?_)))
      exact impl_run_j2 l hl d i hd hx ih _
    · rw [decide_eq_false h0, Bool.false_and]
      refine Ev.neg (by omega) ?_
      exact impl_run_j2 l hl d i hd hx ih false
theorem impl_run_l0 (l : List S128) (hl : l.length ≤ 1000) (hx : ∀ i, i < l.length → (Lit.int .i64 (enAt l i).f1).wf = true) : ∀ (d i : Nat), l.length - i = d → i ≤ l.length → Ev (fun k => impl_RunFault.l0 k (seenTo l i) l (l.length : Int) (i : Int) l) (runFrom l d i) := by
  intro d
  induction d with
  | zero =>
    intro i hd hi
    exact Ev.step (fun k => by rw [impl_RunFault.l0, if_neg (by omega)]; rfl) (Ev.now _)
  | succ d ih =>
    intro i hd hi
    have hn := ih (i + 1) (by omega) (by omega)
    have hxi := hx i (by omega)
    have j1 := fun b => impl_run_j1 l hl d i hd hxi hn b
    have hm : mapHas.f (seenTo l i) (enAt l i).f1 = some (decide ((enAt l i).f1 ∈ seenTo l i)) := by unfold mapHas.f; rw [if_pos hxi]
    refine Ev.step (fun k => by rw [impl_RunFault.l0, if_pos (by omega), if_pos (by omega), if_pos (by omega)]) ?_
    unfold runFrom
    have bad : ∀ h : headBad (enAt l i) = true, Ev (fun k => impl_RunFault.j1 k (seenTo l i) (i : Int) l (l.length : Int) (i : Int) true l (enAt l i).f0 (enAt l i).f1 (enAt l i).f2 (enAt l i).f3) (if badAt l i = true then 1 else runFrom l d (i + 1)) := fun h => by
      have := j1 true
      rw [if_pos (by simp)] at this
      rw [if_pos (badAt_head h)]; exact this
    have last : ∀ h : headBad (enAt l i) = false, Ev (fun k => (mapHas.f (seenTo l i) (enAt l i).f1).bind fun t => (impl_RunFault.j1 k (seenTo l i) (i : Int) l (l.length : Int) (i : Int) t l (enAt l i).f0 (enAt l i).f1 (enAt l i).f2 (enAt l i).f3)) (if badAt l i = true then 1 else runFrom l d (i + 1)) := fun h => by
      rw [badAt_of h]
      exact Ev.bindS hm (j1 _)
    by_cases h1 : (((enAt l i).f0).size : Int) < 1
    · exact Ev.pos h1 (bad (decide_eq_true (Or.inl h1)))
    · refine Ev.neg h1 ?_
      by_cases h2 : (((enAt l i).f0).size : Int) > 200
      · exact Ev.pos h2 (bad (decide_eq_true (Or.inr (Or.inl h2))))
      · refine Ev.neg h2 ?_
        by_cases h3 : (enAt l i).f1 < 1
        · exact Ev.pos h3 (bad (decide_eq_true (Or.inr (Or.inr (Or.inl h3)))))
        · refine Ev.neg h3 ?_
          by_cases h4 : (enAt l i).f2 = true
          · refine Ev.pos h4 ?_
            by_cases h5 : ((enAt l i).f3).toList = ([] : List UInt8)
            · refine Ev.pos h5 ?_
              by_cases h6 : (((enAt l i).f3).size : Int) > 100000
              · exact Ev.pos h6 (bad (decide_eq_true (Or.inr (Or.inr (Or.inr (Or.inr h6))))))
              · exact Ev.neg h6 (last (decide_eq_false (fun h => by rcases h with h | h | h | h | h; exact h1 h; exact h2 h; exact h3 h; exact h.2 h5; exact h6 h)))
            · exact Ev.neg h5 (bad (decide_eq_true (Or.inr (Or.inr (Or.inr (Or.inl ⟨h4, h5⟩))))))
          · refine Ev.neg h4 ?_
            by_cases h6 : (((enAt l i).f3).size : Int) > 100000
            · exact Ev.pos h6 (bad (decide_eq_true (Or.inr (Or.inr (Or.inr (Or.inr h6))))))
            · exact Ev.neg h6 (last (decide_eq_false (fun h => by rcases h with h | h | h | h | h; exact h1 h; exact h2 h; exact h3 h; exact h4 h.1; exact h6 h)))
theorem impl_runFault (l : List S128) (hx : ∀ i, i < l.length → (Lit.int .i64 (enAt l i).f1).wf = true) : Ev (fun k => impl_RunFault.f k l) (runFault l) := by
  unfold runFault
  refine Ev.congr (fun k => by rw [impl_RunFault.f]) ?_
  by_cases h : (l.length : Int) > 1000
  · rw [if_pos h]; exact Ev.pos h (Ev.now _)
  · rw [if_neg h]
    exact Ev.neg h (impl_run_l0 l (by omega) hx l.length 0 (by omega) (by omega))

theorem FnExactRunFault : laws_FnExactRunFault.Wants := by
  intro l g
  refine Ev.rounds (Ev.congr (fun k => by rw [laws_FnExactRunFault.f]) ?_)
  obtain ⟨r, e, b⟩ := szRunEntryS l 1048576 g.1 (fun x hx => ⟨(g.2 x hx).1, (g.2 x hx).2.2.2⟩) (by omega) (by omega)
  by_cases hn : r < 0
  · refine Ev.bind (a := -1) (Ev.congr (fun k => by rw [laws_szSortedRun.f]) (Ev.bind e (Ev.pos hn (Ev.now _)))) ?_
    exact Ev.pos (by decide) (Ev.now _)
  · refine Ev.bind (a := r) (Ev.congr (fun k => by rw [laws_szSortedRun.f]) (Ev.bind e (Ev.neg hn (Ev.now _)))) ?_
    refine Ev.neg hn ?_
    have q := b (by omega)
    have hl : l.length ≤ 1048576 := q.2.1
    have hto : Ev (fun k => laws_toSortedRun.f k l) (l.map runEntryOf) := Ev.congr (fun k => by rw [laws_toSortedRun.f]) (Ev.bind (toRunEntryS l hl) (Ev.now _))
    have m : (l.map runEntryOf).length ≤ 1048576 := by simpa using hl
    have hx : ∀ i, i < (l.map runEntryOf).length → (Lit.int .i64 (enAt (l.map runEntryOf) i).f1).wf = true := fun i hi => by
      unfold enAt
      rw [rdi_RunEntry _ i hi, List.getElem_map]
      exact (g.2 _ (List.getElem_mem (by simpa using hi))).2.1
    have eq : Ev (fun k => laws_eqSortedRun.f k (l.map runEntryOf) (l.map runEntryOf)) true := Ev.congr (fun k => by rw [laws_eqSortedRun.f]) (Ev.bind (eqRunEntryS _ m) (Ev.pos rfl (Ev.now _)))
    exact Ev.bind hto (Ev.bind (spec_runFault _) (Ev.bind hto (Ev.bind (impl_runFault _ hx) (Ev.pos rfl (Ev.bind hto (Ev.bind eq (Ev.pos rfl (Ev.now _))))))))

end Go.Proofs.Ytimfdodgecehgaa.Pure
