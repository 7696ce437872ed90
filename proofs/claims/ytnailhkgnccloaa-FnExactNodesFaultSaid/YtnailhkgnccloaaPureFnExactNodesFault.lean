/- The statement FnExactNodesFault over numbers and lists alone: the program's NodesFault and the reference's answer the same number, the argument unchanged. No condition. -/
import Derived.Test.YtnailhkgnccloaaPFnExactNodesFaultx2
import Derived.Laws.BitsAllLaws
import Derived.Laws.Bits64
import Derived.Test.YtnailhkgnccloaaGoodFnExactNodesFault
set_option linter.all false
namespace Go.Proofs.Ytnailhkgnccloaa.Pure
open Go.RowKit Go.Proofs.Ytnailhkgnccloaa.PFnExactNodesFault Go.Proofs.YtnailhkgnccloaaW.PrintWords Go.Proofs.YtnailhkgnccloaaW.PrintLast Go.Proofs.YtnailhkgnccloaaW.PrintMore

/-! Small lemmas on wraps, rounds and lists. -/
theorem wrap64_id {x : Int} (h0 : -9223372036854775808 ≤ x) (h1 : x < 9223372036854775808) : wrap64 x = x := by unfold wrap64; omega
theorem u64_id {x : Int} (h0 : 0 ≤ x) (h1 : x < 18446744073709551616) : IntKind.u64.wrap x = x := by rw [IntKind.wrap_u64]; omega
theorem Ev.pos {α : Type} {c : Prop} [Decidable c] {f g : Nat → Option α} {r : α} (h : c) (e : Ev f r) : Ev (fun k => if c then f k else g k) r := by simpa [h] using e
theorem Ev.neg {α : Type} {c : Prop} [Decidable c] {f g : Nat → Option α} {r : α} (h : ¬ c) (e : Ev g r) : Ev (fun k => if c then f k else g k) r := by simpa [h] using e
theorem Ev.bindS {α β : Type} {g : Option α} {f : Nat → α → Option β} {a : α} {r : β} (h : g = some a) (e : Ev (fun k => f k a) r) : Ev (fun k => g.bind (f k)) r := by subst h; simpa using e
theorem Ev.give {α : Type} {r s : α} (h : s = r) : Ev (fun _ => some s) r := by subst h; exact Ev.now _
theorem bt_drop (s : ByteArray) (i : Nat) (h : i < s.size) : ∃ c : UInt8, s.data.toList.drop i = c :: s.data.toList.drop (i + 1) ∧ bt s (i : Int) = (c.toNat : Int) := by
  have hl : i < s.data.toList.length := by simpa using h
  refine ⟨s.data.toList[i], List.drop_eq_getElem_cons hl, ?_⟩
  unfold bt
  rw [dif_pos (by simpa using h)]
  simp [ByteArray.getElem_eq_getElem_data]
theorem drop_end (s : ByteArray) (i : Nat) (h : s.size ≤ i) : s.data.toList.drop i = [] := List.drop_eq_nil_of_le (by simpa using h)
theorem size_strOfNums (l : List Int) : (strOfNums l).size = l.length := by
  show (strOfNums l).data.size = l.length
  simp [strOfNums]
theorem i64_range {n : Int} (h : (Lit.int .i64 n).wf = true) : -9223372036854775808 ≤ n ∧ n < 9223372036854775808 := by
  simp only [Lit.wf, IntKind.min, IntKind.max, IntKind.signed, IntKind.bits, Bool.and_eq_true, decide_eq_true_eq, if_true] at h; omega
theorem byte_eq_int (c d : UInt8) : ((c.toNat : Int) = (d.toNat : Int)) ↔ c = d := by
  constructor
  · intro h; exact UInt8.toNat_inj.1 (by omega)
  · rintro rfl; rfl
theorem byte_eq_lit (c : UInt8) (n : Nat) (hn : n < 256) : ((c.toNat : Int) = (n : Int)) ↔ c = UInt8.ofNat n := by
  rw [← byte_eq_int]
  have : (UInt8.ofNat n).toNat = n := by simp [UInt8.toNat_ofNat']; omega
  rw [this]
theorem bt_get (s : ByteArray) (i : Nat) (h : i < s.size) : ∃ c : UInt8, s.data.toList[i]? = some c ∧ bt s (i : Int) = (c.toNat : Int) := by
  obtain ⟨c, e, hb⟩ := bt_drop s i h
  refine ⟨c, ?_, hb⟩
  have : (s.data.toList.drop i)[0]? = some c := by rw [e]; rfl
  simpa using this

/-! The copies that a statement makes of its argument, and how it holds them against one another: lists of nodes. -/
theorem wf_i64 {x : Int} (h : good2 x) : -9223372036854775808 ≤ x ∧ x < 9223372036854775808 := i64_range h
/-- A node of the statement as one of the program. -/
def nodeOf (x : S71) : S69 := ⟨x.f0, x.f1⟩
theorem set_prefix {α β : Type} (f : α → β) (z : β) (l : List α) (i : Nat) (h : i < l.length) (x : α) (hx : l[i]? = some x) :
    ((l.take i).map f ++ List.replicate (l.length - i) z).set i (f x) = (l.take (i + 1)).map f ++ List.replicate (l.length - (i + 1)) z := by
  have h1 : ((l.take i).map f).length = i := by simp; omega
  rw [List.set_append_right _ _ (by omega), h1, Nat.sub_self]
  have h2 : List.replicate (l.length - i) z = z :: List.replicate (l.length - (i + 1)) z := by
    rw [show l.length - i = (l.length - (i + 1)) + 1 by omega]; rfl
  rw [h2, List.set_cons_zero, List.take_add_one, hx, List.map_append]
  simp
theorem toNodeS_l0 (l : List S71) (hl : l.length ≤ 1048576) : ∀ (d i : Nat), l.length - i = d → i ≤ l.length →
    Ev (fun k => laws_toNodeS.l0 k l ((l.take i).map nodeOf ++ List.replicate (l.length - i) z69) (i : Int)) (l.map nodeOf) := by
  intro d
  induction d with
  | zero =>
    intro i hd hi
    have : i = l.length := by omega
    subst this
    refine Ev.step (fun k => by rw [laws_toNodeS.l0, if_neg (by omega)]) (Ev.give ?_)
    simp
  | succ d ih =>
    intro i hd hi
    have hlt : i < l.length := by omega
    have hx : l[i]? = some l[i] := List.getElem?_eq_getElem hlt
    have hr : rd_T71 l (i : Int) = l[i] := by unfold rd_T71; rw [Int.toNat_natCast, List.getD_eq_getElem?_getD, hx]; rfl
    have hw : wrap64 ((i : Int) + 1) = ((i + 1 : Nat) : Int) := by rw [wrap64_id (by omega) (by omega)]; rfl
    have hs := set_prefix nodeOf z69 l i hlt l[i] hx
    refine Ev.step (fun k => by rw [laws_toNodeS.l0, if_pos (by omega), if_pos (by omega), hr, show laws_toNode.f l[i].f0 l[i].f1 = some (l[i].f0, l[i].f1) from rfl, Option.bind_some, if_pos (by simp; omega), Int.toNat_natCast, hw, show (⟨(l[i].f0, l[i].f1).1, (l[i].f0, l[i].f1).2⟩ : S69) = nodeOf l[i] from rfl, hs]) ?_
    exact ih (i + 1) (by omega) (by omega)
theorem toNodeS (l : List S71) (hl : l.length ≤ 1048576) : Ev (fun k => laws_toNodeS.f k l) (l.map nodeOf) := by
  refine Ev.congr (fun k => by rw [laws_toNodeS.f, if_pos (by omega), if_pos (by omega), Int.toNat_natCast]) ?_
  have := toNodeS_l0 l hl l.length 0 rfl (by omega)
  simpa using this
theorem eqNode_self (a b : Int) : laws_eqNode.f a b a b = some true := by unfold laws_eqNode.f; simp
theorem eqNodeS_l0 (l : List S69) (hl : l.length ≤ 1048576) : ∀ (d i : Nat), l.length - i = d → i ≤ l.length → Ev (fun k => laws_eqNodeS.l0 k l l (i : Int)) true := by
  intro d
  induction d with
  | zero =>
    intro i hd hi
    exact Ev.step (fun k => by rw [laws_eqNodeS.l0, if_neg (by omega)]) (Ev.now _)
  | succ d ih =>
    intro i hd hi
    have hw : wrap64 ((i : Int) + 1) = ((i + 1 : Nat) : Int) := by rw [wrap64_id (by omega) (by omega)]; rfl
    refine Ev.step (fun k => by rw [laws_eqNodeS.l0, if_pos (by omega), if_pos (by omega), if_pos (by omega), eqNode_self, Option.bind_some, if_pos rfl, hw]) ?_
    exact ih (i + 1) (by omega) (by omega)
theorem eqNodeS (l : List S69) (hl : l.length ≤ 1048576) : Ev (fun k => laws_eqNodeS.f k l l) true := by
  refine Ev.congr (fun k => by rw [laws_eqNodeS.f, if_pos rfl]) ?_
  exact eqNodeS_l0 l hl l.length 0 rfl (by omega)
theorem szNodeS (l : List S71) (left : Int) (hl : l.length ≤ 9223372036854775807) (h0 : 0 ≤ left) (h1 : left ≤ 1048576) :
    (laws_szNodeS.f l left = some (-1) ∧ left < l.length) ∨ (laws_szNodeS.f l left = some (left - l.length) ∧ (l.length : Int) ≤ left) := by
  unfold laws_szNodeS.f
  rw [wrap64_id (by omega) (by omega)]
  by_cases h : left - (l.length : Int) < 0
  · rw [if_pos h]; exact .inl ⟨rfl, by omega⟩
  · rw [if_neg h]; exact .inr ⟨rfl, by omega⟩

def nodeBad (x : S69) : Bool := decide (x.f0 < 0 ∨ x.f0 > 200 ∨ x.f1 < 0 ∨ x.f1 > 64)
/-- What NodesFault answers. -/
def nodesFaultOf (l : List S69) : Int := if (l.length : Int) < 1 then 1 else if (l.length : Int) > 200 then 1 else if l.any nodeBad = true then 1 else 0
theorem rd_node (l : List S69) (i : Nat) (h : i < l.length) : rd_T69 l (i : Int) = l[i] := by
  unfold rd_T69; rw [Int.toNat_natCast, List.getD_eq_getElem?_getD, List.getElem?_eq_getElem h]; rfl
theorem any_drop {α : Type} (p : α → Bool) (l : List α) (i : Nat) (h : i < l.length) : (l.drop i).any p = (p l[i] || (l.drop (i + 1)).any p) := by
  rw [List.drop_eq_getElem_cons h, List.any_cons]
theorem spec_nodesFault_l0 (l : List S69) (hl : l.length ≤ 1048576) : ∀ (d i : Nat), l.length - i = d → i ≤ l.length → Ev (fun k => spec_NodesFault.l0 k l (i : Int)) (if (l.drop i).any nodeBad = true then 1 else 0) := by
  intro d
  induction d with
  | zero =>
    intro i hd hi
    rw [List.drop_eq_nil_of_le (by omega)]
    refine Ev.step (fun k => by rw [spec_NodesFault.l0, if_neg (by omega)]) (Ev.give ?_)
    rfl
  | succ d ih =>
    intro i hd hi
    have hlt : i < l.length := by omega
    have hr := rd_node l i hlt
    have hw : wrap64 ((i : Int) + 1) = ((i + 1 : Nat) : Int) := by rw [wrap64_id (by omega) (by omega)]; rfl
    have next := ih (i + 1) (by omega) (by omega)
    rw [any_drop nodeBad l i hlt]
    by_cases hb : nodeBad l[i] = true
    · rw [hb, Bool.true_or, if_pos rfl]
      have hb' : l[i].f0 < 0 ∨ l[i].f0 > 200 ∨ l[i].f1 < 0 ∨ l[i].f1 > 64 := by simpa [nodeBad] using hb
      refine Ev.step (fun k => by rw [spec_NodesFault.l0, if_pos (by omega), if_pos (by omega), hr]) ?_
      by_cases h0 : l[i].f0 < 0
      · exact Ev.pos h0 (Ev.now _)
      · refine Ev.neg h0 ?_
        by_cases h1 : l[i].f0 > 200
        · exact Ev.pos h1 (Ev.now _)
        · refine Ev.neg h1 ?_
          by_cases h2 : l[i].f1 < 0
          · exact Ev.pos h2 (Ev.now _)
          · exact Ev.neg h2 (Ev.pos (by omega) (Ev.now _))
    · have hb' : ¬ (l[i].f0 < 0 ∨ l[i].f0 > 200 ∨ l[i].f1 < 0 ∨ l[i].f1 > 64) := by simpa [nodeBad] using hb
      rw [Bool.eq_false_iff.2 hb, Bool.false_or]
      refine Ev.step (fun k => by rw [spec_NodesFault.l0, if_pos (by omega), if_pos (by omega), hr, if_neg (by omega), if_neg (by omega), if_neg (by omega), if_neg (by omega), hw]) ?_
      exact next
theorem spec_nodesFault (l : List S69) (hl : l.length ≤ 1048576) : Ev (fun k => spec_NodesFault.f k l) (nodesFaultOf l) := by
  unfold nodesFaultOf
  by_cases h0 : (l.length : Int) < 1
  · rw [if_pos h0]
    refine Ev.congr (fun k => by rw [spec_NodesFault.f, if_pos h0]) ?_
    exact Ev.step (fun k => by rw [spec_NodesFault.j0, if_pos rfl]) (Ev.now _)
  · rw [if_neg h0]
    refine Ev.congr (fun k => by rw [spec_NodesFault.f, if_neg h0]) ?_
    by_cases h1 : (l.length : Int) > 200
    · rw [if_pos h1]
      exact Ev.step (fun k => by rw [spec_NodesFault.j0, if_pos (by simpa using h1)]) (Ev.now _)
    · rw [if_neg h1]
      refine Ev.step (fun k => by rw [spec_NodesFault.j0, if_neg (by simpa using h1)]) ?_
      have := spec_nodesFault_l0 l hl l.length 0 rfl (by omega)
      simpa using this
theorem impl_nodesFault_l0 (l : List S69) (hl : l.length ≤ 1048576) : ∀ (d i : Nat), l.length - i = d → i ≤ l.length → Ev (fun k => impl_NodesFault.l0 k l (l.length : Int) (i : Int)) (if (l.drop i).any nodeBad = true then 1 else 0) := by
  intro d
  induction d with
  | zero =>
    intro i hd hi
    rw [List.drop_eq_nil_of_le (by omega)]
    refine Ev.step (fun k => by rw [impl_NodesFault.l0, if_neg (by omega)]) (Ev.give ?_)
    rfl
  | succ d ih =>
    intro i hd hi
    have hlt : i < l.length := by omega
    have hr := rd_node l i hlt
    have hw : wrap64 ((i : Int) + 1) = ((i + 1 : Nat) : Int) := by rw [wrap64_id (by omega) (by omega)]; rfl
    have next := ih (i + 1) (by omega) (by omega)
    rw [any_drop nodeBad l i hlt]
    by_cases hb : nodeBad l[i] = true
    · rw [hb, Bool.true_or, if_pos rfl]
      have hb' : l[i].f0 < 0 ∨ l[i].f0 > 200 ∨ l[i].f1 < 0 ∨ l[i].f1 > 64 := by simpa [nodeBad] using hb
      refine Ev.step (fun k => by rw [impl_NodesFault.l0, if_pos (by omega), if_pos (by omega), if_pos (by omega), hr]) ?_
      by_cases h0 : l[i].f0 < 0
      · exact Ev.pos h0 (Ev.now _)
      · refine Ev.neg h0 ?_
        by_cases h1 : l[i].f0 > 200
        · exact Ev.pos h1 (Ev.now _)
        · refine Ev.neg h1 ?_
          by_cases h2 : l[i].f1 < 0
          · exact Ev.pos h2 (Ev.now _)
          · exact Ev.neg h2 (Ev.pos (by omega) (Ev.now _))
    · have hb' : ¬ (l[i].f0 < 0 ∨ l[i].f0 > 200 ∨ l[i].f1 < 0 ∨ l[i].f1 > 64) := by simpa [nodeBad] using hb
      rw [Bool.eq_false_iff.2 hb, Bool.false_or]
      refine Ev.step (fun k => by rw [impl_NodesFault.l0, if_pos (by omega), if_pos (by omega), if_pos (by omega), hr, if_neg (by omega), if_neg (by omega), if_neg (by omega), if_neg (by omega), hw]) ?_
      exact next
theorem impl_nodesFault (l : List S69) (hl : l.length ≤ 1048576) : Ev (fun k => impl_NodesFault.f k l) (nodesFaultOf l) := by
  unfold nodesFaultOf
  by_cases h0 : (l.length : Int) < 1
  · rw [if_pos h0]
    refine Ev.congr (fun k => by rw [impl_NodesFault.f, if_pos h0]) ?_
    exact Ev.step (fun k => by rw [impl_NodesFault.j0, if_pos rfl]) (Ev.now _)
  · rw [if_neg h0]
    refine Ev.congr (fun k => by rw [impl_NodesFault.f, if_neg h0]) ?_
    by_cases h1 : (l.length : Int) > 200
    · rw [if_pos h1]
      exact Ev.step (fun k => by rw [impl_NodesFault.j0, if_pos (by simpa using h1)]) (Ev.now _)
    · rw [if_neg h1]
      refine Ev.step (fun k => by rw [impl_NodesFault.j0, if_neg (by simpa using h1)]) ?_
      have := impl_nodesFault_l0 l hl l.length 0 rfl (by omega)
      simpa using this

theorem FnExactNodesFault : laws_FnExactNodesFault.Wants := by
  intro l hg
  refine Ev.rounds (Ev.congr (fun k => by rw [laws_FnExactNodesFault.f]) ?_)
  rcases szNodeS l 1048576 hg.1 (by omega) (by omega) with ⟨h, _⟩ | ⟨h, hle⟩
  · exact Ev.bindS h (Ev.pos (by decide) (Ev.now _))
  · refine Ev.bindS h (Ev.neg (by omega) ?_)
    have hl : l.length ≤ 1048576 := by omega
    have hm : (l.map nodeOf).length ≤ 1048576 := by simpa using hl
    refine Ev.bind (toNodeS l hl) (Ev.bind (spec_nodesFault _ hm) (Ev.bind (toNodeS l hl) (Ev.bind (impl_nodesFault _ hm) (Ev.pos rfl (Ev.bind (toNodeS l hl) (Ev.bind (eqNodeS _ hm) (Ev.pos rfl (Ev.now _))))))))

end Go.Proofs.Ytnailhkgnccloaa.Pure
