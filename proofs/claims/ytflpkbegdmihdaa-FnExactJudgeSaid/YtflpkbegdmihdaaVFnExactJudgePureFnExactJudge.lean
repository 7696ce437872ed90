/- The statement FnExactJudge over numbers and lists alone: the program's Judge and the reference's answer the same, and the statements that were handed in are as they were. No condition. -/
import Derived.Test.YtflpkbegdmihdaaVFnExactJudgeQFnExactJudgex15
import Derived.Laws.BitsAllLaws
import Derived.Laws.Bits64
import Derived.Test.YtflpkbegdmihdaaVFnExactJudgeGoodFnExactJudge
set_option linter.all false
namespace Go.Proofs.Ytflpkbegdmihdaa.Pure
open Go.RowKit Go.Proofs.Ytflpkbegdmihdaa.QFnExactJudge Go.Proofs.YtflpkbegdmihdaaW.PrintWords Go.Proofs.YtflpkbegdmihdaaW.PrintLast Go.Proofs.YtflpkbegdmihdaaW.PrintMore
theorem wrap64_id {x : Int} (h0 : -9223372036854775808 ≤ x) (h1 : x < 9223372036854775808) : wrap64 x = x := by unfold wrap64; omega
theorem Ev.pos {α : Type} {c : Prop} [Decidable c] {f g : Nat → Option α} {r : α} (h : c) (e : Ev f r) : Ev (fun k => if c then f k else g k) r := by simpa [h] using e
theorem Ev.neg {α : Type} {c : Prop} [Decidable c] {f g : Nat → Option α} {r : α} (h : ¬ c) (e : Ev g r) : Ev (fun k => if c then f k else g k) r := by simpa [h] using e
theorem Ev.bindS {α β : Type} {g : Option α} {f : Nat → α → Option β} {a : α} {r : β} (h : g = some a) (e : Ev (fun k => f k a) r) : Ev (fun k => g.bind (f k)) r := by subst h; simpa using e
theorem Ev.give {α : Type} {r s : α} (h : s = r) : Ev (fun _ => some s) r := by subst h; exact Ev.now _
theorem bt_drop (s : ByteArray) (i : Nat) (h : i < s.size) : ∃ c : UInt8, s.data.toList.drop i = c :: s.data.toList.drop (i + 1) ∧ bt s (i : Int) = (c.toNat : Int) := by
  have hl : i < s.data.toList.length := by simpa using h
  refine ⟨s.data.toList[i], List.drop_eq_getElem_cons hl, ?_⟩
  unfold bt
  rw [dif_pos (by simpa using h)]
  simp [ByteArray.getElem_eq_getElem_data]
theorem drop_end (s : ByteArray) (i : Nat) (h : s.size ≤ i) : s.data.toList.drop i = [] := List.drop_eq_nil_of_le (by simpa using h)
theorem byte_eq_int (c d : UInt8) : ((c.toNat : Int) = (d.toNat : Int)) ↔ c = d := by
  constructor
  · intro h; exact UInt8.toNat_inj.1 (by omega)
  · rintro rfl; rfl
theorem byte_eq_lit (c : UInt8) (n : Nat) (hn : n < 256) : ((c.toNat : Int) = (n : Int)) ↔ c = UInt8.ofNat n := by
  rw [← byte_eq_int]
  have : (UInt8.ofNat n).toNat = n := by simp [UInt8.toNat_ofNat']; omega
  rw [this]
theorem bt_get (s : ByteArray) (i : Nat) (h : i < s.size) : ∃ c : UInt8, s.data.toList[i]? = some c ∧ bt s (i : Int) = (c.toNat : Int) := by
  obtain ⟨c, e, hb⟩ := bt_drop s i h
  refine ⟨c, ?_, hb⟩
  have : (s.data.toList.drop i)[0]? = some c := by rw [e]; rfl
  simpa using this
theorem set_prefix {α β : Type} (f : α → β) (z : β) (l : List α) (i : Nat) (h : i < l.length) (x : α) (hx : l[i]? = some x) :
    ((l.take i).map f ++ List.replicate (l.length - i) z).set i (f x) = (l.take (i + 1)).map f ++ List.replicate (l.length - (i + 1)) z := by
  have h1 : ((l.take i).map f).length = i := by simp; omega
  rw [List.set_append_right _ _ (by omega), h1, Nat.sub_self]
  have h2 : List.replicate (l.length - i) z = z :: List.replicate (l.length - (i + 1)) z := by
    rw [show l.length - i = (l.length - (i + 1)) + 1 by omega]; rfl
  rw [h2, List.set_cons_zero, List.take_add_one, hx, List.map_append]
  simp
theorem rds_at (l : List ByteArray) (i : Nat) (h : i < l.length) : rdOf ByteArray.empty l (i : Int) = l[i] := by
  unfold rdOf; rw [Int.toNat_natCast, List.getD_eq_getElem?_getD, List.getElem?_eq_getElem h]; rfl
theorem szStringS_l0 (l : List ByteArray) (hl : l.length ≤ 1048576) (hg : ∀ x ∈ l, x.size ≤ 9223372036854775807) : ∀ (d i : Nat) (left : Int), 0 ≤ left → left ≤ 1048576 → l.length - i = d → i ≤ l.length →
    ∃ r, Ev (fun k => laws_szStringS.l0 k l left (i : Int)) r ∧ (0 ≤ r → r ≤ left ∧ ∀ x ∈ l.drop i, x.size ≤ 1048576) := by
  intro d
  induction d with
  | zero =>
    intro i left h0 h1 hd hi
    exact ⟨left, Ev.step (fun k => by rw [laws_szStringS.l0, if_neg (by omega)]) (Ev.now _), fun _ => ⟨by omega, by rw [List.drop_eq_nil_of_le (by omega)]; simp⟩⟩
  | succ d ih =>
    intro i left h0 h1 hd hi
    have hlt : i < l.length := by omega
    have hr := rds_at l i hlt
    have hw : wrap64 ((i : Int) + 1) = ((i + 1 : Nat) : Int) := by rw [wrap64_id (by omega) (by omega)]; rfl
    have g := hg l[i] (List.getElem_mem hlt)
    have hv : wrap64 (left - (l[i].size : Int)) = left - (l[i].size : Int) := wrap64_id (by omega) (by omega)
    by_cases hn : left - (l[i].size : Int) < 0
    · refine ⟨-1, Ev.step (fun k => by rw [laws_szStringS.l0, if_pos (by omega), if_pos (by omega), hr, hv, if_pos hn]) (Ev.now _), fun h => by omega⟩
    · obtain ⟨r2, e2, b2⟩ := ih (i + 1) (left - (l[i].size : Int)) (by omega) (by omega) (by omega) (by omega)
      refine ⟨r2, Ev.step (fun k => by rw [laws_szStringS.l0, if_pos (by omega), if_pos (by omega), hr, hv, if_neg hn, hw]) e2, fun h => ?_⟩
      have q2 := b2 h
      refine ⟨by omega, fun x hx => ?_⟩
      rw [List.drop_eq_getElem_cons hlt, List.mem_cons] at hx
      rcases hx with rfl | hx
      · omega
      · exact q2.2 x hx
theorem szStringS (l : List ByteArray) (left : Int) (hl : l.length ≤ 9223372036854775807) (hg : ∀ x ∈ l, x.size ≤ 9223372036854775807) (h0 : 0 ≤ left) (h1 : left ≤ 1048576) :
    ∃ r, Ev (fun k => laws_szStringS.f k l left) r ∧ (0 ≤ r → r ≤ left ∧ l.length ≤ 1048576 ∧ ∀ x ∈ l, x.size ≤ 1048576) := by
  have hw : wrap64 (left - (l.length : Int)) = left - (l.length : Int) := wrap64_id (by omega) (by omega)
  by_cases hn : left - (l.length : Int) < 0
  · exact ⟨-1, Ev.congr (fun k => by rw [laws_szStringS.f, hw, if_pos hn]) (Ev.now _), fun h => by omega⟩
  · obtain ⟨r, e, b⟩ := szStringS_l0 l (by omega) hg l.length 0 (left - (l.length : Int)) (by omega) (by omega) rfl (by omega)
    refine ⟨r, Ev.congr (fun k => by rw [laws_szStringS.f, hw, if_neg hn]; rfl) e, fun h => ?_⟩
    have q := b h
    exact ⟨by omega, by omega, by simpa using q.2⟩
theorem toStringS_l0 (l : List ByteArray) (hl : l.length ≤ 1048576) : ∀ (d i : Nat), l.length - i = d → i ≤ l.length →
    Ev (fun k => laws_toStringS.l0 k l ((l.take i).map id ++ List.replicate (l.length - i) (⟨#[]⟩ : ByteArray)) (i : Int)) (l.map id) := by
  intro d
  induction d with
  | zero =>
    intro i hd hi
    have : i = l.length := by omega
    subst this
    refine Ev.step (fun k => by rw [laws_toStringS.l0, if_neg (by omega)]) (Ev.give ?_)
    simp
  | succ d ih =>
    intro i hd hi
    have hlt : i < l.length := by omega
    have hx : l[i]? = some l[i] := List.getElem?_eq_getElem hlt
    have hr := rds_at l i hlt
    have hw : wrap64 ((i : Int) + 1) = ((i + 1 : Nat) : Int) := by rw [wrap64_id (by omega) (by omega)]; rfl
    have hs := set_prefix id (⟨#[]⟩ : ByteArray) l i hlt l[i] hx
    refine Ev.step (fun k => by rw [laws_toStringS.l0, if_pos (by omega), if_pos (by omega), hr, if_pos (by simp; omega), Int.toNat_natCast, hw, show l[i] = id l[i] from rfl, hs]) ?_
    exact ih (i + 1) (by omega) (by omega)
theorem toStringS (l : List ByteArray) (hl : l.length ≤ 1048576) : Ev (fun k => laws_toStringS.f k l) l := by
  refine Ev.congr (fun k => by rw [laws_toStringS.f, if_pos (by omega), if_pos (by omega), Int.toNat_natCast]) ?_
  have := toStringS_l0 l hl l.length 0 rfl (by omega)
  rw [List.map_id] at this
  simpa using this
theorem eqStringS_l0 (l : List ByteArray) (hl : l.length ≤ 1048576) : ∀ (d i : Nat), l.length - i = d → i ≤ l.length → Ev (fun k => laws_eqStringS.l0 k l l (i : Int)) true := by
  intro d
  induction d with
  | zero =>
    intro i hd hi
    exact Ev.step (fun k => by rw [laws_eqStringS.l0, if_neg (by omega)]) (Ev.now _)
  | succ d ih =>
    intro i hd hi
    have hw : wrap64 ((i : Int) + 1) = ((i + 1 : Nat) : Int) := by rw [wrap64_id (by omega) (by omega)]; rfl
    refine Ev.step (fun k => by rw [laws_eqStringS.l0, if_pos (by omega), if_pos (by omega), if_pos (by omega), if_pos rfl, hw]) ?_
    exact ih (i + 1) (by omega) (by omega)
theorem eqStringS (l : List ByteArray) (hl : l.length ≤ 1048576) : Ev (fun k => laws_eqStringS.f k l l) true := by
  refine Ev.congr (fun k => by rw [laws_eqStringS.f, if_pos rfl]) ?_
  exact eqStringS_l0 l hl l.length 0 rfl (by omega)
def conditionOf (x : S216) : S136 := ⟨x.f0, x.f1, x.f2⟩
theorem rdl_Condition (l : List S216) (i : Nat) (h : i < l.length) : rd_T216 l (i : Int) = l[i] := by
  unfold rd_T216; rw [Int.toNat_natCast, List.getD_eq_getElem?_getD, List.getElem?_eq_getElem h]; rfl
theorem rdi_Condition (l : List S136) (i : Nat) (h : i < l.length) : rd_T136 l (i : Int) = l[i] := by
  unfold rd_T136; rw [Int.toNat_natCast, List.getD_eq_getElem?_getD, List.getElem?_eq_getElem h]; rfl
theorem sz_Condition (x : S216) (left : Int) (h0 : 0 ≤ left) (h1 : left ≤ 1048576) (g1 : x.f1.size ≤ 9223372036854775807) : ∃ r, laws_szCondition.f x.f0 x.f1 x.f2 left = some r ∧ (0 ≤ r → r ≤ left ∧ x.f1.size ≤ 1048576) := by
  unfold laws_szCondition.f
  rw [(wrap64_id (x := left - (x.f1.size : Int)) (by omega) (by omega))]
  by_cases c0 : left - (x.f1.size : Int) < 0
  · rw [if_pos c0]; exact ⟨_, rfl, fun h => by omega⟩
  · rw [if_neg c0]
    exact ⟨_, rfl, fun h => by omega⟩
theorem toConditionS_l0 (l : List S216) (hl : l.length ≤ 1048576) : ∀ (d i : Nat), l.length - i = d → i ≤ l.length →
    Ev (fun k => laws_toConditionS.l0 k l ((l.take i).map conditionOf ++ List.replicate (l.length - i) z136) (i : Int)) (l.map conditionOf) := by
  intro d
  induction d with
  | zero =>
    intro i hd hi
    have : i = l.length := by omega
    subst this
    refine Ev.step (fun k => by rw [laws_toConditionS.l0, if_neg (by omega)]) (Ev.give ?_)
    simp
  | succ d ih =>
    intro i hd hi
    have hlt : i < l.length := by omega
    have hx : l[i]? = some l[i] := List.getElem?_eq_getElem hlt
    have hr := rdl_Condition l i hlt
    have hw : wrap64 ((i : Int) + 1) = ((i + 1 : Nat) : Int) := by rw [wrap64_id (by omega) (by omega)]; rfl
    have hs := set_prefix conditionOf z136 l i hlt l[i] hx
    refine Ev.step (fun k => by rw [laws_toConditionS.l0, if_pos (by omega), if_pos (by omega), hr, show laws_toCondition.f l[i].f0 l[i].f1 l[i].f2 = some (l[i].f0, l[i].f1, l[i].f2) from rfl, Option.bind_some, if_pos (by simp; omega), Int.toNat_natCast, hw, show (⟨(l[i].f0, l[i].f1, l[i].f2).1, (l[i].f0, l[i].f1, l[i].f2).2.1, (l[i].f0, l[i].f1, l[i].f2).2.2⟩ : S136) = conditionOf l[i] from rfl, hs]) ?_
    exact ih (i + 1) (by omega) (by omega)
theorem toConditionS (l : List S216) (hl : l.length ≤ 1048576) : Ev (fun k => laws_toConditionS.f k l) (l.map conditionOf) := by
  refine Ev.congr (fun k => by rw [laws_toConditionS.f, if_pos (by omega), if_pos (by omega), Int.toNat_natCast]) ?_
  have := toConditionS_l0 l hl l.length 0 rfl (by omega)
  simpa using this
theorem eqCondition_self (a0 : Int) (a1 : ByteArray) (a2 : Int) : laws_eqCondition.f a0 a1 a2 a0 a1 a2 = some true := by unfold laws_eqCondition.f; simp
theorem eqConditionS_l0 (l : List S136) (hl : l.length ≤ 1048576) : ∀ (d i : Nat), l.length - i = d → i ≤ l.length → Ev (fun k => laws_eqConditionS.l0 k l l (i : Int)) true := by
  intro d
  induction d with
  | zero =>
    intro i hd hi
    exact Ev.step (fun k => by rw [laws_eqConditionS.l0, if_neg (by omega)]) (Ev.now _)
  | succ d ih =>
    intro i hd hi
    have hw : wrap64 ((i : Int) + 1) = ((i + 1 : Nat) : Int) := by rw [wrap64_id (by omega) (by omega)]; rfl
    refine Ev.step (fun k => by rw [laws_eqConditionS.l0, if_pos (by omega), if_pos (by omega), if_pos (by omega), eqCondition_self, Option.bind_some, if_pos rfl, hw]) ?_
    exact ih (i + 1) (by omega) (by omega)
theorem eqConditionS (l : List S136) (hl : l.length ≤ 1048576) : Ev (fun k => laws_eqConditionS.f k l l) true := by
  refine Ev.congr (fun k => by rw [laws_eqConditionS.f, if_pos rfl]) ?_
  exact eqConditionS_l0 l hl l.length 0 rfl (by omega)
theorem szConditionS_l0 (l : List S216) (hl : l.length ≤ 1048576) (hg : ∀ x ∈ l, x.f1.size ≤ 9223372036854775807) : ∀ (d i : Nat) (left : Int), 0 ≤ left → left ≤ 1048576 → l.length - i = d → i ≤ l.length →
    ∃ r, Ev (fun k => laws_szConditionS.l0 k l left (i : Int)) r ∧ (0 ≤ r → r ≤ left ∧ ∀ x ∈ l.drop i, x.f1.size ≤ 1048576) := by
  intro d
  induction d with
  | zero =>
    intro i left h0 h1 hd hi
    exact ⟨left, Ev.step (fun k => by rw [laws_szConditionS.l0, if_neg (by omega)]) (Ev.now _), fun _ => ⟨by omega, by rw [List.drop_eq_nil_of_le (by omega)]; simp⟩⟩
  | succ d ih =>
    intro i left h0 h1 hd hi
    have hlt : i < l.length := by omega
    have hr := rdl_Condition l i hlt
    have hw : wrap64 ((i : Int) + 1) = ((i + 1 : Nat) : Int) := by rw [wrap64_id (by omega) (by omega)]; rfl
    have g := hg l[i] (List.getElem_mem hlt)
    obtain ⟨r1, e1, b1⟩ := sz_Condition l[i] left h0 h1 g
    by_cases hn : r1 < 0
    · refine ⟨-1, Ev.step (fun k => by rw [laws_szConditionS.l0, if_pos (by omega), if_pos (by omega), hr, e1, Option.bind_some, if_pos hn]) (Ev.now _), fun h => by omega⟩
    · obtain ⟨r2, e2, b2⟩ := ih (i + 1) r1 (by omega) (by have := b1 (by omega); omega) (by omega) (by omega)
      refine ⟨r2, Ev.step (fun k => by rw [laws_szConditionS.l0, if_pos (by omega), if_pos (by omega), hr, e1, Option.bind_some, if_neg hn, hw]) e2, fun h => ?_⟩
      have q1 := b1 (by omega)
      have q2 := b2 h
      refine ⟨by omega, fun x hx => ?_⟩
      rw [List.drop_eq_getElem_cons hlt, List.mem_cons] at hx
      rcases hx with rfl | hx
      · exact q1.2
      · exact q2.2 x hx
theorem szConditionS (l : List S216) (left : Int) (hl : l.length ≤ 9223372036854775807) (hg : ∀ x ∈ l, x.f1.size ≤ 9223372036854775807) (h0 : 0 ≤ left) (h1 : left ≤ 1048576) :
    ∃ r, Ev (fun k => laws_szConditionS.f k l left) r ∧ (0 ≤ r → r ≤ left ∧ l.length ≤ 1048576 ∧ ∀ x ∈ l, x.f1.size ≤ 1048576) := by
  have hw : wrap64 (left - (l.length : Int)) = left - (l.length : Int) := wrap64_id (by omega) (by omega)
  by_cases hn : left - (l.length : Int) < 0
  · exact ⟨-1, Ev.congr (fun k => by rw [laws_szConditionS.f, hw, if_pos hn]) (Ev.now _), fun h => by omega⟩
  · obtain ⟨r, e, b⟩ := szConditionS_l0 l (by omega) hg l.length 0 (left - (l.length : Int)) (by omega) (by omega) rfl (by omega)
    refine ⟨r, Ev.congr (fun k => by rw [laws_szConditionS.f, hw, if_neg hn]; rfl) e, fun h => ?_⟩
    have q := b h
    exact ⟨by omega, by omega, by simpa using q.2⟩
def statementOf (x : S128) : S132 := ⟨x.f0, x.f1, x.f2, x.f3, x.f4.map conditionOf⟩
def okStrings (n : Nat) (l : List ByteArray) : Prop := l.length ≤ n ∧ ∀ x ∈ l, x.size ≤ n
def okConds (n : Nat) (l : List S216) : Prop := l.length ≤ n ∧ ∀ x ∈ l, x.f1.size ≤ n
def okCondsI (n : Nat) (l : List S136) : Prop := l.length ≤ n ∧ ∀ x ∈ l, x.f1.size ≤ n
def okStmt (n : Nat) (x : S128) : Prop := okStrings n x.f1 ∧ okStrings n x.f2 ∧ okStrings n x.f3 ∧ okConds n x.f4
def okStmtI (n : Nat) (x : S132) : Prop := okStrings n x.f1 ∧ okStrings n x.f2 ∧ okStrings n x.f3 ∧ okCondsI n x.f4
theorem okConds_of (n : Nat) (l : List S216) (h : okConds n l) : okCondsI n (l.map conditionOf) :=
  ⟨by simpa using h.1, fun x hx => by obtain ⟨y, hy, rfl⟩ := List.mem_map.1 hx; exact h.2 y hy⟩
theorem okStmt_of (n : Nat) (x : S128) (h : okStmt n x) : okStmtI n (statementOf x) := ⟨h.1, h.2.1, h.2.2.1, okConds_of n _ h.2.2.2⟩
theorem rdl_Statement (l : List S128) (i : Nat) (h : i < l.length) : rd_T128 l (i : Int) = l[i] := by
  unfold rd_T128; rw [Int.toNat_natCast, List.getD_eq_getElem?_getD, List.getElem?_eq_getElem h]; rfl
theorem rdi_Statement (l : List S132) (i : Nat) (h : i < l.length) : rd_T132 l (i : Int) = l[i] := by
  unfold rd_T132; rw [Int.toNat_natCast, List.getD_eq_getElem?_getD, List.getElem?_eq_getElem h]; rfl
theorem sz_Statement (x : S128) (left : Int) (h0 : 0 ≤ left) (h1 : left ≤ 1048576) (g : okStmt 9223372036854775807 x) :
    ∃ r, Ev (fun k => laws_szStatement.f k x.f0 x.f1 x.f2 x.f3 x.f4 left) r ∧ (0 ≤ r → r ≤ left ∧ okStmt 1048576 x) := by
  obtain ⟨r1, e1, b1⟩ := szStringS x.f1 left g.1.1 g.1.2 h0 h1
  by_cases n1 : r1 < 0
  · exact ⟨-1, Ev.congr (fun k => by rw [laws_szStatement.f]) (Ev.bind e1 (Ev.pos n1 (Ev.now _))), fun h => by omega⟩
  · have q1 := b1 (by omega)
    obtain ⟨r2, e2, b2⟩ := szStringS x.f2 r1 g.2.1.1 g.2.1.2 (by omega) (by omega)
    by_cases n2 : r2 < 0
    · exact ⟨-1, Ev.congr (fun k => by rw [laws_szStatement.f]) (Ev.bind e1 (Ev.neg n1 (Ev.bind e2 (Ev.pos n2 (Ev.now _))))), fun h => by omega⟩
    · have q2 := b2 (by omega)
      obtain ⟨r3, e3, b3⟩ := szStringS x.f3 r2 g.2.2.1.1 g.2.2.1.2 (by omega) (by omega)
      by_cases n3 : r3 < 0
      · exact ⟨-1, Ev.congr (fun k => by rw [laws_szStatement.f]) (Ev.bind e1 (Ev.neg n1 (Ev.bind e2 (Ev.neg n2 (Ev.bind e3 (Ev.pos n3 (Ev.now _))))))), fun h => by omega⟩
      · have q3 := b3 (by omega)
        obtain ⟨r4, e4, b4⟩ := szConditionS x.f4 r3 g.2.2.2.1 g.2.2.2.2 (by omega) (by omega)
        by_cases n4 : r4 < 0
        · exact ⟨-1, Ev.congr (fun k => by rw [laws_szStatement.f]) (Ev.bind e1 (Ev.neg n1 (Ev.bind e2 (Ev.neg n2 (Ev.bind e3 (Ev.neg n3 (Ev.bind e4 (Ev.pos n4 (Ev.now _))))))))), fun h => by omega⟩
        · have q4 := b4 (by omega)
          exact ⟨r4, Ev.congr (fun k => by rw [laws_szStatement.f]) (Ev.bind e1 (Ev.neg n1 (Ev.bind e2 (Ev.neg n2 (Ev.bind e3 (Ev.neg n3 (Ev.bind e4 (Ev.neg n4 (Ev.now _))))))))), fun h => ⟨by omega, ⟨q1.2.1, q1.2.2⟩, ⟨q2.2.1, q2.2.2⟩, ⟨q3.2.1, q3.2.2⟩, ⟨q4.2.1, q4.2.2⟩⟩⟩
theorem to_Statement (x : S128) (g : okStmt 1048576 x) : Ev (fun k => laws_toStatement.f k x.f0 x.f1 x.f2 x.f3 x.f4) (x.f0, x.f1, x.f2, x.f3, x.f4.map conditionOf) :=
  by
  refine Ev.congr (fun k => by rw [laws_toStatement.f]) (Ev.bind (toStringS _ g.1.1) (Ev.bind (toStringS _ g.2.1.1) (Ev.bind (toStringS _ g.2.2.1.1) (Ev.bind (toConditionS _ g.2.2.2.1) ?_))))
  exact Ev.now _
theorem eq_Statement (x : S132) (g : okStmtI 1048576 x) : Ev (fun k => laws_eqStatement.f k x.f0 x.f1 x.f2 x.f3 x.f4 x.f0 x.f1 x.f2 x.f3 x.f4) true :=
  Ev.congr (fun k => by rw [laws_eqStatement.f]) (Ev.pos rfl (Ev.bind (eqStringS _ g.1.1) (Ev.pos rfl (Ev.bind (eqStringS _ g.2.1.1) (Ev.pos rfl (Ev.bind (eqStringS _ g.2.2.1.1) (Ev.pos rfl (Ev.bind (eqConditionS _ g.2.2.2.1) (Ev.pos rfl (Ev.now _))))))))))
theorem toStatementS_l0 (l : List S128) (hl : l.length ≤ 1048576) (hg : ∀ x ∈ l, okStmt 1048576 x) : ∀ (d i : Nat), l.length - i = d → i ≤ l.length →
    Ev (fun k => laws_toStatementS.l0 k l ((l.take i).map statementOf ++ List.replicate (l.length - i) z132) (i : Int)) (l.map statementOf) := by
  intro d
  induction d with
  | zero =>
    intro i hd hi
    have : i = l.length := by omega
    subst this
    refine Ev.step (fun k => by rw [laws_toStatementS.l0, if_neg (by omega)]) (Ev.give ?_)
    simp
  | succ d ih =>
    intro i hd hi
    have hlt : i < l.length := by omega
    have hx : l[i]? = some l[i] := List.getElem?_eq_getElem hlt
    have hr := rdl_Statement l i hlt
    have hw : wrap64 ((i : Int) + 1) = ((i + 1 : Nat) : Int) := by rw [wrap64_id (by omega) (by omega)]; rfl
    have hs := set_prefix statementOf z132 l i hlt l[i] hx
    refine Ev.step (fun k => by rw [laws_toStatementS.l0, if_pos (by omega), if_pos (by omega), hr]) ?_
    refine Ev.bind (to_Statement l[i] (hg _ (List.getElem_mem hlt))) (Ev.congr (fun k => by rw [if_pos (by simp; omega), Int.toNat_natCast, hw]) ?_)
    have e : (⟨l[i].f0, l[i].f1, l[i].f2, l[i].f3, l[i].f4.map conditionOf⟩ : S132) = statementOf l[i] := rfl
    have q := ih (i + 1) (by omega) (by omega)
    rw [← hs] at q
    exact q
theorem toStatementS (l : List S128) (hl : l.length ≤ 1048576) (hg : ∀ x ∈ l, okStmt 1048576 x) : Ev (fun k => laws_toStatementS.f k l) (l.map statementOf) := by
  refine Ev.congr (fun k => by rw [laws_toStatementS.f, if_pos (by omega), if_pos (by omega), Int.toNat_natCast]) ?_
  have := toStatementS_l0 l hl hg l.length 0 rfl (by omega)
  simpa using this
theorem eqStatementS_l0 (l : List S132) (hl : l.length ≤ 1048576) (hg : ∀ x ∈ l, okStmtI 1048576 x) : ∀ (d i : Nat), l.length - i = d → i ≤ l.length → Ev (fun k => laws_eqStatementS.l0 k l l (i : Int)) true := by
  intro d
  induction d with
  | zero =>
    intro i hd hi
    exact Ev.step (fun k => by rw [laws_eqStatementS.l0, if_neg (by omega)]) (Ev.now _)
  | succ d ih =>
    intro i hd hi
    have hlt : i < l.length := by omega
    have hr := rdi_Statement l i hlt
    have hw : wrap64 ((i : Int) + 1) = ((i + 1 : Nat) : Int) := by rw [wrap64_id (by omega) (by omega)]; rfl
    refine Ev.step (fun k => by rw [laws_eqStatementS.l0, if_pos (by omega), if_pos (by omega), if_pos (by omega), hr, hw]) ?_
    exact Ev.bind (eq_Statement l[i] (hg _ (List.getElem_mem hlt))) (Ev.pos rfl (ih (i + 1) (by omega) (by omega)))
theorem eqStatementS (l : List S132) (hl : l.length ≤ 1048576) (hg : ∀ x ∈ l, okStmtI 1048576 x) : Ev (fun k => laws_eqStatementS.f k l l) true := by
  refine Ev.congr (fun k => by rw [laws_eqStatementS.f, if_pos rfl]) ?_
  exact eqStatementS_l0 l hl hg l.length 0 rfl (by omega)
theorem szStatementS_l0 (l : List S128) (hl : l.length ≤ 1048576) (hg : ∀ x ∈ l, okStmt 9223372036854775807 x) : ∀ (d i : Nat) (left : Int), 0 ≤ left → left ≤ 1048576 → l.length - i = d → i ≤ l.length →
    ∃ r, Ev (fun k => laws_szStatementS.l0 k l left (i : Int)) r ∧ (0 ≤ r → r ≤ left ∧ ∀ x ∈ l.drop i, okStmt 1048576 x) := by
  intro d
  induction d with
  | zero =>
    intro i left h0 h1 hd hi
    exact ⟨left, Ev.step (fun k => by rw [laws_szStatementS.l0, if_neg (by omega)]) (Ev.now _), fun _ => ⟨by omega, by rw [List.drop_eq_nil_of_le (by omega)]; simp⟩⟩
  | succ d ih =>
    intro i left h0 h1 hd hi
    have hlt : i < l.length := by omega
    have hr := rdl_Statement l i hlt
    have hw : wrap64 ((i : Int) + 1) = ((i + 1 : Nat) : Int) := by rw [wrap64_id (by omega) (by omega)]; rfl
    obtain ⟨r1, e1, b1⟩ := sz_Statement l[i] left h0 h1 (hg l[i] (List.getElem_mem hlt))
    by_cases hn : r1 < 0
    · refine ⟨-1, Ev.step (fun k => by rw [laws_szStatementS.l0, if_pos (by omega), if_pos (by omega), hr]) (Ev.bind e1 (Ev.pos hn (Ev.now _))), fun h => by omega⟩
    · have q1 := b1 (by omega)
      obtain ⟨r2, e2, b2⟩ := ih (i + 1) r1 (by omega) (by omega) (by omega) (by omega)
      refine ⟨r2, Ev.step (fun k => by rw [laws_szStatementS.l0, if_pos (by omega), if_pos (by omega), hr, hw]) (Ev.bind e1 (Ev.neg hn e2)), fun h => ?_⟩
      have q2 := b2 h
      refine ⟨by omega, fun x hx => ?_⟩
      rw [List.drop_eq_getElem_cons hlt, List.mem_cons] at hx
      rcases hx with rfl | hx
      · exact q1.2
      · exact q2.2 x hx
theorem szStatementS (l : List S128) (left : Int) (hl : l.length ≤ 9223372036854775807) (hg : ∀ x ∈ l, okStmt 9223372036854775807 x) (h0 : 0 ≤ left) (h1 : left ≤ 1048576) :
    ∃ r, Ev (fun k => laws_szStatementS.f k l left) r ∧ (0 ≤ r → r ≤ left ∧ l.length ≤ 1048576 ∧ ∀ x ∈ l, okStmt 1048576 x) := by
  have hw : wrap64 (left - (l.length : Int)) = left - (l.length : Int) := wrap64_id (by omega) (by omega)
  by_cases hn : left - (l.length : Int) < 0
  · exact ⟨-1, Ev.congr (fun k => by rw [laws_szStatementS.f, hw, if_pos hn]) (Ev.now _), fun h => by omega⟩
  · obtain ⟨r, e, b⟩ := szStatementS_l0 l (by omega) hg l.length 0 (left - (l.length : Int)) (by omega) (by omega) rfl (by omega)
    refine ⟨r, Ev.congr (fun k => by rw [laws_szStatementS.f, hw, if_neg hn]; rfl) e, fun h => ?_⟩
    have q := b h
    exact ⟨by omega, by omega, by simpa using q.2⟩
theorem rdOf_at (l : List ByteArray) (i : Nat) (h : i < l.length) : rdOf ByteArray.empty l (i : Int) = l[i] := by
  unfold rdOf; rw [Int.toNat_natCast, List.getD_eq_getElem?_getD, List.getElem?_eq_getElem h]; rfl
def okByte (c : UInt8) : Bool := !(decide ((c.toNat : Int) < 33)) && !(decide ((c.toNat : Int) > 126))
def wordL (l : List UInt8) : Bool := l.all okByte
def plainL (x : Nat) (l : List UInt8) : Bool := l.all fun c => okByte c && !(decide ((c.toNat : Int) = (x : Int)))
def sizeOk (s : ByteArray) : Bool := !(decide ((s.size : Int) < 1)) && !(decide ((s.size : Int) > 200))
def wordB (s : ByteArray) : Bool := sizeOk s && wordL s.data.toList
def plainB (x : Nat) (s : ByteArray) : Bool := sizeOk s && plainL x s.data.toList
theorem plain_l0 (s : ByteArray) (hs : s.size ≤ 1048576) (x : Nat) : ∀ (d i : Nat), s.size - i = d → i ≤ s.size → Ev (fun k => impl_plain.l0 k s (x : Int) (s.size : Int) (i : Int)) (plainL x (s.data.toList.drop i)) := by
  intro d
  induction d with
  | zero =>
    intro i hd hi
    rw [drop_end s i (by omega)]
    exact Ev.step (fun k => by rw [impl_plain.l0, if_neg (by omega)]; rfl) (Ev.now _)
  | succ d ih =>
    intro i hd hi
    obtain ⟨c, e, hb⟩ := bt_drop s i (by omega)
    have hw : wrap64 ((i : Int) + 1) = ((i + 1 : Nat) : Int) := by rw [wrap64_id (by omega) (by omega)]; rfl
    have hn := ih (i + 1) (by omega) (by omega)
    have c1 : (i : Int) < (s.size : Int) := by omega
    have c0 : (0 : Int) ≤ (i : Int) := by omega
    rw [e]
    refine Ev.step (fun k => by rw [impl_plain.l0, if_pos c1, if_pos c0, if_pos c1, hb, hw]) ?_
    unfold plainL okByte
    rw [List.all_cons]
    by_cases h1 : (c.toNat : Int) < 33
    · refine Ev.pos h1 (Ev.give ?_); rw [decide_eq_true h1]; rfl
    · refine Ev.neg h1 ?_
      rw [decide_eq_false h1]
      by_cases h2 : (c.toNat : Int) > 126
      · refine Ev.pos h2 (Ev.give ?_); rw [decide_eq_true h2]; rfl
      · refine Ev.neg h2 ?_
        rw [decide_eq_false h2]
        by_cases h3 : (c.toNat : Int) = (x : Int)
        · refine Ev.pos h3 (Ev.give ?_); rw [decide_eq_true h3]; rfl
        · refine Ev.neg h3 ?_
          rw [decide_eq_false h3]
          exact hn
theorem impl_plain_ev (s : ByteArray) (hs : s.size ≤ 1048576) (x : Nat) : Ev (fun k => impl_plain.f k s (x : Int)) (plainB x s) := by
  have out : Ev (fun k => impl_plain.j0 k s (x : Int) true) false := Ev.step (fun k => by rw [impl_plain.j0, if_pos rfl]) (Ev.now _)
  unfold plainB sizeOk
  refine Ev.congr (fun k => by rw [impl_plain.f]) ?_
  by_cases h1 : (s.size : Int) < 1
  · rw [decide_eq_true h1]; exact Ev.pos h1 out
  · refine Ev.neg h1 ?_
    rw [decide_eq_false h1]
    by_cases h2 : (s.size : Int) > 200
    · rw [decide_eq_true h2]; exact out
    · rw [decide_eq_false h2]
      have := plain_l0 s hs x s.size 0 (by omega) (by omega)
      rw [List.drop_zero] at this
      exact Ev.step (fun k => by rw [impl_plain.j0, if_neg (by decide)]; rfl) this
theorem word_l0 (s : ByteArray) (hs : s.size ≤ 1048576) : ∀ (d i : Nat), s.size - i = d → i ≤ s.size → Ev (fun k => spec_l09Word.l0 k s (i : Int)) (wordL (s.data.toList.drop i)) := by
  intro d
  induction d with
  | zero =>
    intro i hd hi
    rw [drop_end s i (by omega)]
    exact Ev.step (fun k => by rw [spec_l09Word.l0, if_neg (by omega)]; rfl) (Ev.now _)
  | succ d ih =>
    intro i hd hi
    obtain ⟨c, e, hb⟩ := bt_drop s i (by omega)
    have hw : wrap64 ((i : Int) + 1) = ((i + 1 : Nat) : Int) := by rw [wrap64_id (by omega) (by omega)]; rfl
    have hn := ih (i + 1) (by omega) (by omega)
    have c1 : (i : Int) < (s.size : Int) := by omega
    have c0 : (0 : Int) ≤ (i : Int) := by omega
    rw [e]
    refine Ev.step (fun k => by rw [spec_l09Word.l0, if_pos c1, if_pos c0, hb, hw]) ?_
    unfold wordL okByte
    rw [List.all_cons]
    by_cases h1 : (c.toNat : Int) < 33
    · refine Ev.pos h1 (Ev.give ?_); rw [decide_eq_true h1]; rfl
    · refine Ev.neg h1 ?_
      rw [decide_eq_false h1]
      by_cases h2 : (c.toNat : Int) > 126
      · refine Ev.pos h2 (Ev.give ?_); rw [decide_eq_true h2]; rfl
      · refine Ev.neg h2 ?_
        rw [decide_eq_false h2]
        exact hn
theorem spec_word_ev (s : ByteArray) (hs : s.size ≤ 1048576) : Ev (fun k => spec_l09Word.f k s) (wordB s) := by
  have out : Ev (fun k => spec_l09Word.j0 k s true) false := Ev.step (fun k => by rw [spec_l09Word.j0, if_pos rfl]) (Ev.now _)
  unfold wordB sizeOk
  refine Ev.congr (fun k => by rw [spec_l09Word.f]) ?_
  by_cases h1 : (s.size : Int) < 1
  · rw [decide_eq_true h1]; exact Ev.pos h1 out
  · refine Ev.neg h1 ?_
    rw [decide_eq_false h1]
    by_cases h2 : (s.size : Int) > 200
    · rw [decide_eq_true h2]; exact out
    · rw [decide_eq_false h2]
      have := word_l0 s hs s.size 0 (by omega) (by omega)
      rw [List.drop_zero] at this
      exact Ev.step (fun k => by rw [spec_l09Word.j0, if_neg (by decide)]; rfl) this
def commaL (l : List UInt8) : Bool := l.any fun c => c == 44
theorem extract_one (s : ByteArray) (i : Nat) (c : UInt8) (e : s.data.toList.drop i = c :: s.data.toList.drop (i + 1)) : (s.extract i (i + 1)).toList = [c] := by
  rw [ByteArray.toList_eq, ByteArray.data_extract, Array.toList_extract, List.extract_eq_take_drop, e, show i + 1 - i = 1 by omega]
  rfl
theorem index_l0 (s : ByteArray) (hs : s.size ≤ 1048576) : ∀ (d i : Nat), s.size - i = d → i ≤ s.size → ∃ r, Ev (fun k => spec_l01Index.l0 k s (⟨#[44]⟩ : ByteArray) (i : Int)) r ∧ decide (r ≥ 0) = commaL (s.data.toList.drop i) := by
  have z : ((⟨#[44]⟩ : ByteArray).size : Int) = 1 := rfl
  have z2 : (⟨#[44]⟩ : ByteArray).toList = [44] := by rw [ByteArray.toList_eq]
  intro d
  induction d with
  | zero =>
    intro i hd hi
    have hw : wrap64 ((i : Int) + 1) = ((i + 1 : Nat) : Int) := by rw [wrap64_id (by omega) (by omega)]; rfl
    rw [drop_end s i (by omega)]
    exact ⟨-1, Ev.step (fun k => by rw [spec_l01Index.l0, z, hw, if_neg (by omega)]) (Ev.now _), by decide⟩
  | succ d ih =>
    intro i hd hi
    obtain ⟨c, e, _⟩ := bt_drop s i (by omega)
    have hw : wrap64 ((i : Int) + 1) = ((i + 1 : Nat) : Int) := by rw [wrap64_id (by omega) (by omega)]; rfl
    obtain ⟨r, hE, hr⟩ := ih (i + 1) (by omega) (by omega)
    have ho := extract_one s i c e
    by_cases hc : c = 44
    · refine ⟨(i : Int), Ev.step (fun k => by rw [spec_l01Index.l0, z, hw, if_pos (by omega), if_pos (by omega), if_pos (by omega), Int.toNat_natCast, Int.toNat_natCast, ho, z2, hc, if_pos rfl]) (Ev.now _), ?_⟩
      rw [e, decide_eq_true (by omega), hc]; simp [commaL]
    · refine ⟨r, Ev.step (fun k => by rw [spec_l01Index.l0, z, hw, if_pos (by omega), if_pos (by omega), if_pos (by omega), Int.toNat_natCast, Int.toNat_natCast, ho, z2, if_neg (by simpa using hc)]) hE, ?_⟩
      rw [hr, e]
      have : (c == (44 : UInt8)) = false := by simpa using hc
      simp [commaL, this]
theorem plain_zero (s : ByteArray) : plainB 0 s = wordB s := by
  unfold plainB wordB
  congr 1
  unfold plainL wordL
  congr 1
  funext c
  unfold okByte
  by_cases h : (c.toNat : Int) < 33
  · rw [decide_eq_true h]; rfl
  · rw [decide_eq_false (show ¬ (c.toNat : Int) = ((0 : Nat) : Int) by omega)]; simp
theorem plain_comma (s : ByteArray) : plainB 44 s = (wordB s && !(commaL s.data.toList)) := by
  unfold plainB wordB
  rw [Bool.and_assoc]
  congr 1
  unfold plainL wordL commaL
  induction s.data.toList with
  | nil => rfl
  | cons c l ih =>
    rw [List.all_cons, List.all_cons, List.any_cons, ih]
    have h : decide ((c.toNat : Int) = ((44 : Nat) : Int)) = (c == 44) := by
      by_cases hc : c = 44
      · subst hc; decide
      · have h2 : ¬ (c.toNat : Int) = ((44 : Nat) : Int) := fun e => hc (UInt8.toNat_inj.1 (by simpa using (by omega : c.toNat = 44)))
        rw [decide_eq_false h2]
        exact (beq_eq_false_iff_ne.2 hc).symm
    rw [h]
    cases okByte c <;> cases (c == (44 : UInt8)) <;> simp
def listB (l : List ByteArray) : Bool := (!(decide ((l.length : Int) < 1)) && !(decide ((l.length : Int) > 20))) && l.all (plainB 44)
theorem spec_list_l0 (l : List ByteArray) (hl : l.length ≤ 1048576) (hs : ∀ s ∈ l, s.size ≤ 1048576) : ∀ (d i : Nat), l.length - i = d → i ≤ l.length → Ev (fun k => spec_l09List.l0 k l (i : Int)) ((l.drop i).all (plainB 44)) := by
  intro d
  induction d with
  | zero =>
    intro i hd hi
    rw [List.drop_eq_nil_of_le (by omega)]
    exact Ev.step (fun k => by rw [spec_l09List.l0, if_neg (by omega)]; rfl) (Ev.now _)
  | succ d ih =>
    intro i hd hi
    have hlt : i < l.length := by omega
    have hr := rdOf_at l i hlt
    have hw : wrap64 ((i : Int) + 1) = ((i + 1 : Nat) : Int) := by rw [wrap64_id (by omega) (by omega)]; rfl
    have hn := ih (i + 1) (by omega) (by omega)
    have hsz := hs _ (List.getElem_mem hlt)
    obtain ⟨r, hE, hr2⟩ := index_l0 l[i] hsz l[i].size 0 (by omega) (by omega)
    rw [List.drop_zero] at hr2
    rw [List.drop_eq_getElem_cons hlt, List.all_cons, plain_comma]
    refine Ev.step (fun k => by rw [spec_l09List.l0, if_pos (by omega), if_pos (by omega), hr, hw]) ?_
    refine Ev.bind (spec_word_ev _ hsz) ?_
    by_cases h1 : wordB l[i] = true
    · refine Ev.pos h1 (Ev.bind (Ev.congr (fun k => by rw [spec_l01Index.f]; rfl) hE) ?_)
      rw [h1, ← hr2]
      by_cases h2 : r ≥ 0
      · refine Ev.pos h2 (Ev.give ?_); rw [decide_eq_true h2]; rfl
      · refine Ev.neg h2 ?_
        rw [decide_eq_false h2]
        exact hn
    · refine Ev.neg h1 (Ev.give ?_)
      rw [Bool.not_eq_true] at h1
      rw [h1]; rfl
theorem spec_list (l : List ByteArray) (hl : l.length ≤ 1048576) (hs : ∀ s ∈ l, s.size ≤ 1048576) : Ev (fun k => spec_l09List.f k l) (listB l) := by
  have out : Ev (fun k => spec_l09List.j0 k l true) false := Ev.step (fun k => by rw [spec_l09List.j0, if_pos rfl]) (Ev.now _)
  unfold listB
  refine Ev.congr (fun k => by rw [spec_l09List.f]) ?_
  by_cases h1 : (l.length : Int) < 1
  · rw [decide_eq_true h1]; exact Ev.pos h1 out
  · refine Ev.neg h1 ?_
    rw [decide_eq_false h1]
    by_cases h2 : (l.length : Int) > 20
    · rw [decide_eq_true h2]; exact out
    · rw [decide_eq_false h2]
      have := spec_list_l0 l hl hs l.length 0 (by omega) (by omega)
      rw [List.drop_zero] at this
      exact Ev.step (fun k => by rw [spec_l09List.j0, if_neg (by decide)]; rfl) this
theorem impl_list_l0 (l : List ByteArray) (hl : l.length ≤ 1048576) (hs : ∀ s ∈ l, s.size ≤ 1048576) : ∀ (d i : Nat), l.length - i = d → i ≤ l.length → Ev (fun k => impl_listFault.l0 k l l (l.length : Int) (i : Int)) (!((!(decide ((l.length : Int) < 1)) && !(decide ((l.length : Int) > 20))) && (l.drop i).all (plainB 44))) := by
  intro d
  induction d with
  | zero =>
    intro i hd hi
    rw [List.drop_eq_nil_of_le (by omega)]
    refine Ev.step (fun k => by rw [impl_listFault.l0, if_neg (by omega)]) ?_
    by_cases h1 : (l.length : Int) < 1
    · refine Ev.pos h1 (Ev.give ?_); rw [decide_eq_true h1]; rfl
    · refine Ev.neg h1 (Ev.give ?_)
      rw [decide_eq_false h1]
      cases decide ((l.length : Int) > 20) <;> rfl
  | succ d ih =>
    intro i hd hi
    have hlt : i < l.length := by omega
    have hr := rdOf_at l i hlt
    have hw : wrap64 ((i : Int) + 1) = ((i + 1 : Nat) : Int) := by rw [wrap64_id (by omega) (by omega)]; rfl
    have hn := ih (i + 1) (by omega) (by omega)
    have hsz := hs _ (List.getElem_mem hlt)
    rw [List.drop_eq_getElem_cons hlt, List.all_cons]
    refine Ev.step (fun k => by rw [impl_listFault.l0, if_pos (by omega), if_pos (by omega), if_pos (by omega), hr, hw]) ?_
    refine Ev.bind (impl_plain_ev _ hsz 44) ?_
    by_cases h1 : plainB 44 l[i] = true
    · refine Ev.pos h1 ?_
      rw [h1, Bool.true_and]
      exact hn
    · refine Ev.neg h1 (Ev.give ?_)
      rw [Bool.not_eq_true] at h1
      rw [h1, Bool.false_and, Bool.and_false]; rfl
theorem impl_list (l : List ByteArray) (hl : l.length ≤ 1048576) (hs : ∀ s ∈ l, s.size ≤ 1048576) : Ev (fun k => impl_listFault.f k l) (!(listB l)) := by
  have := impl_list_l0 l hl hs l.length 0 (by omega) (by omega)
  rw [List.drop_zero] at this
  exact Ev.congr (fun k => by rw [impl_listFault.f]; rfl) this
def condOk (x : S136) : Bool :=
  if x.f0 = 1 ∨ x.f0 = 4 then (wordB x.f1 && decide (x.f2 = 0))
  else if x.f0 = 2 ∨ x.f0 = 3 then (decide (x.f1.toList = ([] : List UInt8)) && (!(decide (x.f2 < 0)) && !(decide (x.f2 > 4102444800))))
  else false
theorem impl_cond (x : S136) (hs : x.f1.size ≤ 1048576) : Ev (fun k => impl_conditionFault.f k x.f0 x.f1 x.f2) (!(condOk x)) := by
  refine Ev.congr (fun k => by rw [impl_conditionFault.f]) ?_
  unfold condOk
  by_cases h1 : x.f0 = 1 ∨ x.f0 = 4
  · rw [if_pos h1]
    refine Ev.pos h1 ?_
    by_cases h2 : x.f2 = 0
    · refine Ev.pos h2 (Ev.bind (impl_plain_ev _ hs 0) (Ev.give ?_))
      rw [decide_eq_true h2, Bool.and_true, plain_zero]
    · refine Ev.neg h2 (Ev.give ?_)
      rw [decide_eq_false h2, Bool.and_false]; rfl
  · rw [if_neg h1]
    refine Ev.neg h1 ?_
    by_cases h3 : x.f0 = 2 ∨ x.f0 = 3
    · refine Ev.pos h3 ?_
      rw [if_pos h3]
      by_cases h4 : x.f1.toList = ([] : List UInt8)
      · refine Ev.pos h4 ?_
        rw [decide_eq_true h4, Bool.true_and]
        by_cases h5 : x.f2 < 0
        · refine Ev.pos h5 (Ev.give ?_); rw [decide_eq_true h5]; rfl
        · refine Ev.neg h5 (Ev.give ?_)
          rw [decide_eq_false h5]
          cases decide (x.f2 > 4102444800) <;> rfl
      · refine Ev.neg h4 (Ev.give ?_)
        rw [decide_eq_false h4]; rfl
    · refine Ev.neg h3 (Ev.give ?_)
      rw [if_neg h3]; rfl
theorem spec_ifs_l0 (l : List S136) (hl : l.length ≤ 1048576) (hs : ∀ x ∈ l, x.f1.size ≤ 1048576) : ∀ (d i : Nat), l.length - i = d → i ≤ l.length → Ev (fun k => spec_l09Ifs.l0 k l (i : Int)) ((l.drop i).all condOk) := by
  intro d
  induction d with
  | zero =>
    intro i hd hi
    rw [List.drop_eq_nil_of_le (by omega)]
    exact Ev.step (fun k => by rw [spec_l09Ifs.l0, if_neg (by omega)]; rfl) (Ev.now _)
  | succ d ih =>
    intro i hd hi
    have hlt : i < l.length := by omega
    have hr := rdi_Condition l i hlt
    have hw : wrap64 ((i : Int) + 1) = ((i + 1 : Nat) : Int) := by rw [wrap64_id (by omega) (by omega)]; rfl
    have hn := ih (i + 1) (by omega) (by omega)
    have hsz := hs _ (List.getElem_mem hlt)
    rw [List.drop_eq_getElem_cons hlt, List.all_cons]
    generalize l[i] = x at hr hsz
    have c0 : (0 : Int) ≤ (i : Int) := by omega
    have c1 : (i : Int) < (l.length : Int) := by omega
    have E1 : ∀ (z : Int), (x.f0 = 1 ∨ x.f0 = 4) → Ev (fun k => spec_l09Ifs.j1 k l (i : Int) z true x.f0 x.f1 x.f2) (condOk x && (l.drop (i + 1)).all condOk) := by
      intro z h
      unfold condOk
      rw [if_pos h]
      refine Ev.step (fun k => by rw [spec_l09Ifs.j1, if_pos rfl, hw]) (Ev.bind (spec_word_ev _ hsz) ?_)
      by_cases h1 : wordB x.f1 = true
      · refine Ev.pos h1 ?_
        rw [h1, Bool.true_and]
        by_cases h2 : x.f2 = 0
        · refine Ev.pos h2 ?_; rw [decide_eq_true h2]; exact hn
        · refine Ev.neg h2 (Ev.give ?_); rw [decide_eq_false h2]; rfl
      · refine Ev.neg h1 (Ev.give ?_)
        rw [Bool.not_eq_true] at h1
        rw [h1]; rfl
    have E2 : ¬ (x.f0 = 1 ∨ x.f0 = 4) → (x.f0 = 2 ∨ x.f0 = 3) → Ev (fun k => spec_l09Ifs.j2 k l (i : Int) true x.f0 x.f1 x.f2) (condOk x && (l.drop (i + 1)).all condOk) := by
      intro h0 h
      unfold condOk
      rw [if_neg h0, if_pos h]
      refine Ev.step (fun k => by rw [spec_l09Ifs.j2, if_pos rfl, hw]) ?_
      by_cases h4 : x.f1.toList = ([] : List UInt8)
      · refine Ev.pos h4 ?_
        rw [decide_eq_true h4, Bool.true_and]
        by_cases h5 : x.f2 < 0
        · refine Ev.pos h5 (Ev.give ?_); rw [decide_eq_true h5]; rfl
        · refine Ev.neg h5 ?_
          rw [decide_eq_false h5]
          by_cases h6 : x.f2 > 4102444800
          · refine Ev.pos h6 (Ev.give ?_); rw [decide_eq_true h6]; rfl
          · refine Ev.neg h6 ?_; rw [decide_eq_false h6]; exact hn
      · refine Ev.neg h4 (Ev.give ?_)
        rw [decide_eq_false h4]; rfl
    have E3 : ¬ (x.f0 = 1 ∨ x.f0 = 4) → Ev (fun k => spec_l09Ifs.j1 k l (i : Int) x.f0 false x.f0 x.f1 x.f2) (condOk x && (l.drop (i + 1)).all condOk) := by
      intro h0
      refine Ev.step (fun k => by rw [spec_l09Ifs.j1, if_neg (by decide)]) ?_
      by_cases h2 : x.f0 = 2
      · have b : (x.f0 == 2) = true := by rw [h2]; rfl
        rw [b]
        exact Ev.pos h2 (E2 h0 (Or.inl h2))
      · refine Ev.neg h2 ?_
        by_cases h3 : x.f0 = 3
        · have b : (x.f0 == 3) = true := by rw [h3]; rfl
          rw [b]
          exact E2 h0 (Or.inr h3)
        · have b : (x.f0 == 3) = false := beq_eq_false_iff_ne.2 h3
          rw [b]
          refine Ev.step (fun k => by rw [spec_l09Ifs.j2, if_neg (by decide)]) (Ev.give ?_)
          unfold condOk
          rw [if_neg h0, if_neg (by omega)]; rfl
    refine Ev.step (fun k => by rw [spec_l09Ifs.l0, if_pos c1, if_pos c0, hr]) ?_
    by_cases h1 : x.f0 = 1
    · have b : (x.f0 == 1) = true := by rw [h1]; rfl
      rw [b]
      exact Ev.pos h1 (E1 _ (Or.inl h1))
    · refine Ev.neg h1 ?_
      by_cases h4 : x.f0 = 4
      · have b : (x.f0 == 4) = true := by rw [h4]; rfl
        rw [b]
        exact E1 _ (Or.inr h4)
      · have b : (x.f0 == 4) = false := beq_eq_false_iff_ne.2 h4
        rw [b]
        exact E3 (by omega)
theorem spec_ifs (l : List S136) (h : okCondsI 1048576 l) : Ev (fun k => spec_l09Ifs.f k l) (l.all condOk) := by
  have := spec_ifs_l0 l h.1 h.2 l.length 0 rfl (by omega)
  rw [List.drop_zero] at this
  exact Ev.congr (fun k => by rw [spec_l09Ifs.f]; rfl) this
def stmtOk (x : S132) : Bool := (decide (x.f0 = 1 ∨ x.f0 = 2) && (listB x.f1 && (listB x.f2 && listB x.f3))) && x.f4.all condOk
def stmtFine (x : S132) : Bool := stmtOk x && !(decide ((x.f4.length : Int) > 10))
theorem spec_right (x : S132) (h : okStmtI 1048576 x) : Ev (fun k => spec_l09Right.f k x.f0 x.f1 x.f2 x.f3 x.f4) (stmtOk x) := by
  have E : (x.f0 = 1 ∨ x.f0 = 2) → Ev (fun k => (spec_l09List.f k x.f1).bind fun t120 => (if t120 = true then ((spec_l09List.f k x.f2).bind fun t121 => (if t121 = true then ((spec_l09List.f k x.f3).bind fun t122 => (if t122 = true then ((spec_l09Ifs.f k x.f4).bind fun t123 => (some t123)) else (some false))) else (some false))) else (some false))) (stmtOk x) := by
    intro h0
    unfold stmtOk
    rw [decide_eq_true h0, Bool.true_and]
    refine Ev.bind (spec_list _ h.1.1 h.1.2) ?_
    by_cases h1 : listB x.f1 = true
    · refine Ev.pos h1 (Ev.bind (spec_list _ h.2.1.1 h.2.1.2) ?_)
      by_cases h2 : listB x.f2 = true
      · refine Ev.pos h2 (Ev.bind (spec_list _ h.2.2.1.1 h.2.2.1.2) ?_)
        by_cases h3 : listB x.f3 = true
        · refine Ev.pos h3 (Ev.bind (spec_ifs _ h.2.2.2) (Ev.give ?_))
          rw [h1, h2, h3]; rfl
        · refine Ev.neg h3 (Ev.give ?_)
          rw [Bool.not_eq_true] at h3
          rw [h3, Bool.and_false, Bool.and_false]; rfl
      · refine Ev.neg h2 (Ev.give ?_)
        rw [Bool.not_eq_true] at h2
        rw [h2, Bool.false_and, Bool.and_false]; rfl
    · refine Ev.neg h1 (Ev.give ?_)
      rw [Bool.not_eq_true] at h1
      rw [h1]; rfl
  refine Ev.congr (fun k => by rw [spec_l09Right.f]) ?_
  by_cases h1 : x.f0 = 1
  · exact Ev.pos h1 (E (Or.inl h1))
  · refine Ev.neg h1 ?_
    by_cases h2 : x.f0 = 2
    · exact Ev.pos h2 (E (Or.inr h2))
    · refine Ev.neg h2 (Ev.give ?_)
      unfold stmtOk
      rw [decide_eq_false (by omega)]; rfl
def policyFaultOf (l : List S132) : Int := if (l.length : Int) > 50 then 1 else if l.all stmtFine = true then 0 else 1
theorem spec_policy_l0 (l : List S132) (hl : l.length ≤ 1048576) (hs : ∀ x ∈ l, okStmtI 1048576 x) : ∀ (d i : Nat), l.length - i = d → i ≤ l.length → Ev (fun k => spec_PolicyFault.l0 k l (i : Int)) (if (l.drop i).all stmtFine = true then 0 else 1) := by
  intro d
  induction d with
  | zero =>
    intro i hd hi
    rw [List.drop_eq_nil_of_le (by omega)]
    exact Ev.step (fun k => by rw [spec_PolicyFault.l0, if_neg (by omega)]; rfl) (Ev.now _)
  | succ d ih =>
    intro i hd hi
    have hlt : i < l.length := by omega
    have hr := rdi_Statement l i hlt
    have hw : wrap64 ((i : Int) + 1) = ((i + 1 : Nat) : Int) := by rw [wrap64_id (by omega) (by omega)]; rfl
    have hn := ih (i + 1) (by omega) (by omega)
    have hsz := hs _ (List.getElem_mem hlt)
    rw [List.drop_eq_getElem_cons hlt, List.all_cons]
    refine Ev.step (fun k => by rw [spec_PolicyFault.l0, if_pos (by omega), if_pos (by omega), hr, hw]) (Ev.bind (spec_right _ hsz) ?_)
    by_cases h1 : stmtOk l[i] = true
    · refine Ev.pos h1 ?_
      by_cases h2 : (l[i].f4.length : Int) > 10
      · refine Ev.pos h2 (Ev.give ?_)
        unfold stmtFine; rw [h1, decide_eq_true h2]; rfl
      · refine Ev.neg h2 ?_
        have : stmtFine l[i] = true := by unfold stmtFine; rw [h1, decide_eq_false h2]; rfl
        rw [this, Bool.true_and]; exact hn
    · refine Ev.neg h1 (Ev.give ?_)
      rw [Bool.not_eq_true] at h1
      unfold stmtFine; rw [h1]; rfl
theorem spec_policy (l : List S132) (hl : l.length ≤ 1048576) (hs : ∀ x ∈ l, okStmtI 1048576 x) : Ev (fun k => spec_PolicyFault.f k l) (policyFaultOf l) := by
  unfold policyFaultOf
  refine Ev.congr (fun k => by rw [spec_PolicyFault.f]) ?_
  by_cases h : (l.length : Int) > 50
  · rw [if_pos h]; exact Ev.pos h (Ev.now _)
  · rw [if_neg h]
    have := spec_policy_l0 l hl hs l.length 0 rfl (by omega)
    rw [List.drop_zero] at this
    exact Ev.neg h this
theorem impl_policy_l1 (l : List S132) (n x12 r : Int) (c : List S136) (hc : okCondsI 1048576 c) (hnext : Ev (fun k => impl_PolicyFault.l0 k l n (wrap64 (x12 + 1))) r) : ∀ (d i : Nat), c.length - i = d → i ≤ c.length → Ev (fun k => impl_PolicyFault.l1 k l n x12 c (c.length : Int) (i : Int)) (if (c.drop i).all condOk = true then r else 1) := by
  intro d
  induction d with
  | zero =>
    intro i hd hi
    rw [List.drop_eq_nil_of_le (by omega)]
    exact Ev.step (fun k => by rw [impl_PolicyFault.l1, if_neg (by omega)]) (by simpa using hnext)
  | succ d ih =>
    intro i hd hi
    have hlt : i < c.length := by omega
    have hcl := hc.1
    have hr := rdi_Condition c i hlt
    have hw : wrap64 ((i : Int) + 1) = ((i + 1 : Nat) : Int) := by rw [wrap64_id (by omega) (by omega)]; rfl
    have hn := ih (i + 1) (by omega) (by omega)
    have hsz := hc.2 _ (List.getElem_mem hlt)
    rw [List.drop_eq_getElem_cons hlt, List.all_cons]
    refine Ev.step (fun k => by rw [impl_PolicyFault.l1, if_pos (by omega), if_pos (by omega), if_pos (by omega), hr, hw]) (Ev.bind (impl_cond _ hsz) ?_)
    by_cases h1 : condOk c[i] = true
    · rw [h1, Bool.true_and]
      exact Ev.neg (by decide) hn
    · rw [Bool.not_eq_true] at h1
      rw [h1]
      exact Ev.pos rfl (Ev.now _)
theorem impl_policy_l0 (l : List S132) (hl : l.length ≤ 1048576) (hs : ∀ x ∈ l, okStmtI 1048576 x) : ∀ (d i : Nat), l.length - i = d → i ≤ l.length → Ev (fun k => impl_PolicyFault.l0 k l (l.length : Int) (i : Int)) (if (l.drop i).all stmtFine = true then 0 else 1) := by
  intro d
  induction d with
  | zero =>
    intro i hd hi
    rw [List.drop_eq_nil_of_le (by omega)]
    exact Ev.step (fun k => by rw [impl_PolicyFault.l0, if_neg (by omega)]; rfl) (Ev.now _)
  | succ d ih =>
    intro i hd hi
    have hlt : i < l.length := by omega
    have hr := rdi_Statement l i hlt
    have hw : wrap64 ((i : Int) + 1) = ((i + 1 : Nat) : Int) := by rw [wrap64_id (by omega) (by omega)]; rfl
    have hn := ih (i + 1) (by omega) (by omega)
    have hsz := hs _ (List.getElem_mem hlt)
    rw [List.drop_eq_getElem_cons hlt, List.all_cons]
    refine Ev.step (fun k => by rw [impl_PolicyFault.l0, if_pos (by omega), if_pos (by omega), if_pos (by omega), hr]) ?_
    generalize l[i] = x at hr hsz
    have T : stmtFine x = false → Ev (fun k => impl_PolicyFault.j1 k l (l.length : Int) (i : Int) true x.f0 x.f1 x.f2 x.f3 x.f4) (if (stmtFine x && (l.drop (i + 1)).all stmtFine) = true then 0 else 1) := by
      intro hf
      rw [hf, Bool.false_and, if_neg (by decide)]
      exact Ev.step (fun k => by rw [impl_PolicyFault.j1, if_pos rfl]) (Ev.now _)
    have E : (x.f0 = 1 ∨ x.f0 = 2) → Ev (fun k => ((impl_listFault.f k (x.f1)).bind fun t184 => (if t184 = true then (impl_PolicyFault.j1 k l (l.length : Int) (i : Int) true x.f0 x.f1 x.f2 x.f3 x.f4) else ((impl_listFault.f k (x.f2)).bind fun t185 => (if t185 = true then (impl_PolicyFault.j1 k l (l.length : Int) (i : Int) true x.f0 x.f1 x.f2 x.f3 x.f4) else ((impl_listFault.f k (x.f3)).bind fun t186 => (if t186 = true then (impl_PolicyFault.j1 k l (l.length : Int) (i : Int) true x.f0 x.f1 x.f2 x.f3 x.f4) else (impl_PolicyFault.j1 k l (l.length : Int) (i : Int) (decide (((x.f4).length : Int) > 10)) x.f0 x.f1 x.f2 x.f3 x.f4)))))))) (if (stmtFine x && (l.drop (i + 1)).all stmtFine) = true then 0 else 1) := by
      intro h0
      refine Ev.bind (impl_list _ hsz.1.1 hsz.1.2) ?_
      by_cases h1 : listB x.f1 = true
      · refine Ev.neg (by rw [h1]; decide) (Ev.bind (impl_list _ hsz.2.1.1 hsz.2.1.2) ?_)
        by_cases h2 : listB x.f2 = true
        · refine Ev.neg (by rw [h2]; decide) (Ev.bind (impl_list _ hsz.2.2.1.1 hsz.2.2.1.2) ?_)
          by_cases h3 : listB x.f3 = true
          · refine Ev.neg (by rw [h3]; decide) ?_
            have e : stmtFine x = (x.f4.all condOk && !(decide ((x.f4.length : Int) > 10))) := by
              unfold stmtFine stmtOk; rw [decide_eq_true h0, h1, h2, h3]; simp
            by_cases h4 : (x.f4.length : Int) > 10
            · rw [decide_eq_true h4] at e ⊢
              exact T (by rw [e]; simp)
            · rw [decide_eq_false h4] at e ⊢
              rw [e]
              refine Ev.step (fun k => by rw [impl_PolicyFault.j1, if_neg (by decide)]) ?_
              have q := impl_policy_l1 l (l.length : Int) (i : Int) _ x.f4 hsz.2.2.2 (by rw [hw]; exact hn) x.f4.length 0 rfl (by omega)
              rw [List.drop_zero] at q
              refine Ev.congr (fun k => rfl) (cast (congrArg (Ev _) ?_) q)
              cases x.f4.all condOk <;> simp
          · rw [Bool.not_eq_true] at h3
            refine Ev.pos (by rw [h3]; rfl) (T ?_)
            unfold stmtFine stmtOk; rw [h3]; simp
        · rw [Bool.not_eq_true] at h2
          refine Ev.pos (by rw [h2]; rfl) (T ?_)
          unfold stmtFine stmtOk; rw [h2]; simp
      · rw [Bool.not_eq_true] at h1
        refine Ev.pos (by rw [h1]; rfl) (T ?_)
        unfold stmtFine stmtOk; rw [h1]; simp
    by_cases h1 : x.f0 = 1
    · exact Ev.pos h1 (E (Or.inl h1))
    · refine Ev.neg h1 ?_
      by_cases h2 : x.f0 = 2
      · exact Ev.pos h2 (E (Or.inr h2))
      · refine Ev.neg h2 (T ?_)
        unfold stmtFine stmtOk; rw [decide_eq_false (by omega)]; simp
theorem impl_policy (l : List S132) (hl : l.length ≤ 1048576) (hs : ∀ x ∈ l, okStmtI 1048576 x) : Ev (fun k => impl_PolicyFault.f k l) (policyFaultOf l) := by
  unfold policyFaultOf
  refine Ev.congr (fun k => by rw [impl_PolicyFault.f]) ?_
  by_cases h : (l.length : Int) > 50
  · rw [if_pos h]; exact Ev.pos h (Ev.now _)
  · rw [if_neg h]
    have := impl_policy_l0 l hl hs l.length 0 rfl (by omega)
    rw [List.drop_zero] at this
    exact Ev.neg h this
def anyTo (row : Nat → Bool) : Nat → Bool
  | 0 => false
  | j + 1 => anyTo row j || row j
def gRow (t : List UInt8) (row : Nat → Bool) (c : UInt8) : Nat → Bool := fun j =>
  if c = 42 then anyTo row (j + 1) else match j with
    | 0 => false
    | j + 1 => row j && (c == 63 || t[j]? == some c)
def gStart : Nat → Bool := fun j => decide (j = 0)
def globL (p t : List UInt8) : Bool := p.foldl (gRow t) gStart t.length
def globOf (p t : ByteArray) : Bool := if (p.size : Int) > 200 then false else if (t.size : Int) > 2000 then false else globL p.data.toList t.data.toList
def LL (n : Nat) (f : Nat → Bool) : List Bool := (List.range (n + 1)).map f
theorem LL_length (n : Nat) (f : Nat → Bool) : (LL n f).length = n + 1 := by simp [LL]
theorem LL_get (n : Nat) (f : Nat → Bool) (j : Nat) (h : j ≤ n) : rdOf false (LL n f) (j : Int) = f j := by
  unfold rdOf LL
  rw [Int.toNat_natCast, List.getD_eq_getElem?_getD, List.getElem?_map, List.getElem?_range (by omega)]
  rfl
theorem LL_ext {n : Nat} {f g : Nat → Bool} (h : ∀ i, i ≤ n → f i = g i) : LL n f = LL n g := by
  unfold LL
  apply List.map_congr_left
  intro i hi
  exact h i (by have := List.mem_range.1 hi; omega)
theorem LL_set (n : Nat) (f : Nat → Bool) (j : Nat) (b : Bool) (h : j ≤ n) : (LL n f).set j b = LL n (fun i => if i = j then b else f i) := by
  apply List.ext_getElem
  · simp [LL]
  · intro i h1 h2
    simp only [LL, List.getElem_set, List.getElem_map, List.getElem_range]
    by_cases e : j = i
    · subst e; simp
    · rw [if_neg e, if_neg (fun h => e h.symm)]
theorem LL_false (n : Nat) : List.replicate (n + 1) false = LL n (fun _ => false) := by
  apply List.ext_getElem
  · simp [LL]
  · intro i h1 h2; simp [LL]
theorem LL_start (n : Nat) : (List.replicate (n + 1) false).set 0 true = LL n gStart := by
  rw [LL_false, LL_set n _ 0 true (by omega)]
  apply LL_ext
  intro i _
  unfold gStart
  by_cases h : i = 0 <;> simp [h]
theorem LL_step (n : Nat) (f : Nat → Bool) (j : Nat) (h : j ≤ n) : (LL n (fun i => decide (i < j) && f i)).set j (f j) = LL n (fun i => decide (i < j + 1) && f i) := by
  rw [LL_set n _ j _ h]
  apply LL_ext
  intro i _
  by_cases e : i = j
  · subst e; simp
  · rw [if_neg e]
    have : decide (i < j) = decide (i < j + 1) := by rw [decide_eq_decide]; omega
    rw [this]
theorem LL_skip (n : Nat) (f : Nat → Bool) (j : Nat) (h : f j = false) : LL n (fun i => decide (i < j) && f i) = LL n (fun i => decide (i < j + 1) && f i) := by
  apply LL_ext
  intro i _
  by_cases e : i = j
  · subst e; simp [h]
  · have : decide (i < j) = decide (i < j + 1) := by rw [decide_eq_decide]; omega
    rw [this]
theorem LL_all (n : Nat) (f : Nat → Bool) (m : Nat) (h : n < m) : LL n (fun i => decide (i < m) && f i) = LL n f := by
  apply LL_ext
  intro i hi
  simp [show i < m by omega]
theorem LL_none (n : Nat) (f : Nat → Bool) : LL n (fun i => decide (i < 0) && f i) = List.replicate (n + 1) false := by
  rw [LL_false]; apply LL_ext; intro i _; simp
theorem gRow_star (t : List UInt8) (row : Nat → Bool) (j : Nat) : gRow t row 42 j = anyTo row (j + 1) := by simp [gRow]
theorem gRow_zero (t : List UInt8) (row : Nat → Bool) (c : UInt8) (h : c ≠ 42) : gRow t row c 0 = false := by simp [gRow, h]
theorem gRow_succ (t : List UInt8) (row : Nat → Bool) (c : UInt8) (h : c ≠ 42) (j : Nat) : gRow t row c (j + 1) = (row j && (c == 63 || t[j]? == some c)) := by simp [gRow, h]
theorem gRow_zero' (t : List UInt8) (row : Nat → Bool) (c : UInt8) (h : c ≠ 42) (n : Nat) : LL n (fun i => decide (i < 1) && gRow t row c i) = List.replicate (n + 1) false := by
  rw [LL_false]; apply LL_ext; intro i _
  by_cases e : i = 0
  · subst e; simp [gRow_zero t row c h]
  · simp [e]
section
variable (p t : ByteArray) (row : Nat → Bool) (c : UInt8) (i : Nat)
theorem spec_glob_star (ht : t.size ≤ 140737488351232) (hi : i < p.size) (hc : bt p (i : Int) = (c.toNat : Int)) (h42 : c = 42) (r : Bool)
    (cont : Ev (fun k => spec_GlobFits.l0 k p t (LL t.size (gRow t.data.toList row c)) ((i : Int) + 1)) r) (hi64 : p.size ≤ 140737488351232) :
    ∀ (d j : Nat), t.size + 1 - j = d → j ≤ t.size + 1 → Ev (fun k => spec_GlobFits.l1 k p t (LL t.size row) (i : Int) (LL t.size (fun q => decide (q < j) && gRow t.data.toList row c q)) (anyTo row j) (j : Int)) r := by
  subst h42
  have h42' : bt p (i : Int) = 42 := hc
  intro d
  induction d with
  | zero =>
    intro j hd hj
    refine Ev.step (fun k => by rw [spec_GlobFits.l1, if_neg (by omega), wrap64_id (x := (i : Int) + 1) (by omega) (by omega)]) ?_
    rw [LL_all _ _ _ (by omega)]
    exact cont
  | succ d ih =>
    intro j hd hj
    have hjn : j ≤ t.size := by omega
    have key : Ev (fun k => spec_GlobFits.j3 k p t (LL t.size row) (i : Int) (LL t.size (fun q => decide (q < j) && gRow t.data.toList row 42 q)) (anyTo row (j + 1)) (j : Int)) r := by
      have := ih (j + 1) (by omega) (by omega)
      refine Ev.step (fun k => by rw [spec_GlobFits.j3, if_pos (by omega), if_pos (by omega), if_pos h42', if_pos (by omega), if_pos (by rw [LL_length]; omega), wrap64_id (x := (j : Int) + 1) (by omega) (by omega), Int.toNat_natCast, ← gRow_star t.data.toList row j, LL_step _ _ _ hjn]) ?_
      rw [gRow_star]
      exact this
    by_cases ha : anyTo row j = true
    · have e : anyTo row (j + 1) = true := by simp [anyTo, ha]
      rw [e] at key
      exact Ev.step (fun k => by rw [spec_GlobFits.l1, if_pos (by omega), if_pos ha]) key
    · have e : anyTo row (j + 1) = row j := by simp [anyTo, ha]
      rw [e] at key
      exact Ev.step (fun k => by rw [spec_GlobFits.l1, if_pos (by omega), if_neg ha, if_pos (by omega), if_pos (by rw [LL_length]; omega), LL_get _ _ _ hjn]) key
theorem spec_glob_plain (ht : t.size ≤ 140737488351232) (hi : i < p.size) (hc : bt p (i : Int) = (c.toNat : Int)) (h42 : c ≠ 42) (r : Bool)
    (cont : Ev (fun k => spec_GlobFits.l0 k p t (LL t.size (gRow t.data.toList row c)) ((i : Int) + 1)) r) (hi64 : p.size ≤ 140737488351232) :
    ∀ (d j : Nat), t.size + 1 - j = d → j ≤ t.size + 1 → Ev (fun k => spec_GlobFits.l1 k p t (LL t.size row) (i : Int) (LL t.size (fun q => decide (q < j + 1) && gRow t.data.toList row c q)) (anyTo row j) (j : Int)) r := by
  have h42' : ¬ bt p (i : Int) = 42 := by rw [hc]; exact fun h => h42 ((byte_eq_lit c 42 (by omega)).1 h)
  intro d
  induction d with
  | zero =>
    intro j hd hj
    refine Ev.step (fun k => by rw [spec_GlobFits.l1, if_neg (by omega), wrap64_id (x := (i : Int) + 1) (by omega) (by omega)]) ?_
    rw [LL_all _ _ _ (by omega)]
    exact cont
  | succ d ih =>
    intro j hd hj
    have hjn : j ≤ t.size := by omega
    have next := ih (j + 1) (by omega) (by omega)
    have hw : wrap64 ((j : Int) + 1) = ((j + 1 : Nat) : Int) := by rw [wrap64_id (by omega) (by omega)]; rfl
    have key : Ev (fun k => spec_GlobFits.j3 k p t (LL t.size row) (i : Int) (LL t.size (fun q => decide (q < j + 1) && gRow t.data.toList row c q)) (anyTo row (j + 1)) (j : Int)) r := by
      by_cases hjl : j < t.size
      · obtain ⟨e, he, hbe⟩ := bt_get t j hjl
        have hg := gRow_succ t.data.toList row c h42 j
        rw [he] at hg
        by_cases hr : row j = true
        · have set1 : gRow t.data.toList row c (j + 1) = true → (LL t.size (fun q => decide (q < j + 1) && gRow t.data.toList row c q)).set (j + 1) true = LL t.size (fun q => decide (q < j + 1 + 1) && gRow t.data.toList row c q) := by
            intro h; rw [← LL_step _ _ _ (by omega : j + 1 ≤ t.size), h]
          by_cases h63 : c = 63
          · have h63' : bt p (i : Int) = 63 := by rw [hc, h63]; rfl
            refine Ev.step (fun k => by rw [spec_GlobFits.j3, if_pos (by omega), if_pos (by omega), if_neg h42', if_pos (by omega), if_pos (by omega), if_pos (by rw [LL_length]; omega), LL_get _ _ _ hjn, if_pos hr, if_pos h63', hw, if_pos (by omega), if_pos (by rw [LL_length]; omega), Int.toNat_natCast, set1 (by rw [hg, hr, h63]; rfl)]) ?_
            exact next
          · have h63' : ¬ bt p (i : Int) = 63 := by rw [hc]; exact fun h => h63 ((byte_eq_lit c 63 (by omega)).1 h)
            by_cases hce : c = e
            · refine Ev.step (fun k => by rw [spec_GlobFits.j3, if_pos (by omega), if_pos (by omega), if_neg h42', if_pos (by omega), if_pos (by omega), if_pos (by rw [LL_length]; omega), LL_get _ _ _ hjn, if_pos hr, if_neg h63', if_pos (by rw [hc, hbe, hce]), hw, if_pos (by omega), if_pos (by rw [LL_length]; omega), Int.toNat_natCast, set1 (by rw [hg, hr, hce]; simp)]) ?_
              exact next
            · have hz : gRow t.data.toList row c (j + 1) = false := by rw [hg, hr]; simp [h63]; exact fun h => hce h.symm
              rw [LL_skip _ _ _ hz]
              refine Ev.step (fun k => by rw [spec_GlobFits.j3, if_pos (by omega), if_pos (by omega), if_neg h42', if_pos (by omega), if_pos (by omega), if_pos (by rw [LL_length]; omega), LL_get _ _ _ hjn, if_pos hr, if_neg h63', if_neg (by rw [hc, hbe]; exact fun h => hce ((byte_eq_int c e).1 h)), hw]) ?_
              exact next
        · have hz : gRow t.data.toList row c (j + 1) = false := by rw [hg]; simp [hr]
          rw [LL_skip _ _ _ hz]
          refine Ev.step (fun k => by rw [spec_GlobFits.j3, if_pos (by omega), if_pos (by omega), if_neg h42', if_pos (by omega), if_pos (by omega), if_pos (by rw [LL_length]; omega), LL_get _ _ _ hjn, if_neg hr, hw]) ?_
          exact next
      · have : j = t.size := by omega
        subst this
        refine Ev.step (fun k => by rw [spec_GlobFits.j3, if_pos (by omega), if_pos (by omega), if_neg h42', if_neg (by omega), hw]) ?_
        rw [LL_all _ _ _ (by omega)] at next ⊢
        exact next
    by_cases ha : anyTo row j = true
    · have e : anyTo row (j + 1) = true := by simp [anyTo, ha]
      rw [e] at key
      exact Ev.step (fun k => by rw [spec_GlobFits.l1, if_pos (by omega), if_pos ha]) key
    · have e : anyTo row (j + 1) = row j := by simp [anyTo, ha]
      rw [e] at key
      exact Ev.step (fun k => by rw [spec_GlobFits.l1, if_pos (by omega), if_neg ha, if_pos (by omega), if_pos (by rw [LL_length]; omega), LL_get _ _ _ hjn]) key
end
theorem spec_glob_l0 (p t : ByteArray) (hp : p.size ≤ 140737488351232) (ht : t.size ≤ 140737488351232) : ∀ (d i : Nat) (row : Nat → Bool), p.size - i = d → i ≤ p.size →
    Ev (fun k => spec_GlobFits.l0 k p t (LL t.size row) (i : Int)) ((p.data.toList.drop i).foldl (gRow t.data.toList) row t.size) := by
  intro d
  induction d with
  | zero =>
    intro i row hd hi
    rw [drop_end p i (by omega)]
    refine Ev.step (fun k => by rw [spec_GlobFits.l0, if_neg (by omega), if_pos (by omega), if_pos (by rw [LL_length]; omega), LL_get _ _ _ (by omega)]) (Ev.give ?_)
    rfl
  | succ d ih =>
    intro i row hd hi
    obtain ⟨c, e, hb⟩ := bt_drop p i (by omega)
    rw [e]
    have hsz : wrap64 ((t.size : Int) + 1) = ((t.size + 1 : Nat) : Int) := by rw [wrap64_id (by omega) (by omega)]; rfl
    have cont := ih (i + 1) (gRow t.data.toList row c) (by omega) (by omega)
    refine Ev.step (fun k => by rw [spec_GlobFits.l0, if_pos (by omega), hsz, if_pos (by omega), if_pos (by omega), Int.toNat_natCast]) ?_
    by_cases h42 : c = 42
    · have := spec_glob_star p t row c i ht (by omega) hb h42 _ cont hp _ 0 rfl (by omega)
      rw [LL_none] at this
      exact this
    · have := spec_glob_plain p t row c i ht (by omega) hb h42 _ cont hp _ 0 rfl (by omega)
      rw [gRow_zero' _ _ _ h42] at this
      exact this
theorem spec_globFits (p t : ByteArray) (hp : p.size ≤ 140737488351232) (ht : t.size ≤ 140737488351232) : Ev (fun k => spec_GlobFits.f k p t) (globOf p t) := by
  unfold globOf
  by_cases h0 : (p.size : Int) > 200
  · rw [if_pos h0]
    refine Ev.congr (fun k => by rw [spec_GlobFits.f, if_pos h0]) ?_
    exact Ev.step (fun k => by rw [spec_GlobFits.j0, if_pos rfl]) (Ev.now _)
  · rw [if_neg h0]
    refine Ev.congr (fun k => by rw [spec_GlobFits.f, if_neg h0]) ?_
    by_cases h1 : (t.size : Int) > 2000
    · rw [if_pos h1]
      exact Ev.step (fun k => by rw [spec_GlobFits.j0, if_pos (by simpa using h1)]) (Ev.now _)
    · rw [if_neg h1]
      have hsz : wrap64 ((t.size : Int) + 1) = ((t.size + 1 : Nat) : Int) := by rw [wrap64_id (by omega) (by omega)]; rfl
      refine Ev.step (fun k => by rw [spec_GlobFits.j0, if_neg (by simpa using h1), hsz, if_pos (by omega), if_pos (by omega), Int.toNat_natCast, Option.bind_some, if_pos (by simp)]) ?_
      have := spec_glob_l0 p t hp ht p.size 0 gStart (by omega) (by omega)
      rw [← LL_start] at this
      unfold globL
      rw [show t.data.toList.length = t.size by simp]
      exact this
section
variable (p t : ByteArray) (row : Nat → Bool) (c : UInt8) (i : Nat)
theorem impl_glob_star (ht : t.size ≤ 140737488351232) (hi : i < p.size) (hc : bt p (i : Int) = (c.toNat : Int)) (h42 : c = 42) (r : Bool)
    (cont : Ev (fun k => impl_GlobFits.l0 k p t (LL t.size (gRow t.data.toList row c)) (p.size : Int) ((i : Int) + 1)) r) (hi64 : p.size ≤ 140737488351232) :
    ∀ (d j : Nat), t.size + 1 - j = d → j ≤ t.size + 1 → Ev (fun k => impl_GlobFits.l1 k p t (LL t.size row) (i : Int) (LL t.size (fun q => decide (q < j) && gRow t.data.toList row c q)) (anyTo row j) (p.size : Int) (i : Int) ((LL t.size row).length : Int) (j : Int)) r := by
  subst h42
  have h42' : bt p (i : Int) = 42 := hc
  intro d
  induction d with
  | zero =>
    intro j hd hj
    refine Ev.step (fun k => by rw [impl_GlobFits.l1, if_neg (by rw [LL_length]; omega), wrap64_id (x := (i : Int) + 1) (by omega) (by omega)]) ?_
    rw [LL_all _ _ _ (by omega)]
    exact cont
  | succ d ih =>
    intro j hd hj
    have hjn : j ≤ t.size := by omega
    have next := ih (j + 1) (by omega) (by omega)
    have hw : wrap64 ((j : Int) + 1) = ((j + 1 : Nat) : Int) := by rw [wrap64_id (by omega) (by omega)]; rfl
    have hst := LL_step t.size (gRow t.data.toList row 42) j hjn
    rw [gRow_star] at hst
    by_cases ha : anyTo row j = true
    · have e : anyTo row (j + 1) = true := by simp [anyTo, ha]
      rw [e] at next hst
      exact Ev.step (fun k => by rw [impl_GlobFits.l1, if_pos (by rw [LL_length]; omega), if_pos (by omega), if_pos (by omega), if_pos h42', if_pos ha, if_pos (by omega), if_pos (by rw [LL_length]; omega), hw, Int.toNat_natCast, hst]) next
    · have e : anyTo row (j + 1) = row j := by simp [anyTo, ha]
      rw [e] at next hst
      exact Ev.step (fun k => by rw [impl_GlobFits.l1, if_pos (by rw [LL_length]; omega), if_pos (by omega), if_pos (by omega), if_pos h42', if_neg ha, if_pos (by omega), if_pos (by rw [LL_length]; omega), if_pos (by rw [LL_length]; omega), hw, Int.toNat_natCast, LL_get _ _ _ hjn, hst]) next
theorem impl_glob_plain (ht : t.size ≤ 140737488351232) (hi : i < p.size) (hc : bt p (i : Int) = (c.toNat : Int)) (h42 : c ≠ 42) (r : Bool)
    (cont : Ev (fun k => impl_GlobFits.l0 k p t (LL t.size (gRow t.data.toList row c)) (p.size : Int) ((i : Int) + 1)) r) (hi64 : p.size ≤ 140737488351232) :
    ∀ (d j : Nat), t.size + 1 - j = d → j ≤ t.size + 1 → Ev (fun k => impl_GlobFits.l1 k p t (LL t.size row) (i : Int) (LL t.size (fun q => decide (q < j) && gRow t.data.toList row c q)) false (p.size : Int) (i : Int) ((LL t.size row).length : Int) (j : Int)) r := by
  have h42' : ¬ bt p (i : Int) = 42 := by rw [hc]; exact fun h => h42 ((byte_eq_lit c 42 (by omega)).1 h)
  intro d
  induction d with
  | zero =>
    intro j hd hj
    refine Ev.step (fun k => by rw [impl_GlobFits.l1, if_neg (by rw [LL_length]; omega), wrap64_id (x := (i : Int) + 1) (by omega) (by omega)]) ?_
    rw [LL_all _ _ _ (by omega)]
    exact cont
  | succ d ih =>
    intro j hd hj
    have hjn : j ≤ t.size := by omega
    have next := ih (j + 1) (by omega) (by omega)
    have hw : wrap64 ((j : Int) + 1) = ((j + 1 : Nat) : Int) := by rw [wrap64_id (by omega) (by omega)]; rfl
    have hst := LL_step t.size (gRow t.data.toList row c) j hjn
    cases j with
    | zero =>
      rw [LL_skip _ _ _ (gRow_zero _ _ _ h42)]
      exact Ev.step (fun k => by rw [impl_GlobFits.l1, if_pos (by rw [LL_length]; omega), if_pos (by omega), if_pos (by omega), if_neg h42', if_neg (by omega), hw]) next
    | succ q =>
      have hq : wrap64 (((q + 1 : Nat) : Int) - 1) = (q : Int) := by rw [wrap64_id (by omega) (by omega)]; omega
      obtain ⟨e, he, hbe⟩ := bt_get t q (by omega)
      have hg := gRow_succ t.data.toList row c h42 q
      rw [he] at hg
      by_cases hr : row q = true
      · by_cases h63 : c = 63
        · have h63' : bt p (i : Int) = 63 := by rw [hc, h63]; rfl
          rw [show gRow t.data.toList row c (q + 1) = true by rw [hg, hr, h63]; rfl] at hst
          exact Ev.step (fun k => by rw [impl_GlobFits.l1, if_pos (by rw [LL_length]; omega), if_pos (by omega), if_pos (by omega), if_neg h42', if_pos (by omega), hq, if_pos (by omega), if_pos (by rw [LL_length]; omega), LL_get _ _ _ (by omega), if_pos hr, if_pos h63', if_pos (by omega), if_pos (by rw [LL_length]; omega), Int.toNat_natCast, hst, hw]) next
        · have h63' : ¬ bt p (i : Int) = 63 := by rw [hc]; exact fun h => h63 ((byte_eq_lit c 63 (by omega)).1 h)
          have hce : (bt p (i : Int) == bt t (q : Int)) = gRow t.data.toList row c (q + 1) := by
            rw [hg, hr, hc, hbe]
            by_cases hce : c = e
            · subst hce; simp
            · have a0 : ¬ (c.toNat : Int) = (e.toNat : Int) := fun h => hce ((byte_eq_int c e).1 h)
              have a1 : ((c.toNat : Int) == (e.toNat : Int)) = false := beq_eq_false_iff_ne.2 a0
              have a2 : (c == 63) = false := beq_eq_false_iff_ne.2 h63
              have a3 : (some e == some c) = false := beq_eq_false_iff_ne.2 (fun h => hce (Option.some.inj h).symm)
              rw [a1, a2, a3]; rfl
          exact Ev.step (fun k => by rw [impl_GlobFits.l1, if_pos (by rw [LL_length]; omega), if_pos (by omega), if_pos (by omega), if_neg h42', if_pos (by omega), hq, if_pos (by omega), if_pos (by rw [LL_length]; omega), LL_get _ _ _ (by omega), if_pos hr, if_neg h63', if_pos (by omega), if_pos (by omega), if_pos (by rw [LL_length]; omega), hce, Int.toNat_natCast, hst, hw]) next
      · rw [show gRow t.data.toList row c (q + 1) = false by rw [hg]; simp [hr]] at hst
        exact Ev.step (fun k => by rw [impl_GlobFits.l1, if_pos (by rw [LL_length]; omega), if_pos (by omega), if_pos (by omega), if_neg h42', if_pos (by omega), hq, if_pos (by omega), if_pos (by rw [LL_length]; omega), LL_get _ _ _ (by omega), if_neg hr, if_pos (by omega), if_pos (by rw [LL_length]; omega), Int.toNat_natCast, hst, hw]) next
end
theorem impl_glob_l0 (p t : ByteArray) (hp : p.size ≤ 140737488351232) (ht : t.size ≤ 140737488351232) : ∀ (d i : Nat) (row : Nat → Bool), p.size - i = d → i ≤ p.size →
    Ev (fun k => impl_GlobFits.l0 k p t (LL t.size row) (p.size : Int) (i : Int)) ((p.data.toList.drop i).foldl (gRow t.data.toList) row t.size) := by
  intro d
  induction d with
  | zero =>
    intro i row hd hi
    rw [drop_end p i (by omega)]
    refine Ev.step (fun k => by rw [impl_GlobFits.l0, if_neg (by omega), if_pos (by omega), if_pos (by rw [LL_length]; omega), LL_get _ _ _ (by omega)]) (Ev.give ?_)
    rfl
  | succ d ih =>
    intro i row hd hi
    obtain ⟨c, e, hb⟩ := bt_drop p i (by omega)
    rw [e]
    have hsz : wrap64 ((t.size : Int) + 1) = ((t.size + 1 : Nat) : Int) := by rw [wrap64_id (by omega) (by omega)]; rfl
    have cont := ih (i + 1) (gRow t.data.toList row c) (by omega) (by omega)
    refine Ev.step (fun k => by rw [impl_GlobFits.l0, if_pos (by omega), hsz, if_pos (by omega), if_pos (by omega), Int.toNat_natCast]) ?_
    by_cases h42 : c = 42
    · have := impl_glob_star p t row c i ht (by omega) hb h42 _ cont hp _ 0 rfl (by omega)
      rw [LL_none] at this
      exact this
    · have := impl_glob_plain p t row c i ht (by omega) hb h42 _ cont hp _ 0 rfl (by omega)
      rw [LL_none] at this
      exact this
theorem impl_globFits (p t : ByteArray) (hp : p.size ≤ 140737488351232) (ht : t.size ≤ 140737488351232) : Ev (fun k => impl_GlobFits.f k p t) (globOf p t) := by
  unfold globOf
  by_cases h0 : (p.size : Int) > 200
  · rw [if_pos h0]
    refine Ev.congr (fun k => by rw [impl_GlobFits.f, if_pos h0]) ?_
    exact Ev.step (fun k => by rw [impl_GlobFits.j0, if_pos rfl]) (Ev.now _)
  · rw [if_neg h0]
    refine Ev.congr (fun k => by rw [impl_GlobFits.f, if_neg h0]) ?_
    by_cases h1 : (t.size : Int) > 2000
    · rw [if_pos h1]
      exact Ev.step (fun k => by rw [impl_GlobFits.j0, if_pos (by simpa using h1)]) (Ev.now _)
    · rw [if_neg h1]
      have hsz : wrap64 ((t.size : Int) + 1) = ((t.size + 1 : Nat) : Int) := by rw [wrap64_id (by omega) (by omega)]; rfl
      refine Ev.step (fun k => by rw [impl_GlobFits.j0, if_neg (by simpa using h1), hsz, if_pos (by omega), if_pos (by omega), Int.toNat_natCast, Option.bind_some, if_pos (by simp)]) ?_
      have := impl_glob_l0 p t hp ht p.size 0 gStart (by omega) (by omega)
      rw [← LL_start] at this
      unfold globL
      rw [show t.data.toList.length = t.size by simp]
      exact this
def beginsB (a b : ByteArray) : Bool := decide ((a.size : Int) ≥ (b.size : Int)) && ((a.extract 0 b.size).toList == b.toList)
theorem spec_begins (a b : ByteArray) : spec_l01Begins.f a b = some (beginsB a b) := by
  unfold spec_l01Begins.f beginsB
  by_cases h : (a.size : Int) ≥ (b.size : Int)
  · rw [if_pos h, if_pos (by omega), if_pos (by omega), decide_eq_true h, Int.toNat_natCast, Bool.true_and]
  · rw [if_neg h, decide_eq_false h]; rfl
theorem impl_begins (a b : ByteArray) : strings_HasPrefix.f a b = some (beginsB a b) := by
  unfold strings_HasPrefix.f stringslite_HasPrefix.f beginsB
  by_cases h : (a.size : Int) ≥ (b.size : Int)
  · rw [if_pos h, if_pos (by omega), if_pos (by omega), decide_eq_true h, Int.toNat_natCast, Bool.true_and]; rfl
  · rw [if_neg h, decide_eq_false h]; rfl
def holdOf (x : S136) (q2 q3 : ByteArray) (q4 : Int) : Bool :=
  if x.f0 = 1 then beginsB q2 x.f1 else if x.f0 = 2 then decide (q4 < x.f2) else if x.f0 = 3 then decide (q4 > x.f2) else if x.f0 = 4 then globOf x.f1 q3 else false
theorem condOk_kind (x : S136) (h : condOk x = true) : x.f0 = 1 ∨ x.f0 = 2 ∨ x.f0 = 3 ∨ x.f0 = 4 := by
  unfold condOk at h
  by_cases h1 : x.f0 = 1 ∨ x.f0 = 4
  · omega
  · rw [if_neg h1] at h
    by_cases h2 : x.f0 = 2 ∨ x.f0 = 3
    · omega
    · rw [if_neg h2] at h; exact absurd h (by decide)
theorem impl_holds (x : S136) (q0 q1 q2 q3 : ByteArray) (q4 : Int) (hx : condOk x = true) (hs : x.f1.size ≤ 1048576) (h3 : q3.size ≤ 1048576) : Ev (fun k => holdsOf.f k x.f0 x.f1 x.f2 q0 q1 q2 q3 q4) (holdOf x q2 q3 q4) := by
  refine Ev.congr (fun k => by rw [holdsOf.f]) ?_
  unfold holdOf
  by_cases k1 : x.f0 = 1
  · refine Ev.pos k1 ?_
    rw [if_pos k1]
    exact Ev.congr (fun k => by rw [impl_prefixTest_holds.f, impl_begins]; rfl) (Ev.now _)
  · refine Ev.neg k1 ?_
    rw [if_neg k1]
    by_cases k2 : x.f0 = 2
    · refine Ev.pos k2 ?_
      rw [if_pos k2]
      exact Ev.congr (fun k => by rw [impl_timeTest_holds.f, if_neg (by decide)]) (Ev.now _)
    · refine Ev.neg k2 ?_
      rw [if_neg k2]
      by_cases k3 : x.f0 = 3
      · refine Ev.pos k3 ?_
        rw [if_pos k3]
        exact Ev.congr (fun k => by rw [impl_timeTest_holds.f, if_pos rfl]) (Ev.now _)
      · refine Ev.neg k3 ?_
        rw [if_neg k3]
        have k4 : x.f0 = 4 := by have := condOk_kind x hx; omega
        refine Ev.pos k4 ?_
        rw [if_pos k4]
        exact Ev.congr (fun k => by rw [impl_fromTest_holds.f]) (Ev.bind (impl_globFits _ _ (by omega) (by omega)) (Ev.now _))
def someB (l : List ByteArray) (t : ByteArray) : Bool := l.any fun p => globOf p t
theorem spec_some_l0 (l : List ByteArray) (t : ByteArray) (ht : t.size ≤ 1048576) (hl : l.length ≤ 1048576) (hs : ∀ s ∈ l, s.size ≤ 1048576) : ∀ (d i : Nat), l.length - i = d → i ≤ l.length → Ev (fun k => spec_l09Some.l0 k l t (i : Int)) (someB (l.drop i) t) := by
  intro d
  induction d with
  | zero =>
    intro i hd hi
    rw [List.drop_eq_nil_of_le (by omega)]
    exact Ev.step (fun k => by rw [spec_l09Some.l0, if_neg (by omega)]; rfl) (Ev.now _)
  | succ d ih =>
    intro i hd hi
    have hlt : i < l.length := by omega
    have hr := rdOf_at l i hlt
    have hw : wrap64 ((i : Int) + 1) = ((i + 1 : Nat) : Int) := by rw [wrap64_id (by omega) (by omega)]; rfl
    have hn := ih (i + 1) (by omega) (by omega)
    have hsz := hs _ (List.getElem_mem hlt)
    unfold someB
    rw [List.drop_eq_getElem_cons hlt, List.any_cons]
    refine Ev.step (fun k => by rw [spec_l09Some.l0, if_pos (by omega), if_pos (by omega), hr, hw]) (Ev.bind (spec_globFits _ _ (by omega) (by omega)) ?_)
    by_cases h1 : globOf l[i] t = true
    · refine Ev.pos h1 (Ev.give ?_); rw [h1]; rfl
    · refine Ev.neg h1 ?_
      rw [Bool.not_eq_true] at h1
      rw [h1, Bool.false_or]; exact hn
theorem spec_some (l : List ByteArray) (t : ByteArray) (ht : t.size ≤ 1048576) (h : okStrings 1048576 l) : Ev (fun k => spec_l09Some.f k l t) (someB l t) := by
  have := spec_some_l0 l t ht h.1 h.2 l.length 0 rfl (by omega)
  rw [List.drop_zero] at this
  exact Ev.congr (fun k => by rw [spec_l09Some.f]; rfl) this
theorem impl_some_l0 (l : List ByteArray) (t : ByteArray) (ht : t.size ≤ 1048576) (hl : l.length ≤ 1048576) (hs : ∀ s ∈ l, s.size ≤ 1048576) : ∀ (d i : Nat), l.length - i = d → i ≤ l.length → Ev (fun k => impl_someFits.l0 k t l (l.length : Int) (i : Int)) (someB (l.drop i) t) := by
  intro d
  induction d with
  | zero =>
    intro i hd hi
    rw [List.drop_eq_nil_of_le (by omega)]
    exact Ev.step (fun k => by rw [impl_someFits.l0, if_neg (by omega)]; rfl) (Ev.now _)
  | succ d ih =>
    intro i hd hi
    have hlt : i < l.length := by omega
    have hr := rdOf_at l i hlt
    have hw : wrap64 ((i : Int) + 1) = ((i + 1 : Nat) : Int) := by rw [wrap64_id (by omega) (by omega)]; rfl
    have hn := ih (i + 1) (by omega) (by omega)
    have hsz := hs _ (List.getElem_mem hlt)
    unfold someB
    rw [List.drop_eq_getElem_cons hlt, List.any_cons]
    refine Ev.step (fun k => by rw [impl_someFits.l0, if_pos (by omega), if_pos (by omega), if_pos (by omega), hr, hw]) (Ev.bind (impl_globFits _ _ (by omega) (by omega)) ?_)
    by_cases h1 : globOf l[i] t = true
    · refine Ev.pos h1 (Ev.give ?_); rw [h1]; rfl
    · refine Ev.neg h1 ?_
      rw [Bool.not_eq_true] at h1
      rw [h1, Bool.false_or]; exact hn
theorem impl_some (l : List ByteArray) (t : ByteArray) (ht : t.size ≤ 1048576) (h : okStrings 1048576 l) : Ev (fun k => impl_someFits.f k l t) (someB l t) := by
  have := impl_some_l0 l t ht h.1 h.2 l.length 0 rfl (by omega)
  rw [List.drop_zero] at this
  exact Ev.congr (fun k => by rw [impl_someFits.f]; rfl) this
def fitsOf (x : S132) (q0 q1 q2 q3 : ByteArray) (q4 : Int) : Bool := (someB x.f1 q0 && (someB x.f2 q1 && someB x.f3 q2)) && x.f4.all fun c => holdOf c q2 q3 q4
structure OkAsk (q0 q1 q2 q3 : ByteArray) : Prop where
  h0 : q0.size ≤ 1048576
  h1 : q1.size ≤ 1048576
  h2 : q2.size ≤ 1048576
  h3 : q3.size ≤ 1048576
theorem spec_fits_l0 (x : S132) (q0 q1 q2 q3 : ByteArray) (q4 : Int) (ha : OkAsk q0 q1 q2 q3) (h : okCondsI 1048576 x.f4) : ∀ (d i : Nat), x.f4.length - i = d → i ≤ x.f4.length → Ev (fun k => spec_l09Fits.l0 k (i : Int) x.f0 x.f1 x.f2 x.f3 x.f4 q0 q1 q2 q3 q4) ((x.f4.drop i).all fun c => holdOf c q2 q3 q4) := by
  have h3 := ha.h3
  intro d
  induction d with
  | zero =>
    intro i hd hi
    rw [List.drop_eq_nil_of_le (by omega)]
    exact Ev.step (fun k => by rw [spec_l09Fits.l0, if_neg (by omega)]; rfl) (Ev.now _)
  | succ d ih =>
    intro i hd hi
    have hlt : i < x.f4.length := by omega
    have hl := h.1
    have hr := rdi_Condition x.f4 i hlt
    have hw : wrap64 ((i : Int) + 1) = ((i + 1 : Nat) : Int) := by rw [wrap64_id (by omega) (by omega)]; rfl
    have hn := ih (i + 1) (by omega) (by omega)
    have hsz := h.2 _ (List.getElem_mem hlt)
    rw [List.drop_eq_getElem_cons hlt, List.all_cons]
    refine Ev.step (fun k => by rw [spec_l09Fits.l0, if_pos (by omega), if_pos (by omega), hr, hw]) ?_
    generalize x.f4[i] = c at hr hsz
    unfold holdOf
    by_cases k1 : c.f0 = 1
    · refine Ev.pos k1 (Ev.bindS (spec_begins _ _) ?_)
      rw [if_pos k1]
      by_cases b : beginsB q2 c.f1 = true
      · refine Ev.pos b ?_; rw [b, Bool.true_and]; exact hn
      · refine Ev.neg b (Ev.give ?_); rw [Bool.not_eq_true] at b; rw [b]; rfl
    · refine Ev.neg k1 ?_
      rw [if_neg k1]
      by_cases k2 : c.f0 = 2
      · refine Ev.pos k2 ?_
        rw [if_pos k2]
        by_cases b : q4 < c.f2
        · refine Ev.pos b ?_; rw [decide_eq_true b, Bool.true_and]; exact hn
        · refine Ev.neg b (Ev.give ?_); rw [decide_eq_false b]; rfl
      · refine Ev.neg k2 ?_
        rw [if_neg k2]
        by_cases k3 : c.f0 = 3
        · refine Ev.pos k3 ?_
          rw [if_pos k3]
          by_cases b : q4 > c.f2
          · refine Ev.pos b ?_; rw [decide_eq_true b, Bool.true_and]; exact hn
          · refine Ev.neg b (Ev.give ?_); rw [decide_eq_false b]; rfl
        · refine Ev.neg k3 ?_
          rw [if_neg k3]
          by_cases k4 : c.f0 = 4
          · refine Ev.pos k4 (Ev.bind (spec_globFits _ _ (by omega) (by omega)) ?_)
            rw [if_pos k4]
            by_cases b : globOf c.f1 q3 = true
            · refine Ev.pos b ?_; rw [b, Bool.true_and]; exact hn
            · refine Ev.neg b (Ev.give ?_); rw [Bool.not_eq_true] at b; rw [b]; rfl
          · refine Ev.neg k4 (Ev.give ?_)
            rw [if_neg k4]; rfl
theorem spec_fits (x : S132) (q0 q1 q2 q3 : ByteArray) (q4 : Int) (ha : OkAsk q0 q1 q2 q3) (h : okStmtI 1048576 x) : Ev (fun k => spec_l09Fits.f k x.f0 x.f1 x.f2 x.f3 x.f4 q0 q1 q2 q3 q4) (fitsOf x q0 q1 q2 q3 q4) := by
  have T : (someB x.f1 q0 && (someB x.f2 q1 && someB x.f3 q2)) = false → Ev (fun k => spec_l09Fits.j0 k true x.f0 x.f1 x.f2 x.f3 x.f4 q0 q1 q2 q3 q4) (fitsOf x q0 q1 q2 q3 q4) := by
    intro e
    refine Ev.step (fun k => by rw [spec_l09Fits.j0, if_pos rfl]) (Ev.give ?_)
    unfold fitsOf; rw [e]; rfl
  refine Ev.congr (fun k => by rw [spec_l09Fits.f]) (Ev.bind (spec_some _ _ ha.h0 h.1) ?_)
  by_cases b1 : someB x.f1 q0 = true
  · refine Ev.pos b1 (Ev.bind (spec_some _ _ ha.h1 h.2.1) ?_)
    by_cases b2 : someB x.f2 q1 = true
    · refine Ev.pos b2 (Ev.bind (spec_some _ _ ha.h2 h.2.2.1) ?_)
      by_cases b3 : someB x.f3 q2 = true
      · rw [b3]
        refine Ev.step (fun k => by rw [spec_l09Fits.j0, if_neg (by decide)]) ?_
        have q := spec_fits_l0 x q0 q1 q2 q3 q4 ha h.2.2.2 x.f4.length 0 rfl (by omega)
        unfold fitsOf; rw [b1, b2, b3]
        simpa using q
      · rw [Bool.not_eq_true] at b3
        rw [b3]
        exact T (by rw [b3]; simp)
    · rw [Bool.not_eq_true] at b2
      exact Ev.neg (by rw [b2]; decide) (T (by rw [b2]; simp))
  · rw [Bool.not_eq_true] at b1
    exact Ev.neg (by rw [b1]; decide) (T (by rw [b1]; simp))
theorem impl_fits_l0 (l : List S136) (q0 q1 q2 q3 : ByteArray) (q4 : Int) (ha : OkAsk q0 q1 q2 q3) (h : okCondsI 1048576 l) (hc : ∀ c ∈ l, condOk c = true) : ∀ (d i : Nat), l.length - i = d → i ≤ l.length → Ev (fun k => impl_Statement_fits.l0 k l (l.length : Int) (i : Int) q0 q1 q2 q3 q4) ((l.drop i).all fun c => holdOf c q2 q3 q4) := by
  have h3 := ha.h3
  intro d
  induction d with
  | zero =>
    intro i hd hi
    rw [List.drop_eq_nil_of_le (by omega)]
    exact Ev.step (fun k => by rw [impl_Statement_fits.l0, if_neg (by omega)]; rfl) (Ev.now _)
  | succ d ih =>
    intro i hd hi
    have hlt : i < l.length := by omega
    have hl := h.1
    have hr := rdi_Condition l i hlt
    have hw : wrap64 ((i : Int) + 1) = ((i + 1 : Nat) : Int) := by rw [wrap64_id (by omega) (by omega)]; rfl
    have hn := ih (i + 1) (by omega) (by omega)
    have hsz := h.2 _ (List.getElem_mem hlt)
    have hok := hc _ (List.getElem_mem hlt)
    rw [List.drop_eq_getElem_cons hlt, List.all_cons]
    refine Ev.step (fun k => by rw [impl_Statement_fits.l0, if_pos (by omega), if_pos (by omega), if_pos (by omega), hr, hw]) (Ev.bind (impl_holds _ q0 q1 q2 q3 q4 hok hsz h3) ?_)
    by_cases b : holdOf l[i] q2 q3 q4 = true
    · refine Ev.pos b ?_; rw [b, Bool.true_and]; exact hn
    · refine Ev.neg b (Ev.give ?_); rw [Bool.not_eq_true] at b; rw [b]; rfl
theorem impl_fits (x : S132) (q0 q1 q2 q3 : ByteArray) (q4 : Int) (ha : OkAsk q0 q1 q2 q3) (h : okStmtI 1048576 x) (hc : ∀ c ∈ x.f4, condOk c = true) : Ev (fun k => impl_Statement_fits.f k x.f0 x.f1 x.f2 x.f3 x.f4 q0 q1 q2 q3 q4) (fitsOf x q0 q1 q2 q3 q4) := by
  have T : (someB x.f1 q0 && (someB x.f2 q1 && someB x.f3 q2)) = false → Ev (fun k => impl_Statement_fits.j0 k true x.f0 x.f1 x.f2 x.f3 x.f4 q0 q1 q2 q3 q4) (fitsOf x q0 q1 q2 q3 q4) := by
    intro e
    refine Ev.step (fun k => by rw [impl_Statement_fits.j0, if_pos rfl]) (Ev.give ?_)
    unfold fitsOf; rw [e]; rfl
  refine Ev.congr (fun k => by rw [impl_Statement_fits.f]) (Ev.bind (impl_some _ _ ha.h0 h.1) ?_)
  by_cases b1 : someB x.f1 q0 = true
  · refine Ev.pos b1 (Ev.bind (impl_some _ _ ha.h1 h.2.1) ?_)
    by_cases b2 : someB x.f2 q1 = true
    · refine Ev.pos b2 (Ev.bind (impl_some _ _ ha.h2 h.2.2.1) ?_)
      by_cases b3 : someB x.f3 q2 = true
      · rw [b3]
        refine Ev.step (fun k => by rw [impl_Statement_fits.j0, if_neg (by decide)]) ?_
        have q := impl_fits_l0 x.f4 q0 q1 q2 q3 q4 ha h.2.2.2 hc x.f4.length 0 rfl (by omega)
        unfold fitsOf; rw [b1, b2, b3]
        simpa using q
      · rw [Bool.not_eq_true] at b3
        rw [b3]
        exact T (by rw [b3]; simp)
    · rw [Bool.not_eq_true] at b2
      exact Ev.neg (by rw [b2]; decide) (T (by rw [b2]; simp))
  · rw [Bool.not_eq_true] at b1
    exact Ev.neg (by rw [b1]; decide) (T (by rw [b1]; simp))
def judgeL (l : List S132) (q0 q1 q2 q3 : ByteArray) (q4 : Int) (a : Int) : Int :=
  if (l.any fun x => decide (x.f0 = 2) && fitsOf x q0 q1 q2 q3 q4) = true then 2 else if (l.any fun x => fitsOf x q0 q1 q2 q3 q4) = true then 1 else a
def judgeOf (l : List S132) (q0 q1 q2 q3 : ByteArray) (q4 : Int) : Int := if policyFaultOf l = 0 then judgeL l q0 q1 q2 q3 q4 0 else 0
theorem spec_judge_l1 (l : List S132) (q0 q1 q2 q3 : ByteArray) (q4 : Int) (ha : OkAsk q0 q1 q2 q3) (hl : l.length ≤ 1048576) (hs : ∀ x ∈ l, okStmtI 1048576 x) : ∀ (d i : Nat), l.length - i = d → i ≤ l.length → Ev (fun k => spec_Judge.l1 k l (i : Int) q0 q1 q2 q3 q4) (if ((l.drop i).any fun x => fitsOf x q0 q1 q2 q3 q4) = true then 1 else 0) := by
  intro d
  induction d with
  | zero =>
    intro i hd hi
    rw [List.drop_eq_nil_of_le (by omega)]
    exact Ev.step (fun k => by rw [spec_Judge.l1, if_neg (by omega)]; rfl) (Ev.now _)
  | succ d ih =>
    intro i hd hi
    have hlt : i < l.length := by omega
    have hr := rdi_Statement l i hlt
    have hw : wrap64 ((i : Int) + 1) = ((i + 1 : Nat) : Int) := by rw [wrap64_id (by omega) (by omega)]; rfl
    have hn := ih (i + 1) (by omega) (by omega)
    have hsz := hs _ (List.getElem_mem hlt)
    rw [List.drop_eq_getElem_cons hlt, List.any_cons]
    refine Ev.step (fun k => by rw [spec_Judge.l1, if_pos (by omega), if_pos (by omega), hr, hw]) (Ev.bind (spec_fits _ q0 q1 q2 q3 q4 ha hsz) ?_)
    by_cases b : fitsOf l[i] q0 q1 q2 q3 q4 = true
    · refine Ev.pos b (Ev.give ?_); rw [b]; rfl
    · refine Ev.neg b ?_; rw [Bool.not_eq_true] at b; rw [b, Bool.false_or]; exact hn
theorem spec_judge_l0 (l : List S132) (q0 q1 q2 q3 : ByteArray) (q4 : Int) (ha : OkAsk q0 q1 q2 q3) (hl : l.length ≤ 1048576) (hs : ∀ x ∈ l, okStmtI 1048576 x) : ∀ (d i : Nat), l.length - i = d → i ≤ l.length → Ev (fun k => spec_Judge.l0 k l (i : Int) q0 q1 q2 q3 q4) (if ((l.drop i).any fun x => decide (x.f0 = 2) && fitsOf x q0 q1 q2 q3 q4) = true then 2 else if (l.any fun x => fitsOf x q0 q1 q2 q3 q4) = true then 1 else 0) := by
  intro d
  induction d with
  | zero =>
    intro i hd hi
    rw [List.drop_eq_nil_of_le (by omega)]
    have q := spec_judge_l1 l q0 q1 q2 q3 q4 ha hl hs l.length 0 rfl (by omega)
    rw [List.drop_zero] at q
    exact Ev.step (fun k => by rw [spec_Judge.l0, if_neg (by omega)]) (by simpa using q)
  | succ d ih =>
    intro i hd hi
    have hlt : i < l.length := by omega
    have hr := rdi_Statement l i hlt
    have hw : wrap64 ((i : Int) + 1) = ((i + 1 : Nat) : Int) := by rw [wrap64_id (by omega) (by omega)]; rfl
    have hn := ih (i + 1) (by omega) (by omega)
    have hsz := hs _ (List.getElem_mem hlt)
    rw [List.drop_eq_getElem_cons hlt, List.any_cons]
    refine Ev.step (fun k => by rw [spec_Judge.l0, if_pos (by omega), if_pos (by omega), hr, hw]) ?_
    by_cases e : l[i].f0 = 2
    · refine Ev.pos e (Ev.bind (spec_fits _ q0 q1 q2 q3 q4 ha hsz) ?_)
      rw [decide_eq_true e, Bool.true_and]
      by_cases b : fitsOf l[i] q0 q1 q2 q3 q4 = true
      · refine Ev.pos b (Ev.give ?_); rw [b]; rfl
      · refine Ev.neg b ?_; rw [Bool.not_eq_true] at b; rw [b, Bool.false_or]; exact hn
    · refine Ev.neg e ?_
      rw [decide_eq_false e, Bool.false_and, Bool.false_or]; exact hn
theorem spec_judge (l : List S132) (q0 q1 q2 q3 : ByteArray) (q4 : Int) (ha : OkAsk q0 q1 q2 q3) (hl : l.length ≤ 1048576) (hs : ∀ x ∈ l, okStmtI 1048576 x) : Ev (fun k => spec_Judge.f k l q0 q1 q2 q3 q4) (judgeOf l q0 q1 q2 q3 q4) := by
  refine Ev.congr (fun k => by rw [spec_Judge.f]) (Ev.bind (spec_policy l hl hs) ?_)
  unfold judgeOf
  by_cases h : policyFaultOf l = 0
  · rw [if_pos h]
    refine Ev.pos h ?_
    have q := spec_judge_l0 l q0 q1 q2 q3 q4 ha hl hs l.length 0 rfl (by omega)
    rw [List.drop_zero] at q
    exact q
  · rw [if_neg h]; exact Ev.neg h (Ev.now _)
theorem impl_judge_l0 (l : List S132) (q0 q1 q2 q3 : ByteArray) (q4 : Int) (ha : OkAsk q0 q1 q2 q3) (hl : l.length ≤ 1048576) (hs : ∀ x ∈ l, okStmtI 1048576 x) (hc : ∀ x ∈ l, ∀ c ∈ x.f4, condOk c = true) : ∀ (d i : Nat) (a : Int), l.length - i = d → i ≤ l.length → Ev (fun k => impl_Judge.l0 k a l (l.length : Int) (i : Int) q0 q1 q2 q3 q4) (judgeL (l.drop i) q0 q1 q2 q3 q4 a) := by
  intro d
  induction d with
  | zero =>
    intro i a hd hi
    rw [List.drop_eq_nil_of_le (by omega)]
    exact Ev.step (fun k => by rw [impl_Judge.l0, if_neg (by omega)]; rfl) (Ev.now _)
  | succ d ih =>
    intro i a hd hi
    have hlt : i < l.length := by omega
    have hr := rdi_Statement l i hlt
    have hw : wrap64 ((i : Int) + 1) = ((i + 1 : Nat) : Int) := by rw [wrap64_id (by omega) (by omega)]; rfl
    have hsz := hs _ (List.getElem_mem hlt)
    have hcc := hc _ (List.getElem_mem hlt)
    unfold judgeL
    rw [List.drop_eq_getElem_cons hlt, List.any_cons, List.any_cons]
    refine Ev.step (fun k => by rw [impl_Judge.l0, if_pos (by omega), if_pos (by omega), if_pos (by omega), hr, hw]) (Ev.bind (impl_fits _ q0 q1 q2 q3 q4 ha hsz hcc) ?_)
    by_cases b : fitsOf l[i] q0 q1 q2 q3 q4 = true
    · refine Ev.pos b ?_
      rw [b, Bool.and_true, Bool.true_or]
      by_cases e : l[i].f0 = 2
      · refine Ev.pos e (Ev.give ?_); rw [decide_eq_true e]; rfl
      · refine Ev.neg e ?_
        rw [decide_eq_false e, Bool.false_or, if_pos rfl]
        have q := ih (i + 1) 1 (by omega) (by omega)
        unfold judgeL at q
        simpa using q
    · refine Ev.neg b ?_
      rw [Bool.not_eq_true] at b
      rw [b, Bool.and_false, Bool.false_or, Bool.false_or]
      exact ih (i + 1) a (by omega) (by omega)
theorem fault_conds (l : List S132) (h : policyFaultOf l = 0) : ∀ x ∈ l, ∀ c ∈ x.f4, condOk c = true := by
  unfold policyFaultOf at h
  by_cases h1 : (l.length : Int) > 50
  · rw [if_pos h1] at h; exact absurd h (by decide)
  · rw [if_neg h1] at h
    by_cases h2 : l.all stmtFine = true
    · intro x hx c hc
      have e := List.all_eq_true.1 h2 x hx
      unfold stmtFine stmtOk at e
      simp only [Bool.and_eq_true] at e
      exact List.all_eq_true.1 e.1.2 c hc
    · rw [if_neg h2] at h; exact absurd h (by decide)
theorem impl_judge (l : List S132) (q0 q1 q2 q3 : ByteArray) (q4 : Int) (ha : OkAsk q0 q1 q2 q3) (hl : l.length ≤ 1048576) (hs : ∀ x ∈ l, okStmtI 1048576 x) : Ev (fun k => impl_Judge.f k l q0 q1 q2 q3 q4) (judgeOf l q0 q1 q2 q3 q4) := by
  refine Ev.congr (fun k => by rw [impl_Judge.f]) (Ev.bind (impl_policy l hl hs) ?_)
  unfold judgeOf
  by_cases h : policyFaultOf l = 0
  · rw [if_pos h]
    refine Ev.pos h ?_
    have q := impl_judge_l0 l q0 q1 q2 q3 q4 ha hl hs (fault_conds l h) l.length 0 0 rfl (by omega)
    rw [List.drop_zero] at q
    exact q
  · rw [if_neg h]; exact Ev.neg h (Ev.now _)
theorem szAsk (q0 q1 q2 q3 : ByteArray) (q4 left : Int) (g0 : q0.size ≤ 9223372036854775807) (g1 : q1.size ≤ 9223372036854775807) (g2 : q2.size ≤ 9223372036854775807) (g3 : q3.size ≤ 9223372036854775807) (h0 : 0 ≤ left) (h1 : left ≤ 1048576) :
    ∃ r, laws_szAsk.f q0 q1 q2 q3 q4 left = some r ∧ (0 ≤ r → OkAsk q0 q1 q2 q3) := by
  unfold laws_szAsk.f
  rw [wrap64_id (x := left - (q0.size : Int)) (by omega) (by omega)]
  by_cases c0 : left - (q0.size : Int) < 0
  · rw [if_pos c0]; exact ⟨_, rfl, fun h => by omega⟩
  · rw [if_neg c0, wrap64_id (x := left - (q0.size : Int) - (q1.size : Int)) (by omega) (by omega)]
    by_cases c1 : left - (q0.size : Int) - (q1.size : Int) < 0
    · rw [if_pos c1]; exact ⟨_, rfl, fun h => by omega⟩
    · rw [if_neg c1, wrap64_id (x := left - (q0.size : Int) - (q1.size : Int) - (q2.size : Int)) (by omega) (by omega)]
      by_cases c2 : left - (q0.size : Int) - (q1.size : Int) - (q2.size : Int) < 0
      · rw [if_pos c2]; exact ⟨_, rfl, fun h => by omega⟩
      · rw [if_neg c2, wrap64_id (x := left - (q0.size : Int) - (q1.size : Int) - (q2.size : Int) - (q3.size : Int)) (by omega) (by omega)]
        by_cases c3 : left - (q0.size : Int) - (q1.size : Int) - (q2.size : Int) - (q3.size : Int) < 0
        · rw [if_pos c3]; exact ⟨_, rfl, fun h => by omega⟩
        · rw [if_neg c3]; exact ⟨_, rfl, fun h => ⟨by omega, by omega, by omega, by omega⟩⟩
theorem FnExactJudge : laws_FnExactJudge.Wants := by
  intro l q0 q1 q2 q3 q4 hg g0 g1 g2 g3 g4
  refine Ev.rounds (Ev.congr (fun k => by rw [laws_FnExactJudge.f]) ?_)
  have hgs : ∀ x ∈ l, okStmt 9223372036854775807 x := fun x hx => by
    have g := hg.2 x hx
    exact ⟨⟨g.2.1.1, fun y hy => g.2.1.2 y hy⟩, ⟨g.2.2.1.1, fun y hy => g.2.2.1.2 y hy⟩, ⟨g.2.2.2.1.1, fun y hy => g.2.2.2.1.2 y hy⟩, ⟨g.2.2.2.2.1, fun y hy => (g.2.2.2.2.2 y hy).2.1⟩⟩
  obtain ⟨r, e, b⟩ := szStatementS l 1048576 hg.1 hgs (by omega) (by omega)
  refine Ev.bind e ?_
  by_cases hn : r < 0
  · exact Ev.pos hn (Ev.now _)
  · refine Ev.neg hn ?_
    have q := b (by omega)
    have hl := q.2.1
    have hs := q.2.2
    obtain ⟨r2, e2, b2⟩ := szAsk q0 q1 q2 q3 q4 r g0 g1 g2 g3 (by omega) (by omega)
    refine Ev.bindS e2 ?_
    by_cases hn2 : r2 < 0
    · exact Ev.pos hn2 (Ev.now _)
    · refine Ev.neg hn2 ?_
      have ha := b2 (by omega)
      have hm : (l.map statementOf).length ≤ 1048576 := by simpa using hl
      have hms : ∀ x ∈ l.map statementOf, okStmtI 1048576 x := fun x hx => by obtain ⟨y, hy, rfl⟩ := List.mem_map.1 hx; exact okStmt_of _ _ (hs y hy)
      exact Ev.bind (toStatementS l hl hs) (Ev.bindS rfl (Ev.bind (spec_judge _ q0 q1 q2 q3 q4 ha hm hms) (Ev.bind (toStatementS l hl hs) (Ev.bindS rfl (Ev.bind (impl_judge _ q0 q1 q2 q3 q4 ha hm hms) (Ev.pos rfl (Ev.bind (toStatementS l hl hs) (Ev.bind (eqStatementS _ hm hms) (Ev.pos rfl (Ev.now _))))))))))
end Go.Proofs.Ytflpkbegdmihdaa.Pure
