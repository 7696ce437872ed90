/- The statement FnExactPolicyFault over numbers and lists alone: the program's PolicyFault and the reference's answer the same, and the statements that were handed in are as they were. No condition. -/
import Derived.Test.YtflpkbegdmihdaaQFnExactPolicyFaultx7
import Derived.Laws.BitsAllLaws
import Derived.Laws.Bits64
import Derived.Test.YtflpkbegdmihdaaGoodFnExactPolicyFault
set_option linter.all false
namespace Go.Proofs.Ytflpkbegdmihdaa.Pure
open Go.RowKit Go.Proofs.Ytflpkbegdmihdaa.QFnExactPolicyFault Go.Proofs.YtflpkbegdmihdaaW.PrintWords Go.Proofs.YtflpkbegdmihdaaW.PrintLast Go.Proofs.YtflpkbegdmihdaaW.PrintMore

/-! Small lemmas on wraps, rounds and lists. -/
theorem wrap64_id {x : Int} (h0 : -9223372036854775808 ≤ x) (h1 : x < 9223372036854775808) : wrap64 x = x := by unfold wrap64; omega
theorem u64_id {x : Int} (h0 : 0 ≤ x) (h1 : x < 18446744073709551616) : IntKind.u64.wrap x = x := by rw [IntKind.wrap_u64]; omega
theorem Ev.pos {α : Type} {c : Prop} [Decidable c] {f g : Nat → Option α} {r : α} (h : c) (e : Ev f r) : Ev (fun k => if c then f k else g k) r := by simpa [h] using e
theorem Ev.neg {α : Type} {c : Prop} [Decidable c] {f g : Nat → Option α} {r : α} (h : ¬ c) (e : Ev g r) : Ev (fun k => if c then f k else g k) r := by simpa [h] using e
theorem Ev.bindS {α β : Type} {g : Option α} {f : Nat → α → Option β} {a : α} {r : β} (h : g = some a) (e : Ev (fun k => f k a) r) : Ev (fun k => g.bind (f k)) r := by subst h; simpa using e
theorem Ev.give {α : Type} {r s : α} (h : s = r) : Ev (fun _ => some s) r := by subst h; exact Ev.now _
theorem bt_drop (s : ByteArray) (i : Nat) (h : i < s.size) : ∃ c : UInt8, s.data.toList.drop i = c :: s.data.toList.drop (i + 1) ∧ bt s (i : Int) = (c.toNat : Int) := by
  have hl : i < s.data.toList.length := by simpa using h
  refine ⟨s.data.toList[i], List.drop_eq_getElem_cons hl, ?_⟩
  unfold bt
  rw [dif_pos (by simpa using h)]
  simp [ByteArray.getElem_eq_getElem_data]
theorem drop_end (s : ByteArray) (i : Nat) (h : s.size ≤ i) : s.data.toList.drop i = [] := List.drop_eq_nil_of_le (by simpa using h)
theorem size_strOfNums (l : List Int) : (strOfNums l).size = l.length := by
  show (strOfNums l).data.size = l.length
  simp [strOfNums]
theorem i64_range {n : Int} (h : (Lit.int .i64 n).wf = true) : -9223372036854775808 ≤ n ∧ n < 9223372036854775808 := by
  simp only [Lit.wf, IntKind.min, IntKind.max, IntKind.signed, IntKind.bits, Bool.and_eq_true, decide_eq_true_eq, if_true] at h; omega
theorem byte_eq_int (c d : UInt8) : ((c.toNat : Int) = (d.toNat : Int)) ↔ c = d := by
  constructor
  · intro h; exact UInt8.toNat_inj.1 (by omega)
  · rintro rfl; rfl
theorem byte_eq_lit (c : UInt8) (n : Nat) (hn : n < 256) : ((c.toNat : Int) = (n : Int)) ↔ c = UInt8.ofNat n := by
  rw [← byte_eq_int]
  have : (UInt8.ofNat n).toNat = n := by simp [UInt8.toNat_ofNat']; omega
  rw [this]
theorem bt_get (s : ByteArray) (i : Nat) (h : i < s.size) : ∃ c : UInt8, s.data.toList[i]? = some c ∧ bt s (i : Int) = (c.toNat : Int) := by
  obtain ⟨c, e, hb⟩ := bt_drop s i h
  refine ⟨c, ?_, hb⟩
  have : (s.data.toList.drop i)[0]? = some c := by rw [e]; rfl
  simpa using this

theorem set_prefix {α β : Type} (f : α → β) (z : β) (l : List α) (i : Nat) (h : i < l.length) (x : α) (hx : l[i]? = some x) :
    ((l.take i).map f ++ List.replicate (l.length - i) z).set i (f x) = (l.take (i + 1)).map f ++ List.replicate (l.length - (i + 1)) z := by
  have h1 : ((l.take i).map f).length = i := by simp; omega
  rw [List.set_append_right _ _ (by omega), h1, Nat.sub_self]
  have h2 : List.replicate (l.length - i) z = z :: List.replicate (l.length - (i + 1)) z := by
    rw [show l.length - i = (l.length - (i + 1)) + 1 by omega]; rfl
  rw [h2, List.set_cons_zero, List.take_add_one, hx, List.map_append]
  simp

/-! A law's copies of a list of strings: sizes, copies, comparisons. -/
theorem rds_at (l : List ByteArray) (i : Nat) (h : i < l.length) : rdOf ByteArray.empty l (i : Int) = l[i] := by
  unfold rdOf; rw [Int.toNat_natCast, List.getD_eq_getElem?_getD, List.getElem?_eq_getElem h]; rfl
theorem szStringS_l0 (l : List ByteArray) (hl : l.length ≤ 1048576) (hg : ∀ x ∈ l, x.size ≤ 9223372036854775807) : ∀ (d i : Nat) (left : Int), 0 ≤ left → left ≤ 1048576 → l.length - i = d → i ≤ l.length →
    ∃ r, Ev (fun k => laws_szStringS.l0 k l left (i : Int)) r ∧ (0 ≤ r → r ≤ left ∧ ∀ x ∈ l.drop i, x.size ≤ 1048576) := by
  intro d
  induction d with
  | zero =>
    intro i left h0 h1 hd hi
    exact ⟨left, Ev.step (fun k => by rw [laws_szStringS.l0, if_neg (by omega)]) (Ev.now _), fun _ => ⟨by omega, by rw [List.drop_eq_nil_of_le (by omega)]; simp⟩⟩
  | succ d ih =>
    intro i left h0 h1 hd hi
    have hlt : i < l.length := by omega
    have hr := rds_at l i hlt
    have hw : wrap64 ((i : Int) + 1) = ((i + 1 : Nat) : Int) := by rw [wrap64_id (by omega) (by omega)]; rfl
    have g := hg l[i] (List.getElem_mem hlt)
    have hv : wrap64 (left - (l[i].size : Int)) = left - (l[i].size : Int) := wrap64_id (by omega) (by omega)
    by_cases hn : left - (l[i].size : Int) < 0
    · refine ⟨-1, Ev.step (fun k => by rw [laws_szStringS.l0, if_pos (by omega), if_pos (by omega), hr, hv, if_pos hn]) (Ev.now _), fun h => by omega⟩
    · obtain ⟨r2, e2, b2⟩ := ih (i + 1) (left - (l[i].size : Int)) (by omega) (by omega) (by omega) (by omega)
      refine ⟨r2, Ev.step (fun k => by rw [laws_szStringS.l0, if_pos (by omega), if_pos (by omega), hr, hv, if_neg hn, hw]) e2, fun h => ?_⟩
      have q2 := b2 h
      refine ⟨by omega, fun x hx => ?_⟩
      rw [List.drop_eq_getElem_cons hlt, List.mem_cons] at hx
      rcases hx with rfl | hx
      · omega
      · exact q2.2 x hx
theorem szStringS (l : List ByteArray) (left : Int) (hl : l.length ≤ 9223372036854775807) (hg : ∀ x ∈ l, x.size ≤ 9223372036854775807) (h0 : 0 ≤ left) (h1 : left ≤ 1048576) :
    ∃ r, Ev (fun k => laws_szStringS.f k l left) r ∧ (0 ≤ r → r ≤ left ∧ l.length ≤ 1048576 ∧ ∀ x ∈ l, x.size ≤ 1048576) := by
  have hw : wrap64 (left - (l.length : Int)) = left - (l.length : Int) := wrap64_id (by omega) (by omega)
  by_cases hn : left - (l.length : Int) < 0
  · exact ⟨-1, Ev.congr (fun k => by rw [laws_szStringS.f, hw, if_pos hn]) (Ev.now _), fun h => by omega⟩
  · obtain ⟨r, e, b⟩ := szStringS_l0 l (by omega) hg l.length 0 (left - (l.length : Int)) (by omega) (by omega) rfl (by omega)
    refine ⟨r, Ev.congr (fun k => by rw [laws_szStringS.f, hw, if_neg hn]; rfl) e, fun h => ?_⟩
    have q := b h
    exact ⟨by omega, by omega, by simpa using q.2⟩
theorem toStringS_l0 (l : List ByteArray) (hl : l.length ≤ 1048576) : ∀ (d i : Nat), l.length - i = d → i ≤ l.length →
    Ev (fun k => laws_toStringS.l0 k l ((l.take i).map id ++ List.replicate (l.length - i) (⟨#[]⟩ : ByteArray)) (i : Int)) (l.map id) := by
  intro d
  induction d with
  | zero =>
    intro i hd hi
    have : i = l.length := by omega
    subst this
    refine Ev.step (fun k => by rw [laws_toStringS.l0, if_neg (by omega)]) (Ev.give ?_)
    simp
  | succ d ih =>
    intro i hd hi
    have hlt : i < l.length := by omega
    have hx : l[i]? = some l[i] := List.getElem?_eq_getElem hlt
    have hr := rds_at l i hlt
    have hw : wrap64 ((i : Int) + 1) = ((i + 1 : Nat) : Int) := by rw [wrap64_id (by omega) (by omega)]; rfl
    have hs := set_prefix id (⟨#[]⟩ : ByteArray) l i hlt l[i] hx
    refine Ev.step (fun k => by rw [laws_toStringS.l0, if_pos (by omega), if_pos (by omega), hr, if_pos (by simp; omega), Int.toNat_natCast, hw, show l[i] = id l[i] from rfl, hs]) ?_
    exact ih (i + 1) (by omega) (by omega)
theorem toStringS (l : List ByteArray) (hl : l.length ≤ 1048576) : Ev (fun k => laws_toStringS.f k l) l := by
  refine Ev.congr (fun k => by rw [laws_toStringS.f, if_pos (by omega), if_pos (by omega), Int.toNat_natCast]) ?_
  have := toStringS_l0 l hl l.length 0 rfl (by omega)
  rw [List.map_id] at this
  simpa using this
theorem eqStringS_l0 (l : List ByteArray) (hl : l.length ≤ 1048576) : ∀ (d i : Nat), l.length - i = d → i ≤ l.length → Ev (fun k => laws_eqStringS.l0 k l l (i : Int)) true := by
  intro d
  induction d with
  | zero =>
    intro i hd hi
    exact Ev.step (fun k => by rw [laws_eqStringS.l0, if_neg (by omega)]) (Ev.now _)
  | succ d ih =>
    intro i hd hi
    have hw : wrap64 ((i : Int) + 1) = ((i + 1 : Nat) : Int) := by rw [wrap64_id (by omega) (by omega)]; rfl
    refine Ev.step (fun k => by rw [laws_eqStringS.l0, if_pos (by omega), if_pos (by omega), if_pos (by omega), if_pos rfl, hw]) ?_
    exact ih (i + 1) (by omega) (by omega)
theorem eqStringS (l : List ByteArray) (hl : l.length ≤ 1048576) : Ev (fun k => laws_eqStringS.f k l l) true := by
  refine Ev.congr (fun k => by rw [laws_eqStringS.f, if_pos rfl]) ?_
  exact eqStringS_l0 l hl l.length 0 rfl (by omega)

/-! A law's copies of a list of Condition: sizes, copies, comparisons. -/
def conditionOf (x : S216) : S136 := ⟨x.f0, x.f1, x.f2⟩
theorem rdl_Condition (l : List S216) (i : Nat) (h : i < l.length) : rd_T216 l (i : Int) = l[i] := by
  unfold rd_T216; rw [Int.toNat_natCast, List.getD_eq_getElem?_getD, List.getElem?_eq_getElem h]; rfl
theorem rdi_Condition (l : List S136) (i : Nat) (h : i < l.length) : rd_T136 l (i : Int) = l[i] := by
  unfold rd_T136; rw [Int.toNat_natCast, List.getD_eq_getElem?_getD, List.getElem?_eq_getElem h]; rfl
theorem sz_Condition (x : S216) (left : Int) (h0 : 0 ≤ left) (h1 : left ≤ 1048576) (g1 : x.f1.size ≤ 9223372036854775807) : ∃ r, laws_szCondition.f x.f0 x.f1 x.f2 left = some r ∧ (0 ≤ r → r ≤ left ∧ x.f1.size ≤ 1048576) := by
  unfold laws_szCondition.f
  rw [(wrap64_id (x := left - (x.f1.size : Int)) (by omega) (by omega))]
  by_cases c0 : left - (x.f1.size : Int) < 0
  · rw [if_pos c0]; exact ⟨_, rfl, fun h => by omega⟩
  · rw [if_neg c0]
    exact ⟨_, rfl, fun h => by omega⟩
theorem toConditionS_l0 (l : List S216) (hl : l.length ≤ 1048576) : ∀ (d i : Nat), l.length - i = d → i ≤ l.length →
    Ev (fun k => laws_toConditionS.l0 k l ((l.take i).map conditionOf ++ List.replicate (l.length - i) z136) (i : Int)) (l.map conditionOf) := by
  intro d
  induction d with
  | zero =>
    intro i hd hi
    have : i = l.length := by omega
    subst this
    refine Ev.step (fun k => by rw [laws_toConditionS.l0, if_neg (by omega)]) (Ev.give ?_)
    simp
  | succ d ih =>
    intro i hd hi
    have hlt : i < l.length := by omega
    have hx : l[i]? = some l[i] := List.getElem?_eq_getElem hlt
    have hr := rdl_Condition l i hlt
    have hw : wrap64 ((i : Int) + 1) = ((i + 1 : Nat) : Int) := by rw [wrap64_id (by omega) (by omega)]; rfl
    have hs := set_prefix conditionOf z136 l i hlt l[i] hx
    refine Ev.step (fun k => by rw [laws_toConditionS.l0, if_pos (by omega), if_pos (by omega), hr, show laws_toCondition.f l[i].f0 l[i].f1 l[i].f2 = some (l[i].f0, l[i].f1, l[i].f2) from rfl, Option.bind_some, if_pos (by simp; omega), Int.toNat_natCast, hw, show (⟨(l[i].f0, l[i].f1, l[i].f2).1, (l[i].f0, l[i].f1, l[i].f2).2.1, (l[i].f0, l[i].f1, l[i].f2).2.2⟩ : S136) = conditionOf l[i] from rfl, hs]) ?_
    exact ih (i + 1) (by omega) (by omega)
theorem toConditionS (l : List S216) (hl : l.length ≤ 1048576) : Ev (fun k => laws_toConditionS.f k l) (l.map conditionOf) := by
  refine Ev.congr (fun k => by rw [laws_toConditionS.f, if_pos (by omega), if_pos (by omega), Int.toNat_natCast]) ?_
  have := toConditionS_l0 l hl l.length 0 rfl (by omega)
  simpa using this
theorem eqCondition_self (a0 : Int) (a1 : ByteArray) (a2 : Int) : laws_eqCondition.f a0 a1 a2 a0 a1 a2 = some true := by unfold laws_eqCondition.f; simp
theorem eqConditionS_l0 (l : List S136) (hl : l.length ≤ 1048576) : ∀ (d i : Nat), l.length - i = d → i ≤ l.length → Ev (fun k => laws_eqConditionS.l0 k l l (i : Int)) true := by
  intro d
  induction d with
  | zero =>
    intro i hd hi
    exact Ev.step (fun k => by rw [laws_eqConditionS.l0, if_neg (by omega)]) (Ev.now _)
  | succ d ih =>
    intro i hd hi
    have hw : wrap64 ((i : Int) + 1) = ((i + 1 : Nat) : Int) := by rw [wrap64_id (by omega) (by omega)]; rfl
    refine Ev.step (fun k => by rw [laws_eqConditionS.l0, if_pos (by omega), if_pos (by omega), if_pos (by omega), eqCondition_self, Option.bind_some, if_pos rfl, hw]) ?_
    exact ih (i + 1) (by omega) (by omega)
theorem eqConditionS (l : List S136) (hl : l.length ≤ 1048576) : Ev (fun k => laws_eqConditionS.f k l l) true := by
  refine Ev.congr (fun k => by rw [laws_eqConditionS.f, if_pos rfl]) ?_
  exact eqConditionS_l0 l hl l.length 0 rfl (by omega)
theorem szConditionS_l0 (l : List S216) (hl : l.length ≤ 1048576) (hg : ∀ x ∈ l, x.f1.size ≤ 9223372036854775807) : ∀ (d i : Nat) (left : Int), 0 ≤ left → left ≤ 1048576 → l.length - i = d → i ≤ l.length →
    ∃ r, Ev (fun k => laws_szConditionS.l0 k l left (i : Int)) r ∧ (0 ≤ r → r ≤ left ∧ ∀ x ∈ l.drop i, x.f1.size ≤ 1048576) := by
  intro d
  induction d with
  | zero =>
    intro i left h0 h1 hd hi
    exact ⟨left, Ev.step (fun k => by rw [laws_szConditionS.l0, if_neg (by omega)]) (Ev.now _), fun _ => ⟨by omega, by rw [List.drop_eq_nil_of_le (by omega)]; simp⟩⟩
  | succ d ih =>
    intro i left h0 h1 hd hi
    have hlt : i < l.length := by omega
    have hr := rdl_Condition l i hlt
    have hw : wrap64 ((i : Int) + 1) = ((i + 1 : Nat) : Int) := by rw [wrap64_id (by omega) (by omega)]; rfl
    have g := hg l[i] (List.getElem_mem hlt)
    obtain ⟨r1, e1, b1⟩ := sz_Condition l[i] left h0 h1 g
    by_cases hn : r1 < 0
    · refine ⟨-1, Ev.step (fun k => by rw [laws_szConditionS.l0, if_pos (by omega), if_pos (by omega), hr, e1, Option.bind_some, if_pos hn]) (Ev.now _), fun h => by omega⟩
    · obtain ⟨r2, e2, b2⟩ := ih (i + 1) r1 (by omega) (by have := b1 (by omega); omega) (by omega) (by omega)
      refine ⟨r2, Ev.step (fun k => by rw [laws_szConditionS.l0, if_pos (by omega), if_pos (by omega), hr, e1, Option.bind_some, if_neg hn, hw]) e2, fun h => ?_⟩
      have q1 := b1 (by omega)
      have q2 := b2 h
      refine ⟨by omega, fun x hx => ?_⟩
      rw [List.drop_eq_getElem_cons hlt, List.mem_cons] at hx
      rcases hx with rfl | hx
      · exact q1.2
      · exact q2.2 x hx
theorem szConditionS (l : List S216) (left : Int) (hl : l.length ≤ 9223372036854775807) (hg : ∀ x ∈ l, x.f1.size ≤ 9223372036854775807) (h0 : 0 ≤ left) (h1 : left ≤ 1048576) :
    ∃ r, Ev (fun k => laws_szConditionS.f k l left) r ∧ (0 ≤ r → r ≤ left ∧ l.length ≤ 1048576 ∧ ∀ x ∈ l, x.f1.size ≤ 1048576) := by
  have hw : wrap64 (left - (l.length : Int)) = left - (l.length : Int) := wrap64_id (by omega) (by omega)
  by_cases hn : left - (l.length : Int) < 0
  · exact ⟨-1, Ev.congr (fun k => by rw [laws_szConditionS.f, hw, if_pos hn]) (Ev.now _), fun h => by omega⟩
  · obtain ⟨r, e, b⟩ := szConditionS_l0 l (by omega) hg l.length 0 (left - (l.length : Int)) (by omega) (by omega) rfl (by omega)
    refine ⟨r, Ev.congr (fun k => by rw [laws_szConditionS.f, hw, if_neg hn]; rfl) e, fun h => ?_⟩
    have q := b h
    exact ⟨by omega, by omega, by simpa using q.2⟩

/-! A law's copies of a list of Statement: sizes, copies, comparisons. -/
def statementOf (x : S128) : S132 := ⟨x.f0, x.f1, x.f2, x.f3, x.f4.map conditionOf⟩
def okStrings (n : Nat) (l : List ByteArray) : Prop := l.length ≤ n ∧ ∀ x ∈ l, x.size ≤ n
def okConds (n : Nat) (l : List S216) : Prop := l.length ≤ n ∧ ∀ x ∈ l, x.f1.size ≤ n
def okCondsI (n : Nat) (l : List S136) : Prop := l.length ≤ n ∧ ∀ x ∈ l, x.f1.size ≤ n
def okStmt (n : Nat) (x : S128) : Prop := okStrings n x.f1 ∧ okStrings n x.f2 ∧ okStrings n x.f3 ∧ okConds n x.f4
def okStmtI (n : Nat) (x : S132) : Prop := okStrings n x.f1 ∧ okStrings n x.f2 ∧ okStrings n x.f3 ∧ okCondsI n x.f4
theorem okConds_of (n : Nat) (l : List S216) (h : okConds n l) : okCondsI n (l.map conditionOf) :=
  ⟨by simpa using h.1, fun x hx => by obtain ⟨y, hy, rfl⟩ := List.mem_map.1 hx; exact h.2 y hy⟩
theorem okStmt_of (n : Nat) (x : S128) (h : okStmt n x) : okStmtI n (statementOf x) := ⟨h.1, h.2.1, h.2.2.1, okConds_of n _ h.2.2.2⟩
theorem rdl_Statement (l : List S128) (i : Nat) (h : i < l.length) : rd_T128 l (i : Int) = l[i] := by
  unfold rd_T128; rw [Int.toNat_natCast, List.getD_eq_getElem?_getD, List.getElem?_eq_getElem h]; rfl
theorem rdi_Statement (l : List S132) (i : Nat) (h : i < l.length) : rd_T132 l (i : Int) = l[i] := by
  unfold rd_T132; rw [Int.toNat_natCast, List.getD_eq_getElem?_getD, List.getElem?_eq_getElem h]; rfl
theorem sz_Statement (x : S128) (left : Int) (h0 : 0 ≤ left) (h1 : left ≤ 1048576) (g : okStmt 9223372036854775807 x) :
    ∃ r, Ev (fun k => laws_szStatement.f k x.f0 x.f1 x.f2 x.f3 x.f4 left) r ∧ (0 ≤ r → r ≤ left ∧ okStmt 1048576 x) := by
  obtain ⟨r1, e1, b1⟩ := szStringS x.f1 left g.1.1 g.1.2 h0 h1
  by_cases n1 : r1 < 0
  · exact ⟨-1, Ev.congr (fun k => by rw [laws_szStatement.f]) (Ev.bind e1 (Ev.pos n1 (Ev.now _))), fun h => by omega⟩
  · have q1 := b1 (by omega)
    obtain ⟨r2, e2, b2⟩ := szStringS x.f2 r1 g.2.1.1 g.2.1.2 (by omega) (by omega)
    by_cases n2 : r2 < 0
    · exact ⟨-1, Ev.congr (fun k => by rw [laws_szStatement.f]) (Ev.bind e1 (Ev.neg n1 (Ev.bind e2 (Ev.pos n2 (Ev.now _))))), fun h => by omega⟩
    · have q2 := b2 (by omega)
      obtain ⟨r3, e3, b3⟩ := szStringS x.f3 r2 g.2.2.1.1 g.2.2.1.2 (by omega) (by omega)
      by_cases n3 : r3 < 0
      · exact ⟨-1, Ev.congr (fun k => by rw [laws_szStatement.f]) (Ev.bind e1 (Ev.neg n1 (Ev.bind e2 (Ev.neg n2 (Ev.bind e3 (Ev.pos n3 (Ev.now _))))))), fun h => by omega⟩
      · have q3 := b3 (by omega)
        obtain ⟨r4, e4, b4⟩ := szConditionS x.f4 r3 g.2.2.2.1 g.2.2.2.2 (by omega) (by omega)
        by_cases n4 : r4 < 0
        · exact ⟨-1, Ev.congr (fun k => by rw [laws_szStatement.f]) (Ev.bind e1 (Ev.neg n1 (Ev.bind e2 (Ev.neg n2 (Ev.bind e3 (Ev.neg n3 (Ev.bind e4 (Ev.pos n4 (Ev.now _))))))))), fun h => by omega⟩
        · have q4 := b4 (by omega)
          exact ⟨r4, Ev.congr (fun k => by rw [laws_szStatement.f]) (Ev.bind e1 (Ev.neg n1 (Ev.bind e2 (Ev.neg n2 (Ev.bind e3 (Ev.neg n3 (Ev.bind e4 (Ev.neg n4 (Ev.now _))))))))), fun h => ⟨by omega, ⟨q1.2.1, q1.2.2⟩, ⟨q2.2.1, q2.2.2⟩, ⟨q3.2.1, q3.2.2⟩, ⟨q4.2.1, q4.2.2⟩⟩⟩
theorem to_Statement (x : S128) (g : okStmt 1048576 x) : Ev (fun k => laws_toStatement.f k x.f0 x.f1 x.f2 x.f3 x.f4) (x.f0, x.f1, x.f2, x.f3, x.f4.map conditionOf) :=
  by
  refine Ev.congr (fun k => by rw [laws_toStatement.f]) (Ev.bind (toStringS _ g.1.1) (Ev.bind (toStringS _ g.2.1.1) (Ev.bind (toStringS _ g.2.2.1.1) (Ev.bind (toConditionS _ g.2.2.2.1) ?_))))
  exact Ev.now _
theorem eq_Statement (x : S132) (g : okStmtI 1048576 x) : Ev (fun k => laws_eqStatement.f k x.f0 x.f1 x.f2 x.f3 x.f4 x.f0 x.f1 x.f2 x.f3 x.f4) true :=
  Ev.congr (fun k => by rw [laws_eqStatement.f]) (Ev.pos rfl (Ev.bind (eqStringS _ g.1.1) (Ev.pos rfl (Ev.bind (eqStringS _ g.2.1.1) (Ev.pos rfl (Ev.bind (eqStringS _ g.2.2.1.1) (Ev.pos rfl (Ev.bind (eqConditionS _ g.2.2.2.1) (Ev.pos rfl (Ev.now _))))))))))
theorem toStatementS_l0 (l : List S128) (hl : l.length ≤ 1048576) (hg : ∀ x ∈ l, okStmt 1048576 x) : ∀ (d i : Nat), l.length - i = d → i ≤ l.length →
    Ev (fun k => laws_toStatementS.l0 k l ((l.take i).map statementOf ++ List.replicate (l.length - i) z132) (i : Int)) (l.map statementOf) := by
  intro d
  induction d with
  | zero =>
    intro i hd hi
    have : i = l.length := by omega
    subst this
    refine Ev.step (fun k => by rw [laws_toStatementS.l0, if_neg (by omega)]) (Ev.give ?_)
    simp
  | succ d ih =>
    intro i hd hi
    have hlt : i < l.length := by omega
    have hx : l[i]? = some l[i] := List.getElem?_eq_getElem hlt
    have hr := rdl_Statement l i hlt
    have hw : wrap64 ((i : Int) + 1) = ((i + 1 : Nat) : Int) := by rw [wrap64_id (by omega) (by omega)]; rfl
    have hs := set_prefix statementOf z132 l i hlt l[i] hx
    refine Ev.step (fun k => by rw [laws_toStatementS.l0, if_pos (by omega), if_pos (by omega), hr]) ?_
    refine Ev.bind (to_Statement l[i] (hg _ (List.getElem_mem hlt))) (Ev.congr (fun k => by rw [if_pos (by simp; omega), Int.toNat_natCast, hw]) ?_)
    have e : (⟨l[i].f0, l[i].f1, l[i].f2, l[i].f3, l[i].f4.map conditionOf⟩ : S132) = statementOf l[i] := rfl
    have q := ih (i + 1) (by omega) (by omega)
    rw [← hs] at q
    exact q
theorem toStatementS (l : List S128) (hl : l.length ≤ 1048576) (hg : ∀ x ∈ l, okStmt 1048576 x) : Ev (fun k => laws_toStatementS.f k l) (l.map statementOf) := by
  refine Ev.congr (fun k => by rw [laws_toStatementS.f, if_pos (by omega), if_pos (by omega), Int.toNat_natCast]) ?_
  have := toStatementS_l0 l hl hg l.length 0 rfl (by omega)
  simpa using this
theorem eqStatementS_l0 (l : List S132) (hl : l.length ≤ 1048576) (hg : ∀ x ∈ l, okStmtI 1048576 x) : ∀ (d i : Nat), l.length - i = d → i ≤ l.length → Ev (fun k => laws_eqStatementS.l0 k l l (i : Int)) true := by
  intro d
  induction d with
  | zero =>
    intro i hd hi
    exact Ev.step (fun k => by rw [laws_eqStatementS.l0, if_neg (by omega)]) (Ev.now _)
  | succ d ih =>
    intro i hd hi
    have hlt : i < l.length := by omega
    have hr := rdi_Statement l i hlt
    have hw : wrap64 ((i : Int) + 1) = ((i + 1 : Nat) : Int) := by rw [wrap64_id (by omega) (by omega)]; rfl
    refine Ev.step (fun k => by rw [laws_eqStatementS.l0, if_pos (by omega), if_pos (by omega), if_pos (by omega), hr, hw]) ?_
    exact Ev.bind (eq_Statement l[i] (hg _ (List.getElem_mem hlt))) (Ev.pos rfl (ih (i + 1) (by omega) (by omega)))
theorem eqStatementS (l : List S132) (hl : l.length ≤ 1048576) (hg : ∀ x ∈ l, okStmtI 1048576 x) : Ev (fun k => laws_eqStatementS.f k l l) true := by
  refine Ev.congr (fun k => by rw [laws_eqStatementS.f, if_pos rfl]) ?_
  exact eqStatementS_l0 l hl hg l.length 0 rfl (by omega)
theorem szStatementS_l0 (l : List S128) (hl : l.length ≤ 1048576) (hg : ∀ x ∈ l, okStmt 9223372036854775807 x) : ∀ (d i : Nat) (left : Int), 0 ≤ left → left ≤ 1048576 → l.length - i = d → i ≤ l.length →
    ∃ r, Ev (fun k => laws_szStatementS.l0 k l left (i : Int)) r ∧ (0 ≤ r → r ≤ left ∧ ∀ x ∈ l.drop i, okStmt 1048576 x) := by
  intro d
  induction d with
  | zero =>
    intro i left h0 h1 hd hi
    exact ⟨left, Ev.step (fun k => by rw [laws_szStatementS.l0, if_neg (by omega)]) (Ev.now _), fun _ => ⟨by omega, by rw [List.drop_eq_nil_of_le (by omega)]; simp⟩⟩
  | succ d ih =>
    intro i left h0 h1 hd hi
    have hlt : i < l.length := by omega
    have hr := rdl_Statement l i hlt
    have hw : wrap64 ((i : Int) + 1) = ((i + 1 : Nat) : Int) := by rw [wrap64_id (by omega) (by omega)]; rfl
    obtain ⟨r1, e1, b1⟩ := sz_Statement l[i] left h0 h1 (hg l[i] (List.getElem_mem hlt))
    by_cases hn : r1 < 0
    · refine ⟨-1, Ev.step (fun k => by rw [laws_szStatementS.l0, if_pos (by omega), if_pos (by omega), hr]) (Ev.bind e1 (Ev.pos hn (Ev.now _))), fun h => by omega⟩
    · have q1 := b1 (by omega)
      obtain ⟨r2, e2, b2⟩ := ih (i + 1) r1 (by omega) (by omega) (by omega) (by omega)
      refine ⟨r2, Ev.step (fun k => by rw [laws_szStatementS.l0, if_pos (by omega), if_pos (by omega), hr, hw]) (Ev.bind e1 (Ev.neg hn e2)), fun h => ?_⟩
      have q2 := b2 h
      refine ⟨by omega, fun x hx => ?_⟩
      rw [List.drop_eq_getElem_cons hlt, List.mem_cons] at hx
      rcases hx with rfl | hx
      · exact q1.2
      · exact q2.2 x hx
theorem szStatementS (l : List S128) (left : Int) (hl : l.length ≤ 9223372036854775807) (hg : ∀ x ∈ l, okStmt 9223372036854775807 x) (h0 : 0 ≤ left) (h1 : left ≤ 1048576) :
    ∃ r, Ev (fun k => laws_szStatementS.f k l left) r ∧ (0 ≤ r → r ≤ left ∧ l.length ≤ 1048576 ∧ ∀ x ∈ l, okStmt 1048576 x) := by
  have hw : wrap64 (left - (l.length : Int)) = left - (l.length : Int) := wrap64_id (by omega) (by omega)
  by_cases hn : left - (l.length : Int) < 0
  · exact ⟨-1, Ev.congr (fun k => by rw [laws_szStatementS.f, hw, if_pos hn]) (Ev.now _), fun h => by omega⟩
  · obtain ⟨r, e, b⟩ := szStatementS_l0 l (by omega) hg l.length 0 (left - (l.length : Int)) (by omega) (by omega) rfl (by omega)
    refine ⟨r, Ev.congr (fun k => by rw [laws_szStatementS.f, hw, if_neg hn]; rfl) e, fun h => ?_⟩
    have q := b h
    exact ⟨by omega, by omega, by simpa using q.2⟩

/-! Words, lists of words, conditions, statements. -/
theorem rdOf_at (l : List ByteArray) (i : Nat) (h : i < l.length) : rdOf ByteArray.empty l (i : Int) = l[i] := by
  unfold rdOf; rw [Int.toNat_natCast, List.getD_eq_getElem?_getD, List.getElem?_eq_getElem h]; rfl
def okByte (c : UInt8) : Bool := !(decide ((c.toNat : Int) < 33)) && !(decide ((c.toNat : Int) > 126))
def wordL (l : List UInt8) : Bool := l.all okByte
def plainL (x : Nat) (l : List UInt8) : Bool := l.all fun c => okByte c && !(decide ((c.toNat : Int) = (x : Int)))
def sizeOk (s : ByteArray) : Bool := !(decide ((s.size : Int) < 1)) && !(decide ((s.size : Int) > 200))
def wordB (s : ByteArray) : Bool := sizeOk s && wordL s.data.toList
def plainB (x : Nat) (s : ByteArray) : Bool := sizeOk s && plainL x s.data.toList
theorem plain_l0 (s : ByteArray) (hs : s.size ≤ 1048576) (x : Nat) : ∀ (d i : Nat), s.size - i = d → i ≤ s.size → Ev (fun k => impl_plain.l0 k s (x : Int) (s.size : Int) (i : Int)) (plainL x (s.data.toList.drop i)) := by
  intro d
  induction d with
  | zero =>
    intro i hd hi
    rw [drop_end s i (by omega)]
    exact Ev.step (fun k => by rw [impl_plain.l0, if_neg (by omega)]; rfl) (Ev.now _)
  | succ d ih =>
    intro i hd hi
    obtain ⟨c, e, hb⟩ := bt_drop s i (by omega)
    have hw : wrap64 ((i : Int) + 1) = ((i + 1 : Nat) : Int) := by rw [wrap64_id (by omega) (by omega)]; rfl
    have hn := ih (i + 1) (by omega) (by omega)
    have c1 : (i : Int) < (s.size : Int) := by omega
    have c0 : (0 : Int) ≤ (i : Int) := by omega
    rw [e]
    refine Ev.step (fun k => by rw [impl_plain.l0, if_pos c1, if_pos c0, if_pos c1, hb, hw]) ?_
    unfold plainL okByte
    rw [List.all_cons]
    by_cases h1 : (c.toNat : Int) < 33
    · refine Ev.pos h1 (Ev.give ?_); rw [decide_eq_true h1]; rfl
    · refine Ev.neg h1 ?_
      rw [decide_eq_false h1]
      by_cases h2 : (c.toNat : Int) > 126
      · refine Ev.pos h2 (Ev.give ?_); rw [decide_eq_true h2]; rfl
      · refine Ev.neg h2 ?_
        rw [decide_eq_false h2]
        by_cases h3 : (c.toNat : Int) = (x : Int)
        · refine Ev.pos h3 (Ev.give ?_); rw [decide_eq_true h3]; rfl
        · refine Ev.neg h3 ?_
          rw [decide_eq_false h3]
          exact hn
theorem impl_plain_ev (s : ByteArray) (hs : s.size ≤ 1048576) (x : Nat) : Ev (fun k => impl_plain.f k s (x : Int)) (plainB x s) := by
  have out : Ev (fun k => impl_plain.j0 k s (x : Int) true) false := Ev.step (fun k => by rw [impl_plain.j0, if_pos rfl]) (Ev.now _)
  unfold plainB sizeOk
  refine Ev.congr (fun k => by rw [impl_plain.f]) ?_
  by_cases h1 : (s.size : Int) < 1
  · rw [decide_eq_true h1]; exact Ev.pos h1 out
  · refine Ev.neg h1 ?_
    rw [decide_eq_false h1]
    by_cases h2 : (s.size : Int) > 200
    · rw [decide_eq_true h2]; exact out
    · rw [decide_eq_false h2]
      have := plain_l0 s hs x s.size 0 (by omega) (by omega)
      rw [List.drop_zero] at this
      exact Ev.step (fun k => by rw [impl_plain.j0, if_neg (by decide)]; rfl) this
theorem word_l0 (s : ByteArray) (hs : s.size ≤ 1048576) : ∀ (d i : Nat), s.size - i = d → i ≤ s.size → Ev (fun k => spec_l09Word.l0 k s (i : Int)) (wordL (s.data.toList.drop i)) := by
  intro d
  induction d with
  | zero =>
    intro i hd hi
    rw [drop_end s i (by omega)]
    exact Ev.step (fun k => by rw [spec_l09Word.l0, if_neg (by omega)]; rfl) (Ev.now _)
  | succ d ih =>
    intro i hd hi
    obtain ⟨c, e, hb⟩ := bt_drop s i (by omega)
    have hw : wrap64 ((i : Int) + 1) = ((i + 1 : Nat) : Int) := by rw [wrap64_id (by omega) (by omega)]; rfl
    have hn := ih (i + 1) (by omega) (by omega)
    have c1 : (i : Int) < (s.size : Int) := by omega
    have c0 : (0 : Int) ≤ (i : Int) := by omega
    rw [e]
    refine Ev.step (fun k => by rw [spec_l09Word.l0, if_pos c1, if_pos c0, hb, hw]) ?_
    unfold wordL okByte
    rw [List.all_cons]
    by_cases h1 : (c.toNat : Int) < 33
    · refine Ev.pos h1 (Ev.give ?_); rw [decide_eq_true h1]; rfl
    · refine Ev.neg h1 ?_
      rw [decide_eq_false h1]
      by_cases h2 : (c.toNat : Int) > 126
      · refine Ev.pos h2 (Ev.give ?_); rw [decide_eq_true h2]; rfl
      · refine Ev.neg h2 ?_
        rw [decide_eq_false h2]
        exact hn
theorem spec_word_ev (s : ByteArray) (hs : s.size ≤ 1048576) : Ev (fun k => spec_l09Word.f k s) (wordB s) := by
  have out : Ev (fun k => spec_l09Word.j0 k s true) false := Ev.step (fun k => by rw [spec_l09Word.j0, if_pos rfl]) (Ev.now _)
  unfold wordB sizeOk
  refine Ev.congr (fun k => by rw [spec_l09Word.f]) ?_
  by_cases h1 : (s.size : Int) < 1
  · rw [decide_eq_true h1]; exact Ev.pos h1 out
  · refine Ev.neg h1 ?_
    rw [decide_eq_false h1]
    by_cases h2 : (s.size : Int) > 200
    · rw [decide_eq_true h2]; exact out
    · rw [decide_eq_false h2]
      have := word_l0 s hs s.size 0 (by omega) (by omega)
      rw [List.drop_zero] at this
      exact Ev.step (fun k => by rw [spec_l09Word.j0, if_neg (by decide)]; rfl) this
def commaL (l : List UInt8) : Bool := l.any fun c => c == 44
theorem extract_one (s : ByteArray) (i : Nat) (c : UInt8) (e : s.data.toList.drop i = c :: s.data.toList.drop (i + 1)) : (s.extract i (i + 1)).toList = [c] := by
  rw [ByteArray.toList_eq, ByteArray.data_extract, Array.toList_extract, List.extract_eq_take_drop, e, show i + 1 - i = 1 by omega]
  rfl
theorem index_l0 (s : ByteArray) (hs : s.size ≤ 1048576) : ∀ (d i : Nat), s.size - i = d → i ≤ s.size → ∃ r, Ev (fun k => spec_l01Index.l0 k s (⟨#[44]⟩ : ByteArray) (i : Int)) r ∧ decide (r ≥ 0) = commaL (s.data.toList.drop i) := by
  have z : ((⟨#[44]⟩ : ByteArray).size : Int) = 1 := rfl
  have z2 : (⟨#[44]⟩ : ByteArray).toList = [44] := by rw [ByteArray.toList_eq]
  intro d
  induction d with
  | zero =>
    intro i hd hi
    have hw : wrap64 ((i : Int) + 1) = ((i + 1 : Nat) : Int) := by rw [wrap64_id (by omega) (by omega)]; rfl
    rw [drop_end s i (by omega)]
    exact ⟨-1, Ev.step (fun k => by rw [spec_l01Index.l0, z, hw, if_neg (by omega)]) (Ev.now _), by decide⟩
  | succ d ih =>
    intro i hd hi
    obtain ⟨c, e, _⟩ := bt_drop s i (by omega)
    have hw : wrap64 ((i : Int) + 1) = ((i + 1 : Nat) : Int) := by rw [wrap64_id (by omega) (by omega)]; rfl
    obtain ⟨r, hE, hr⟩ := ih (i + 1) (by omega) (by omega)
    have ho := extract_one s i c e
    by_cases hc : c = 44
    · refine ⟨(i : Int), Ev.step (fun k => by rw [spec_l01Index.l0, z, hw, if_pos (by omega), if_pos (by omega), if_pos (by omega), Int.toNat_natCast, Int.toNat_natCast, ho, z2, hc, if_pos rfl]) (Ev.now _), ?_⟩
      rw [e, decide_eq_true (by omega), hc]; simp [commaL]
    · refine ⟨r, Ev.step (fun k => by rw [spec_l01Index.l0, z, hw, if_pos (by omega), if_pos (by omega), if_pos (by omega), Int.toNat_natCast, Int.toNat_natCast, ho, z2, if_neg (by simpa using hc)]) hE, ?_⟩
      rw [hr, e]
      have : (c == (44 : UInt8)) = false := by simpa using hc
      simp [commaL, this]
theorem plain_zero (s : ByteArray) : plainB 0 s = wordB s := by
  unfold plainB wordB
  congr 1
  unfold plainL wordL
  congr 1
  funext c
  unfold okByte
  by_cases h : (c.toNat : Int) < 33
  · rw [decide_eq_true h]; rfl
  · rw [decide_eq_false (show ¬ (c.toNat : Int) = ((0 : Nat) : Int) by omega)]; simp
theorem plain_comma (s : ByteArray) : plainB 44 s = (wordB s && !(commaL s.data.toList)) := by
  unfold plainB wordB
  rw [Bool.and_assoc]
  congr 1
  unfold plainL wordL commaL
  induction s.data.toList with
  | nil => rfl
  | cons c l ih =>
    rw [List.all_cons, List.all_cons, List.any_cons, ih]
    have h : decide ((c.toNat : Int) = ((44 : Nat) : Int)) = (c == 44) := by
      by_cases hc : c = 44
      · subst hc; decide
      · have h2 : ¬ (c.toNat : Int) = ((44 : Nat) : Int) := fun e => hc (UInt8.toNat_inj.1 (by simpa using (by omega : c.toNat = 44)))
        rw [decide_eq_false h2]
        exact (beq_eq_false_iff_ne.2 hc).symm
    rw [h]
    cases okByte c <;> cases (c == (44 : UInt8)) <;> simp
def listB (l : List ByteArray) : Bool := (!(decide ((l.length : Int) < 1)) && !(decide ((l.length : Int) > 20))) && l.all (plainB 44)
theorem spec_list_l0 (l : List ByteArray) (hl : l.length ≤ 1048576) (hs : ∀ s ∈ l, s.size ≤ 1048576) : ∀ (d i : Nat), l.length - i = d → i ≤ l.length → Ev (fun k => spec_l09List.l0 k l (i : Int)) ((l.drop i).all (plainB 44)) := by
  intro d
  induction d with
  | zero =>
    intro i hd hi
    rw [List.drop_eq_nil_of_le (by omega)]
    exact Ev.step (fun k => by rw [spec_l09List.l0, if_neg (by omega)]; rfl) (Ev.now _)
  | succ d ih =>
    intro i hd hi
    have hlt : i < l.length := by omega
    have hr := rdOf_at l i hlt
    have hw : wrap64 ((i : Int) + 1) = ((i + 1 : Nat) : Int) := by rw [wrap64_id (by omega) (by omega)]; rfl
    have hn := ih (i + 1) (by omega) (by omega)
    have hsz := hs _ (List.getElem_mem hlt)
    obtain ⟨r, hE, hr2⟩ := index_l0 l[i] hsz l[i].size 0 (by omega) (by omega)
    rw [List.drop_zero] at hr2
    rw [List.drop_eq_getElem_cons hlt, List.all_cons, plain_comma]
    refine Ev.step (fun k => by rw [spec_l09List.l0, if_pos (by omega), if_pos (by omega), hr, hw]) ?_
    refine Ev.bind (spec_word_ev _ hsz) ?_
    by_cases h1 : wordB l[i] = true
    · refine Ev.pos h1 (Ev.bind (Ev.congr (fun k => by rw [spec_l01Index.f]; rfl) hE) ?_)
      rw [h1, ← hr2]
      by_cases h2 : r ≥ 0
      · refine Ev.pos h2 (Ev.give ?_); rw [decide_eq_true h2]; rfl
      · refine Ev.neg h2 ?_
        rw [decide_eq_false h2]
        exact hn
    · refine Ev.neg h1 (Ev.give ?_)
      rw [Bool.not_eq_true] at h1
      rw [h1]; rfl
theorem spec_list (l : List ByteArray) (hl : l.length ≤ 1048576) (hs : ∀ s ∈ l, s.size ≤ 1048576) : Ev (fun k => spec_l09List.f k l) (listB l) := by
  have out : Ev (fun k => spec_l09List.j0 k l true) false := Ev.step (fun k => by rw [spec_l09List.j0, if_pos rfl]) (Ev.now _)
  unfold listB
  refine Ev.congr (fun k => by rw [spec_l09List.f]) ?_
  by_cases h1 : (l.length : Int) < 1
  · rw [decide_eq_true h1]; exact Ev.pos h1 out
  · refine Ev.neg h1 ?_
    rw [decide_eq_false h1]
    by_cases h2 : (l.length : Int) > 20
    · rw [decide_eq_true h2]; exact out
    · rw [decide_eq_false h2]
      have := spec_list_l0 l hl hs l.length 0 (by omega) (by omega)
      rw [List.drop_zero] at this
      exact Ev.step (fun k => by rw [spec_l09List.j0, if_neg (by decide)]; rfl) this
theorem impl_list_l0 (l : List ByteArray) (hl : l.length ≤ 1048576) (hs : ∀ s ∈ l, s.size ≤ 1048576) : ∀ (d i : Nat), l.length - i = d → i ≤ l.length → Ev (fun k => impl_listFault.l0 k l l (l.length : Int) (i : Int)) (!((!(decide ((l.length : Int) < 1)) && !(decide ((l.length : Int) > 20))) && (l.drop i).all (plainB 44))) := by
  intro d
  induction d with
  | zero =>
    intro i hd hi
    rw [List.drop_eq_nil_of_le (by omega)]
    refine Ev.step (fun k => by rw [impl_listFault.l0, if_neg (by omega)]) ?_
    by_cases h1 : (l.length : Int) < 1
    · refine Ev.pos h1 (Ev.give ?_); rw [decide_eq_true h1]; rfl
    · refine Ev.neg h1 (Ev.give ?_)
      rw [decide_eq_false h1]
      cases decide ((l.length : Int) > 20) <;> rfl
  | succ d ih =>
    intro i hd hi
    have hlt : i < l.length := by omega
    have hr := rdOf_at l i hlt
    have hw : wrap64 ((i : Int) + 1) = ((i + 1 : Nat) : Int) := by rw [wrap64_id (by omega) (by omega)]; rfl
    have hn := ih (i + 1) (by omega) (by omega)
    have hsz := hs _ (List.getElem_mem hlt)
    rw [List.drop_eq_getElem_cons hlt, List.all_cons]
    refine Ev.step (fun k => by rw [impl_listFault.l0, if_pos (by omega), if_pos (by omega), if_pos (by omega), hr, hw]) ?_
    refine Ev.bind (impl_plain_ev _ hsz 44) ?_
    by_cases h1 : plainB 44 l[i] = true
    · refine Ev.pos h1 ?_
      rw [h1, Bool.true_and]
      exact hn
    · refine Ev.neg h1 (Ev.give ?_)
      rw [Bool.not_eq_true] at h1
      rw [h1, Bool.false_and, Bool.and_false]; rfl
theorem impl_list (l : List ByteArray) (hl : l.length ≤ 1048576) (hs : ∀ s ∈ l, s.size ≤ 1048576) : Ev (fun k => impl_listFault.f k l) (!(listB l)) := by
  have := impl_list_l0 l hl hs l.length 0 (by omega) (by omega)
  rw [List.drop_zero] at this
  exact Ev.congr (fun k => by rw [impl_listFault.f]; rfl) this

/-! What is wrong with a policy, in plain words: both texts answer it. -/
def condOk (x : S136) : Bool :=
  if x.f0 = 1 ∨ x.f0 = 4 then (wordB x.f1 && decide (x.f2 = 0))
  else if x.f0 = 2 ∨ x.f0 = 3 then (decide (x.f1.toList = ([] : List UInt8)) && (!(decide (x.f2 < 0)) && !(decide (x.f2 > 4102444800))))
  else false
theorem impl_cond (x : S136) (hs : x.f1.size ≤ 1048576) : Ev (fun k => impl_conditionFault.f k x.f0 x.f1 x.f2) (!(condOk x)) := by
  refine Ev.congr (fun k => by rw [impl_conditionFault.f]) ?_
  unfold condOk
  by_cases h1 : x.f0 = 1 ∨ x.f0 = 4
  · rw [if_pos h1]
    refine Ev.pos h1 ?_
    by_cases h2 : x.f2 = 0
    · refine Ev.pos h2 (Ev.bind (impl_plain_ev _ hs 0) (Ev.give ?_))
      rw [decide_eq_true h2, Bool.and_true, plain_zero]
    · refine Ev.neg h2 (Ev.give ?_)
      rw [decide_eq_false h2, Bool.and_false]; rfl
  · rw [if_neg h1]
    refine Ev.neg h1 ?_
    by_cases h3 : x.f0 = 2 ∨ x.f0 = 3
    · refine Ev.pos h3 ?_
      rw [if_pos h3]
      by_cases h4 : x.f1.toList = ([] : List UInt8)
      · refine Ev.pos h4 ?_
        rw [decide_eq_true h4, Bool.true_and]
        by_cases h5 : x.f2 < 0
        · refine Ev.pos h5 (Ev.give ?_); rw [decide_eq_true h5]; rfl
        · refine Ev.neg h5 (Ev.give ?_)
          rw [decide_eq_false h5]
          cases decide (x.f2 > 4102444800) <;> rfl
      · refine Ev.neg h4 (Ev.give ?_)
        rw [decide_eq_false h4]; rfl
    · refine Ev.neg h3 (Ev.give ?_)
      rw [if_neg h3]; rfl
theorem spec_ifs_l0 (l : List S136) (hl : l.length ≤ 1048576) (hs : ∀ x ∈ l, x.f1.size ≤ 1048576) : ∀ (d i : Nat), l.length - i = d → i ≤ l.length → Ev (fun k => spec_l09Ifs.l0 k l (i : Int)) ((l.drop i).all condOk) := by
  intro d
  induction d with
  | zero =>
    intro i hd hi
    rw [List.drop_eq_nil_of_le (by omega)]
    exact Ev.step (fun k => by rw [spec_l09Ifs.l0, if_neg (by omega)]; rfl) (Ev.now _)
  | succ d ih =>
    intro i hd hi
    have hlt : i < l.length := by omega
    have hr := rdi_Condition l i hlt
    have hw : wrap64 ((i : Int) + 1) = ((i + 1 : Nat) : Int) := by rw [wrap64_id (by omega) (by omega)]; rfl
    have hn := ih (i + 1) (by omega) (by omega)
    have hsz := hs _ (List.getElem_mem hlt)
    rw [List.drop_eq_getElem_cons hlt, List.all_cons]
    generalize l[i] = x at hr hsz
    have c0 : (0 : Int) ≤ (i : Int) := by omega
    have c1 : (i : Int) < (l.length : Int) := by omega
    have E1 : ∀ (z : Int), (x.f0 = 1 ∨ x.f0 = 4) → Ev (fun k => spec_l09Ifs.j1 k l (i : Int) z true x.f0 x.f1 x.f2) (condOk x && (l.drop (i + 1)).all condOk) := by
      intro z h
      unfold condOk
      rw [if_pos h]
      refine Ev.step (fun k => by rw [spec_l09Ifs.j1, if_pos rfl, hw]) (Ev.bind (spec_word_ev _ hsz) ?_)
      by_cases h1 : wordB x.f1 = true
      · refine Ev.pos h1 ?_
        rw [h1, Bool.true_and]
        by_cases h2 : x.f2 = 0
        · refine Ev.pos h2 ?_; rw [decide_eq_true h2]; exact hn
        · refine Ev.neg h2 (Ev.give ?_); rw [decide_eq_false h2]; rfl
      · refine Ev.neg h1 (Ev.give ?_)
        rw [Bool.not_eq_true] at h1
        rw [h1]; rfl
    have E2 : ¬ (x.f0 = 1 ∨ x.f0 = 4) → (x.f0 = 2 ∨ x.f0 = 3) → Ev (fun k => spec_l09Ifs.j2 k l (i : Int) true x.f0 x.f1 x.f2) (condOk x && (l.drop (i + 1)).all condOk) := by
      intro h0 h
      unfold condOk
      rw [if_neg h0, if_pos h]
      refine Ev.step (fun k => by rw [spec_l09Ifs.j2, if_pos rfl, hw]) ?_
      by_cases h4 : x.f1.toList = ([] : List UInt8)
      · refine Ev.pos h4 ?_
        rw [decide_eq_true h4, Bool.true_and]
        by_cases h5 : x.f2 < 0
        · refine Ev.pos h5 (Ev.give ?_); rw [decide_eq_true h5]; rfl
        · refine Ev.neg h5 ?_
          rw [decide_eq_false h5]
          by_cases h6 : x.f2 > 4102444800
          · refine Ev.pos h6 (Ev.give ?_); rw [decide_eq_true h6]; rfl
          · refine Ev.neg h6 ?_; rw [decide_eq_false h6]; exact hn
      · refine Ev.neg h4 (Ev.give ?_)
        rw [decide_eq_false h4]; rfl
    have E3 : ¬ (x.f0 = 1 ∨ x.f0 = 4) → Ev (fun k => spec_l09Ifs.j1 k l (i : Int) x.f0 false x.f0 x.f1 x.f2) (condOk x && (l.drop (i + 1)).all condOk) := by
      intro h0
      refine Ev.step (fun k => by rw [spec_l09Ifs.j1, if_neg (by decide)]) ?_
      by_cases h2 : x.f0 = 2
      · have b : (x.f0 == 2) = true := by rw [h2]; rfl
        rw [b]
        exact Ev.pos h2 (E2 h0 (Or.inl h2))
      · refine Ev.neg h2 ?_
        by_cases h3 : x.f0 = 3
        · have b : (x.f0 == 3) = true := by rw [h3]; rfl
          rw [b]
          exact E2 h0 (Or.inr h3)
        · have b : (x.f0 == 3) = false := beq_eq_false_iff_ne.2 h3
          rw [b]
          refine Ev.step (fun k => by rw [spec_l09Ifs.j2, if_neg (by decide)]) (Ev.give ?_)
          unfold condOk
          rw [if_neg h0, if_neg (by omega)]; rfl
    refine Ev.step (fun k => by rw [spec_l09Ifs.l0, if_pos c1, if_pos c0, hr]) ?_
    by_cases h1 : x.f0 = 1
    · have b : (x.f0 == 1) = true := by rw [h1]; rfl
      rw [b]
      exact Ev.pos h1 (E1 _ (Or.inl h1))
    · refine Ev.neg h1 ?_
      by_cases h4 : x.f0 = 4
      · have b : (x.f0 == 4) = true := by rw [h4]; rfl
        rw [b]
        exact E1 _ (Or.inr h4)
      · have b : (x.f0 == 4) = false := beq_eq_false_iff_ne.2 h4
        rw [b]
        exact E3 (by omega)
theorem spec_ifs (l : List S136) (h : okCondsI 1048576 l) : Ev (fun k => spec_l09Ifs.f k l) (l.all condOk) := by
  have := spec_ifs_l0 l h.1 h.2 l.length 0 rfl (by omega)
  rw [List.drop_zero] at this
  exact Ev.congr (fun k => by rw [spec_l09Ifs.f]; rfl) this
def stmtOk (x : S132) : Bool := (decide (x.f0 = 1 ∨ x.f0 = 2) && (listB x.f1 && (listB x.f2 && listB x.f3))) && x.f4.all condOk
def stmtFine (x : S132) : Bool := stmtOk x && !(decide ((x.f4.length : Int) > 10))
theorem spec_right (x : S132) (h : okStmtI 1048576 x) : Ev (fun k => spec_l09Right.f k x.f0 x.f1 x.f2 x.f3 x.f4) (stmtOk x) := by
  have E : (x.f0 = 1 ∨ x.f0 = 2) → Ev (fun k => (spec_l09List.f k x.f1).bind fun t120 => (if t120 = true then ((spec_l09List.f k x.f2).bind fun t121 => (if t121 = true then ((spec_l09List.f k x.f3).bind fun t122 => (if t122 = true then ((spec_l09Ifs.f k x.f4).bind fun t123 => (some t123)) else (some false))) else (some false))) else (some false))) (stmtOk x) := by
    intro h0
    unfold stmtOk
    rw [decide_eq_true h0, Bool.true_and]
    refine Ev.bind (spec_list _ h.1.1 h.1.2) ?_
    by_cases h1 : listB x.f1 = true
    · refine Ev.pos h1 (Ev.bind (spec_list _ h.2.1.1 h.2.1.2) ?_)
      by_cases h2 : listB x.f2 = true
      · refine Ev.pos h2 (Ev.bind (spec_list _ h.2.2.1.1 h.2.2.1.2) ?_)
        by_cases h3 : listB x.f3 = true
        · refine Ev.pos h3 (Ev.bind (spec_ifs _ h.2.2.2) (Ev.give ?_))
          rw [h1, h2, h3]; rfl
        · refine Ev.neg h3 (Ev.give ?_)
          rw [Bool.not_eq_true] at h3
          rw [h3, Bool.and_false, Bool.and_false]; rfl
      · refine Ev.neg h2 (Ev.give ?_)
        rw [Bool.not_eq_true] at h2
        rw [h2, Bool.false_and, Bool.and_false]; rfl
    · refine Ev.neg h1 (Ev.give ?_)
      rw [Bool.not_eq_true] at h1
      rw [h1]; rfl
  refine Ev.congr (fun k => by rw [spec_l09Right.f]) ?_
  by_cases h1 : x.f0 = 1
  · exact Ev.pos h1 (E (Or.inl h1))
  · refine Ev.neg h1 ?_
    by_cases h2 : x.f0 = 2
    · exact Ev.pos h2 (E (Or.inr h2))
    · refine Ev.neg h2 (Ev.give ?_)
      unfold stmtOk
      rw [decide_eq_false (by omega)]; rfl
def policyFaultOf (l : List S132) : Int := if (l.length : Int) > 50 then 1 else if l.all stmtFine = true then 0 else 1
theorem spec_policy_l0 (l : List S132) (hl : l.length ≤ 1048576) (hs : ∀ x ∈ l, okStmtI 1048576 x) : ∀ (d i : Nat), l.length - i = d → i ≤ l.length → Ev (fun k => spec_PolicyFault.l0 k l (i : Int)) (if (l.drop i).all stmtFine = true then 0 else 1) := by
  intro d
  induction d with
  | zero =>
    intro i hd hi
    rw [List.drop_eq_nil_of_le (by omega)]
    exact Ev.step (fun k => by rw [spec_PolicyFault.l0, if_neg (by omega)]; rfl) (Ev.now _)
  | succ d ih =>
    intro i hd hi
    have hlt : i < l.length := by omega
    have hr := rdi_Statement l i hlt
    have hw : wrap64 ((i : Int) + 1) = ((i + 1 : Nat) : Int) := by rw [wrap64_id (by omega) (by omega)]; rfl
    have hn := ih (i + 1) (by omega) (by omega)
    have hsz := hs _ (List.getElem_mem hlt)
    rw [List.drop_eq_getElem_cons hlt, List.all_cons]
    refine Ev.step (fun k => by rw [spec_PolicyFault.l0, if_pos (by omega), if_pos (by omega), hr, hw]) (Ev.bind (spec_right _ hsz) ?_)
    by_cases h1 : stmtOk l[i] = true
    · refine Ev.pos h1 ?_
      by_cases h2 : (l[i].f4.length : Int) > 10
      · refine Ev.pos h2 (Ev.give ?_)
        unfold stmtFine; rw [h1, decide_eq_true h2]; rfl
      · refine Ev.neg h2 ?_
        have : stmtFine l[i] = true := by unfold stmtFine; rw [h1, decide_eq_false h2]; rfl
        rw [this, Bool.true_and]; exact hn
    · refine Ev.neg h1 (Ev.give ?_)
      rw [Bool.not_eq_true] at h1
      unfold stmtFine; rw [h1]; rfl
theorem spec_policy (l : List S132) (hl : l.length ≤ 1048576) (hs : ∀ x ∈ l, okStmtI 1048576 x) : Ev (fun k => spec_PolicyFault.f k l) (policyFaultOf l) := by
  unfold policyFaultOf
  refine Ev.congr (fun k => by rw [spec_PolicyFault.f]) ?_
  by_cases h : (l.length : Int) > 50
  · rw [if_pos h]; exact Ev.pos h (Ev.now _)
  · rw [if_neg h]
    have := spec_policy_l0 l hl hs l.length 0 rfl (by omega)
    rw [List.drop_zero] at this
    exact Ev.neg h this
theorem impl_policy_l1 (l : List S132) (n x12 r : Int) (c : List S136) (hc : okCondsI 1048576 c) (hnext : Ev (fun k => impl_PolicyFault.l0 k l n (wrap64 (x12 + 1))) r) : ∀ (d i : Nat), c.length - i = d → i ≤ c.length → Ev (fun k => impl_PolicyFault.l1 k l n x12 c (c.length : Int) (i : Int)) (if (c.drop i).all condOk = true then r else 1) := by
  intro d
  induction d with
  | zero =>
    intro i hd hi
    rw [List.drop_eq_nil_of_le (by omega)]
    exact Ev.step (fun k => by rw [impl_PolicyFault.l1, if_neg (by omega)]) (by simpa using hnext)
  | succ d ih =>
    intro i hd hi
    have hlt : i < c.length := by omega
    have hcl := hc.1
    have hr := rdi_Condition c i hlt
    have hw : wrap64 ((i : Int) + 1) = ((i + 1 : Nat) : Int) := by rw [wrap64_id (by omega) (by omega)]; rfl
    have hn := ih (i + 1) (by omega) (by omega)
    have hsz := hc.2 _ (List.getElem_mem hlt)
    rw [List.drop_eq_getElem_cons hlt, List.all_cons]
    refine Ev.step (fun k => by rw [impl_PolicyFault.l1, if_pos (by omega), if_pos (by omega), if_pos (by omega), hr, hw]) (Ev.bind (impl_cond _ hsz) ?_)
    by_cases h1 : condOk c[i] = true
    · rw [h1, Bool.true_and]
      exact Ev.neg (by decide) hn
    · rw [Bool.not_eq_true] at h1
      rw [h1]
      exact Ev.pos rfl (Ev.now _)
theorem impl_policy_l0 (l : List S132) (hl : l.length ≤ 1048576) (hs : ∀ x ∈ l, okStmtI 1048576 x) : ∀ (d i : Nat), l.length - i = d → i ≤ l.length → Ev (fun k => impl_PolicyFault.l0 k l (l.length : Int) (i : Int)) (if (l.drop i).all stmtFine = true then 0 else 1) := by
  intro d
  induction d with
  | zero =>
    intro i hd hi
    rw [List.drop_eq_nil_of_le (by omega)]
    exact Ev.step (fun k => by rw [impl_PolicyFault.l0, if_neg (by omega)]; rfl) (Ev.now _)
  | succ d ih =>
    intro i hd hi
    have hlt : i < l.length := by omega
    have hr := rdi_Statement l i hlt
    have hw : wrap64 ((i : Int) + 1) = ((i + 1 : Nat) : Int) := by rw [wrap64_id (by omega) (by omega)]; rfl
    have hn := ih (i + 1) (by omega) (by omega)
    have hsz := hs _ (List.getElem_mem hlt)
    rw [List.drop_eq_getElem_cons hlt, List.all_cons]
    refine Ev.step (fun k => by rw [impl_PolicyFault.l0, if_pos (by omega), if_pos (by omega), if_pos (by omega), hr]) ?_
    generalize l[i] = x at hr hsz
    have T : stmtFine x = false → Ev (fun k => impl_PolicyFault.j1 k l (l.length : Int) (i : Int) true x.f0 x.f1 x.f2 x.f3 x.f4) (if (stmtFine x && (l.drop (i + 1)).all stmtFine) = true then 0 else 1) := by
      intro hf
      rw [hf, Bool.false_and, if_neg (by decide)]
      exact Ev.step (fun k => by rw [impl_PolicyFault.j1, if_pos rfl]) (Ev.now _)
    have E : (x.f0 = 1 ∨ x.f0 = 2) → Ev (fun k => ((impl_listFault.f k (x.f1)).bind fun t184 => (if t184 = true then (impl_PolicyFault.j1 k l (l.length : Int) (i : Int) true x.f0 x.f1 x.f2 x.f3 x.f4) else ((impl_listFault.f k (x.f2)).bind fun t185 => (if t185 = true then (impl_PolicyFault.j1 k l (l.length : Int) (i : Int) true x.f0 x.f1 x.f2 x.f3 x.f4) else ((impl_listFault.f k (x.f3)).bind fun t186 => (if t186 = true then (impl_PolicyFault.j1 k l (l.length : Int) (i : Int) true x.f0 x.f1 x.f2 x.f3 x.f4) else (impl_PolicyFault.j1 k l (l.length : Int) (i : Int) (decide (((x.f4).length : Int) > 10)) x.f0 x.f1 x.f2 x.f3 x.f4)))))))) (if (stmtFine x && (l.drop (i + 1)).all stmtFine) = true then 0 else 1) := by
      intro h0
      refine Ev.bind (impl_list _ hsz.1.1 hsz.1.2) ?_
      by_cases h1 : listB x.f1 = true
      · refine Ev.neg (by rw [h1]; decide) (Ev.bind (impl_list _ hsz.2.1.1 hsz.2.1.2) ?_)
        by_cases h2 : listB x.f2 = true
        · refine Ev.neg (by rw [h2]; decide) (Ev.bind (impl_list _ hsz.2.2.1.1 hsz.2.2.1.2) ?_)
          by_cases h3 : listB x.f3 = true
          · refine Ev.neg (by rw [h3]; decide) ?_
            have e : stmtFine x = (x.f4.all condOk && !(decide ((x.f4.length : Int) > 10))) := by
              unfold stmtFine stmtOk; rw [decide_eq_true h0, h1, h2, h3]; simp
            by_cases h4 : (x.f4.length : Int) > 10
            · rw [decide_eq_true h4] at e ⊢
              exact T (by rw [e]; simp)
            · rw [decide_eq_false h4] at e ⊢
              rw [e]
              refine Ev.step (fun k => by rw [impl_PolicyFault.j1, if_neg (by decide)]) ?_
              have q := impl_policy_l1 l (l.length : Int) (i : Int) _ x.f4 hsz.2.2.2 (by rw [hw]; exact hn) x.f4.length 0 rfl (by omega)
              rw [List.drop_zero] at q
              refine Ev.congr (fun k => rfl) (cast (congrArg (Ev _) ?_) q)
              cases x.f4.all condOk <;> simp
          · rw [Bool.not_eq_true] at h3
            refine Ev.pos (by rw [h3]; rfl) (T ?_)
            unfold stmtFine stmtOk; rw [h3]; simp
        · rw [Bool.not_eq_true] at h2
          refine Ev.pos (by rw [h2]; rfl) (T ?_)
          unfold stmtFine stmtOk; rw [h2]; simp
      · rw [Bool.not_eq_true] at h1
        refine Ev.pos (by rw [h1]; rfl) (T ?_)
        unfold stmtFine stmtOk; rw [h1]; simp
    by_cases h1 : x.f0 = 1
    · exact Ev.pos h1 (E (Or.inl h1))
    · refine Ev.neg h1 ?_
      by_cases h2 : x.f0 = 2
      · exact Ev.pos h2 (E (Or.inr h2))
      · refine Ev.neg h2 (T ?_)
        unfold stmtFine stmtOk; rw [decide_eq_false (by omega)]; simp
theorem impl_policy (l : List S132) (hl : l.length ≤ 1048576) (hs : ∀ x ∈ l, okStmtI 1048576 x) : Ev (fun k => impl_PolicyFault.f k l) (policyFaultOf l) := by
  unfold policyFaultOf
  refine Ev.congr (fun k => by rw [impl_PolicyFault.f]) ?_
  by_cases h : (l.length : Int) > 50
  · rw [if_pos h]; exact Ev.pos h (Ev.now _)
  · rw [if_neg h]
    have := impl_policy_l0 l hl hs l.length 0 rfl (by omega)
    rw [List.drop_zero] at this
    exact Ev.neg h this

theorem FnExactPolicyFault : laws_FnExactPolicyFault.Wants := by
  intro l hg
  refine Ev.rounds (Ev.congr (fun k => by rw [laws_FnExactPolicyFault.f]) ?_)
  have hgs : ∀ x ∈ l, okStmt 9223372036854775807 x := fun x hx => by
    have g := hg.2 x hx
    exact ⟨⟨g.2.1.1, fun y hy => g.2.1.2 y hy⟩, ⟨g.2.2.1.1, fun y hy => g.2.2.1.2 y hy⟩, ⟨g.2.2.2.1.1, fun y hy => g.2.2.2.1.2 y hy⟩, ⟨g.2.2.2.2.1, fun y hy => (g.2.2.2.2.2 y hy).2.1⟩⟩
  obtain ⟨r, e, b⟩ := szStatementS l 1048576 hg.1 hgs (by omega) (by omega)
  refine Ev.bind e ?_
  by_cases hn : r < 0
  · exact Ev.pos hn (Ev.now _)
  · refine Ev.neg hn ?_
    have q := b (by omega)
    have hl := q.2.1
    have hs := q.2.2
    have hm : (l.map statementOf).length ≤ 1048576 := by simpa using hl
    have hms : ∀ x ∈ l.map statementOf, okStmtI 1048576 x := fun x hx => by obtain ⟨y, hy, rfl⟩ := List.mem_map.1 hx; exact okStmt_of _ _ (hs y hy)
    exact Ev.bind (toStatementS l hl hs) (Ev.bind (spec_policy _ hm hms) (Ev.bind (toStatementS l hl hs) (Ev.bind (impl_policy _ hm hms) (Ev.pos rfl (Ev.bind (toStatementS l hl hs) (Ev.bind (eqStatementS _ hm hms) (Ev.pos rfl (Ev.now _))))))))

end Go.Proofs.Ytflpkbegdmihdaa.Pure
