/- The statement FnExactWritePolicy over numbers and lists alone: the program's WritePolicy and the reference's write the same text, and the argument is as it was. No condition. -/
import Derived.Test.YtepnjhmdcaolkaaDoorQFnExactWritePolicyx11
import Derived.Laws.BitsAllLaws
import Derived.Laws.Bits64
import Derived.Test.YtepnjhmdcaolkaaDoorGoodFnExactWritePolicy
import Derived.Lib.Join
import Derived.Lib.LaidTab
import Derived.Lib.ItoaNum
set_option linter.all false
namespace Go.Proofs.YtepnjhmdcaolkaaDoor.Pure
open Go.RowKit Go.Proofs.YtepnjhmdcaolkaaDoor.QFnExactWritePolicy Go.Proofs.YtepnjhmdcaolkaaDoorW.PrintWords Go.Proofs.YtepnjhmdcaolkaaDoorW.PrintLast Go.Proofs.YtepnjhmdcaolkaaDoorW.PrintMore

/-! Small lemmas on wraps, rounds and lists. -/
theorem wrap64_id {x : Int} (h0 : -9223372036854775808 ≤ x) (h1 : x < 9223372036854775808) : wrap64 x = x := by unfold wrap64; omega
theorem u64_id {x : Int} (h0 : 0 ≤ x) (h1 : x < 18446744073709551616) : IntKind.u64.wrap x = x := by rw [IntKind.wrap_u64]; omega
theorem Ev.pos {α : Type} {c : Prop} [Decidable c] {f g : Nat → Option α} {r : α} (h : c) (e : Ev f r) : Ev (fun k => if c then f k else g k) r := by simpa [h] using e
theorem Ev.neg {α : Type} {c : Prop} [Decidable c] {f g : Nat → Option α} {r : α} (h : ¬ c) (e : Ev g r) : Ev (fun k => if c then f k else g k) r := by simpa [h] using e
theorem Ev.bindS {α β : Type} {g : Option α} {f : Nat → α → Option β} {a : α} {r : β} (h : g = some a) (e : Ev (fun k => f k a) r) : Ev (fun k => g.bind (f k)) r := by subst h; simpa using e
theorem Ev.give {α : Type} {r s : α} (h : s = r) : Ev (fun _ => some s) r := by subst h; exact Ev.now _
theorem bt_drop (s : ByteArray) (i : Nat) (h : i < s.size) : ∃ c : UInt8, s.data.toList.drop i = c :: s.data.toList.drop (i + 1) ∧ bt s (i : Int) = (c.toNat : Int) := by
  have hl : i < s.data.toList.length := by simpa using h
  refine ⟨s.data.toList[i], List.drop_eq_getElem_cons hl, ?_⟩
  unfold bt
  rw [dif_pos (by simpa using h)]
  simp [ByteArray.getElem_eq_getElem_data]
theorem drop_end (s : ByteArray) (i : Nat) (h : s.size ≤ i) : s.data.toList.drop i = [] := List.drop_eq_nil_of_le (by simpa using h)
theorem size_strOfNums (l : List Int) : (strOfNums l).size = l.length := by
  show (strOfNums l).data.size = l.length
  simp [strOfNums]
theorem i64_range {n : Int} (h : (Lit.int .i64 n).wf = true) : -9223372036854775808 ≤ n ∧ n < 9223372036854775808 := by
  simp only [Lit.wf, IntKind.min, IntKind.max, IntKind.signed, IntKind.bits, Bool.and_eq_true, decide_eq_true_eq, if_true] at h; omega
theorem byte_eq_int (c d : UInt8) : ((c.toNat : Int) = (d.toNat : Int)) ↔ c = d := by
  constructor
  · intro h; exact UInt8.toNat_inj.1 (by omega)
  · rintro rfl; rfl
theorem byte_eq_lit (c : UInt8) (n : Nat) (hn : n < 256) : ((c.toNat : Int) = (n : Int)) ↔ c = UInt8.ofNat n := by
  rw [← byte_eq_int]
  have : (UInt8.ofNat n).toNat = n := by simp [UInt8.toNat_ofNat']; omega
  rw [this]
theorem bt_get (s : ByteArray) (i : Nat) (h : i < s.size) : ∃ c : UInt8, s.data.toList[i]? = some c ∧ bt s (i : Int) = (c.toNat : Int) := by
  obtain ⟨c, e, hb⟩ := bt_drop s i h
  refine ⟨c, ?_, hb⟩
  have : (s.data.toList.drop i)[0]? = some c := by rw [e]; rfl
  simpa using this

theorem set_prefix {α β : Type} (f : α → β) (z : β) (l : List α) (i : Nat) (h : i < l.length) (x : α) (hx : l[i]? = some x) :
    ((l.take i).map f ++ List.replicate (l.length - i) z).set i (f x) = (l.take (i + 1)).map f ++ List.replicate (l.length - (i + 1)) z := by
  have h1 : ((l.take i).map f).length = i := by simp; omega
  rw [List.set_append_right _ _ (by omega), h1, Nat.sub_self]
  have h2 : List.replicate (l.length - i) z = z :: List.replicate (l.length - (i + 1)) z := by
    rw [show l.length - i = (l.length - (i + 1)) + 1 by omega]; rfl
  rw [h2, List.set_cons_zero, List.take_add_one, hx, List.map_append]
  simp

/-! A law's copies of a list of strings: sizes, copies, comparisons. -/
theorem rds_at (l : List ByteArray) (i : Nat) (h : i < l.length) : rdOf ByteArray.empty l (i : Int) = l[i] := by
  unfold rdOf; rw [Int.toNat_natCast, List.getD_eq_getElem?_getD, List.getElem?_eq_getElem h]; rfl
theorem szStringS_l0 (l : List ByteArray) (hl : l.length ≤ 1048576) (hg : ∀ x ∈ l, x.size ≤ 9223372036854775807) : ∀ (d i : Nat) (left : Int), 0 ≤ left → left ≤ 1048576 → l.length - i = d → i ≤ l.length →
    ∃ r, Ev (fun k => laws_szStringS.l0 k l left (i : Int)) r ∧ (0 ≤ r → r ≤ left ∧ ∀ x ∈ l.drop i, x.size ≤ 1048576) := by
  intro d
  induction d with
  | zero =>
    intro i left h0 h1 hd hi
    exact ⟨left, Ev.step (fun k => by rw [laws_szStringS.l0, if_neg (by omega)]) (Ev.now _), fun _ => ⟨by omega, by rw [List.drop_eq_nil_of_le (by omega)]; simp⟩⟩
  | succ d ih =>
    intro i left h0 h1 hd hi
    have hlt : i < l.length := by omega
    have hr := rds_at l i hlt
    have hw : wrap64 ((i : Int) + 1) = ((i + 1 : Nat) : Int) := by rw [wrap64_id (by omega) (by omega)]; rfl
    have g := hg l[i] (List.getElem_mem hlt)
    have hv : wrap64 (left - (l[i].size : Int)) = left - (l[i].size : Int) := wrap64_id (by omega) (by omega)
    by_cases hn : left - (l[i].size : Int) < 0
    · refine ⟨-1, Ev.step (fun k => by rw [laws_szStringS.l0, if_pos (by omega), if_pos (by omega), hr, hv, if_pos hn]) (Ev.now _), fun h => by omega⟩
    · obtain ⟨r2, e2, b2⟩ := ih (i + 1) (left - (l[i].size : Int)) (by omega) (by omega) (by omega) (by omega)
      refine ⟨r2, Ev.step (fun k => by rw [laws_szStringS.l0, if_pos (by omega), if_pos (by omega), hr, hv, if_neg hn, hw]) e2, fun h => ?_⟩
      have q2 := b2 h
      refine ⟨by omega, fun x hx => ?_⟩
      rw [List.drop_eq_getElem_cons hlt, List.mem_cons] at hx
      rcases hx with rfl | hx
      · omega
      · exact q2.2 x hx
theorem szStringS (l : List ByteArray) (left : Int) (hl : l.length ≤ 9223372036854775807) (hg : ∀ x ∈ l, x.size ≤ 9223372036854775807) (h0 : 0 ≤ left) (h1 : left ≤ 1048576) :
    ∃ r, Ev (fun k => laws_szStringS.f k l left) r ∧ (0 ≤ r → r ≤ left ∧ l.length ≤ 1048576 ∧ ∀ x ∈ l, x.size ≤ 1048576) := by
  have hw : wrap64 (left - (l.length : Int)) = left - (l.length : Int) := wrap64_id (by omega) (by omega)
  by_cases hn : left - (l.length : Int) < 0
  · exact ⟨-1, Ev.congr (fun k => by rw [laws_szStringS.f, hw, if_pos hn]) (Ev.now _), fun h => by omega⟩
  · obtain ⟨r, e, b⟩ := szStringS_l0 l (by omega) hg l.length 0 (left - (l.length : Int)) (by omega) (by omega) rfl (by omega)
    refine ⟨r, Ev.congr (fun k => by rw [laws_szStringS.f, hw, if_neg hn]; rfl) e, fun h => ?_⟩
    have q := b h
    exact ⟨by omega, by omega, by simpa using q.2⟩
theorem toStringS_l0 (l : List ByteArray) (hl : l.length ≤ 1048576) : ∀ (d i : Nat), l.length - i = d → i ≤ l.length →
    Ev (fun k => laws_toStringS.l0 k l ((l.take i).map id ++ List.replicate (l.length - i) (⟨#[]⟩ : ByteArray)) (i : Int)) (l.map id) := by
  intro d
  induction d with
  | zero =>
    intro i hd hi
    have : i = l.length := by omega
    subst this
    refine Ev.step (fun k => by rw [laws_toStringS.l0, if_neg (by omega)]) (Ev.give ?_)
    simp
  | succ d ih =>
    intro i hd hi
    have hlt : i < l.length := by omega
    have hx : l[i]? = some l[i] := List.getElem?_eq_getElem hlt
    have hr := rds_at l i hlt
    have hw : wrap64 ((i : Int) + 1) = ((i + 1 : Nat) : Int) := by rw [wrap64_id (by omega) (by omega)]; rfl
    have hs := set_prefix id (⟨#[]⟩ : ByteArray) l i hlt l[i] hx
    refine Ev.step (fun k => by rw [laws_toStringS.l0, if_pos (by omega), if_pos (by omega), hr, if_pos (by simp; omega), Int.toNat_natCast, hw, show l[i] = id l[i] from rfl, hs]) ?_
    exact ih (i + 1) (by omega) (by omega)
theorem toStringS (l : List ByteArray) (hl : l.length ≤ 1048576) : Ev (fun k => laws_toStringS.f k l) l := by
  refine Ev.congr (fun k => by rw [laws_toStringS.f, if_pos (by omega), if_pos (by omega), Int.toNat_natCast]) ?_
  have := toStringS_l0 l hl l.length 0 rfl (by omega)
  rw [List.map_id] at this
  simpa using this
theorem eqStringS_l0 (l : List ByteArray) (hl : l.length ≤ 1048576) : ∀ (d i : Nat), l.length - i = d → i ≤ l.length → Ev (fun k => laws_eqStringS.l0 k l l (i : Int)) true := by
  intro d
  induction d with
  | zero =>
    intro i hd hi
    exact Ev.step (fun k => by rw [laws_eqStringS.l0, if_neg (by omega)]) (Ev.now _)
  | succ d ih =>
    intro i hd hi
    have hw : wrap64 ((i : Int) + 1) = ((i + 1 : Nat) : Int) := by rw [wrap64_id (by omega) (by omega)]; rfl
    refine Ev.step (fun k => by rw [laws_eqStringS.l0, if_pos (by omega), if_pos (by omega), if_pos (by omega), if_pos rfl, hw]) ?_
    exact ih (i + 1) (by omega) (by omega)
theorem eqStringS (l : List ByteArray) (hl : l.length ≤ 1048576) : Ev (fun k => laws_eqStringS.f k l l) true := by
  refine Ev.congr (fun k => by rw [laws_eqStringS.f, if_pos rfl]) ?_
  exact eqStringS_l0 l hl l.length 0 rfl (by omega)

/-! A law's copies of a list of Condition: sizes, copies, comparisons. -/
def conditionOf (x : S102) : S61 := ⟨x.f0, x.f1, x.f2⟩
theorem rdl_Condition (l : List S102) (i : Nat) (h : i < l.length) : rd_T102 l (i : Int) = l[i] := by
  unfold rd_T102; rw [Int.toNat_natCast, List.getD_eq_getElem?_getD, List.getElem?_eq_getElem h]; rfl
theorem rdi_Condition (l : List S61) (i : Nat) (h : i < l.length) : rd_T61 l (i : Int) = l[i] := by
  unfold rd_T61; rw [Int.toNat_natCast, List.getD_eq_getElem?_getD, List.getElem?_eq_getElem h]; rfl
theorem sz_Condition (x : S102) (left : Int) (h0 : 0 ≤ left) (h1 : left ≤ 1048576) (g1 : x.f1.size ≤ 9223372036854775807) : ∃ r, laws_szCondition.f x.f0 x.f1 x.f2 left = some r ∧ (0 ≤ r → r ≤ left ∧ x.f1.size ≤ 1048576) := by
  unfold laws_szCondition.f
  rw [(wrap64_id (x := left - (x.f1.size : Int)) (by omega) (by omega))]
  by_cases c0 : left - (x.f1.size : Int) < 0
  · rw [if_pos c0]; exact ⟨_, rfl, fun h => by omega⟩
  · rw [if_neg c0]
    exact ⟨_, rfl, fun h => by omega⟩
theorem toConditionS_l0 (l : List S102) (hl : l.length ≤ 1048576) : ∀ (d i : Nat), l.length - i = d → i ≤ l.length →
    Ev (fun k => laws_toConditionS.l0 k l ((l.take i).map conditionOf ++ List.replicate (l.length - i) z61) (i : Int)) (l.map conditionOf) := by
  intro d
  induction d with
  | zero =>
    intro i hd hi
    have : i = l.length := by omega
    subst this
    refine Ev.step (fun k => by rw [laws_toConditionS.l0, if_neg (by omega)]) (Ev.give ?_)
    simp
  | succ d ih =>
    intro i hd hi
    have hlt : i < l.length := by omega
    have hx : l[i]? = some l[i] := List.getElem?_eq_getElem hlt
    have hr := rdl_Condition l i hlt
    have hw : wrap64 ((i : Int) + 1) = ((i + 1 : Nat) : Int) := by rw [wrap64_id (by omega) (by omega)]; rfl
    have hs := set_prefix conditionOf z61 l i hlt l[i] hx
    refine Ev.step (fun k => by rw [laws_toConditionS.l0, if_pos (by omega), if_pos (by omega), hr, show laws_toCondition.f l[i].f0 l[i].f1 l[i].f2 = some (l[i].f0, l[i].f1, l[i].f2) from rfl, Option.bind_some, if_pos (by simp; omega), Int.toNat_natCast, hw, show (⟨(l[i].f0, l[i].f1, l[i].f2).1, (l[i].f0, l[i].f1, l[i].f2).2.1, (l[i].f0, l[i].f1, l[i].f2).2.2⟩ : S61) = conditionOf l[i] from rfl, hs]) ?_
    exact ih (i + 1) (by omega) (by omega)
theorem toConditionS (l : List S102) (hl : l.length ≤ 1048576) : Ev (fun k => laws_toConditionS.f k l) (l.map conditionOf) := by
  refine Ev.congr (fun k => by rw [laws_toConditionS.f, if_pos (by omega), if_pos (by omega), Int.toNat_natCast]) ?_
  have := toConditionS_l0 l hl l.length 0 rfl (by omega)
  simpa using this
theorem eqCondition_self (a0 : Int) (a1 : ByteArray) (a2 : Int) : laws_eqCondition.f a0 a1 a2 a0 a1 a2 = some true := by unfold laws_eqCondition.f; simp
theorem eqConditionS_l0 (l : List S61) (hl : l.length ≤ 1048576) : ∀ (d i : Nat), l.length - i = d → i ≤ l.length → Ev (fun k => laws_eqConditionS.l0 k l l (i : Int)) true := by
  intro d
  induction d with
  | zero =>
    intro i hd hi
    exact Ev.step (fun k => by rw [laws_eqConditionS.l0, if_neg (by omega)]) (Ev.now _)
  | succ d ih =>
    intro i hd hi
    have hw : wrap64 ((i : Int) + 1) = ((i + 1 : Nat) : Int) := by rw [wrap64_id (by omega) (by omega)]; rfl
    refine Ev.step (fun k => by rw [laws_eqConditionS.l0, if_pos (by omega), if_pos (by omega), if_pos (by omega), eqCondition_self, Option.bind_some, if_pos rfl, hw]) ?_
    exact ih (i + 1) (by omega) (by omega)
theorem eqConditionS (l : List S61) (hl : l.length ≤ 1048576) : Ev (fun k => laws_eqConditionS.f k l l) true := by
  refine Ev.congr (fun k => by rw [laws_eqConditionS.f, if_pos rfl]) ?_
  exact eqConditionS_l0 l hl l.length 0 rfl (by omega)
theorem szConditionS_l0 (l : List S102) (hl : l.length ≤ 1048576) (hg : ∀ x ∈ l, x.f1.size ≤ 9223372036854775807) : ∀ (d i : Nat) (left : Int), 0 ≤ left → left ≤ 1048576 → l.length - i = d → i ≤ l.length →
    ∃ r, Ev (fun k => laws_szConditionS.l0 k l left (i : Int)) r ∧ (0 ≤ r → r ≤ left ∧ ∀ x ∈ l.drop i, x.f1.size ≤ 1048576) := by
  intro d
  induction d with
  | zero =>
    intro i left h0 h1 hd hi
    exact ⟨left, Ev.step (fun k => by rw [laws_szConditionS.l0, if_neg (by omega)]) (Ev.now _), fun _ => ⟨by omega, by rw [List.drop_eq_nil_of_le (by omega)]; simp⟩⟩
  | succ d ih =>
    intro i left h0 h1 hd hi
    have hlt : i < l.length := by omega
    have hr := rdl_Condition l i hlt
    have hw : wrap64 ((i : Int) + 1) = ((i + 1 : Nat) : Int) := by rw [wrap64_id (by omega) (by omega)]; rfl
    have g := hg l[i] (List.getElem_mem hlt)
    obtain ⟨r1, e1, b1⟩ := sz_Condition l[i] left h0 h1 g
    by_cases hn : r1 < 0
    · refine ⟨-1, Ev.step (fun k => by rw [laws_szConditionS.l0, if_pos (by omega), if_pos (by omega), hr, e1, Option.bind_some, if_pos hn]) (Ev.now _), fun h => by omega⟩
    · obtain ⟨r2, e2, b2⟩ := ih (i + 1) r1 (by omega) (by have := b1 (by omega); omega) (by omega) (by omega)
      refine ⟨r2, Ev.step (fun k => by rw [laws_szConditionS.l0, if_pos (by omega), if_pos (by omega), hr, e1, Option.bind_some, if_neg hn, hw]) e2, fun h => ?_⟩
      have q1 := b1 (by omega)
      have q2 := b2 h
      refine ⟨by omega, fun x hx => ?_⟩
      rw [List.drop_eq_getElem_cons hlt, List.mem_cons] at hx
      rcases hx with rfl | hx
      · exact q1.2
      · exact q2.2 x hx
theorem szConditionS (l : List S102) (left : Int) (hl : l.length ≤ 9223372036854775807) (hg : ∀ x ∈ l, x.f1.size ≤ 9223372036854775807) (h0 : 0 ≤ left) (h1 : left ≤ 1048576) :
    ∃ r, Ev (fun k => laws_szConditionS.f k l left) r ∧ (0 ≤ r → r ≤ left ∧ l.length ≤ 1048576 ∧ ∀ x ∈ l, x.f1.size ≤ 1048576) := by
  have hw : wrap64 (left - (l.length : Int)) = left - (l.length : Int) := wrap64_id (by omega) (by omega)
  by_cases hn : left - (l.length : Int) < 0
  · exact ⟨-1, Ev.congr (fun k => by rw [laws_szConditionS.f, hw, if_pos hn]) (Ev.now _), fun h => by omega⟩
  · obtain ⟨r, e, b⟩ := szConditionS_l0 l (by omega) hg l.length 0 (left - (l.length : Int)) (by omega) (by omega) rfl (by omega)
    refine ⟨r, Ev.congr (fun k => by rw [laws_szConditionS.f, hw, if_neg hn]; rfl) e, fun h => ?_⟩
    have q := b h
    exact ⟨by omega, by omega, by simpa using q.2⟩

/-! A law's copies of a list of Statement: sizes, copies, comparisons. -/
def statementOf (x : S54) : S58 := ⟨x.f0, x.f1, x.f2, x.f3, x.f4.map conditionOf⟩
def okStrings (n : Nat) (l : List ByteArray) : Prop := l.length ≤ n ∧ ∀ x ∈ l, x.size ≤ n
def okConds (n : Nat) (l : List S102) : Prop := l.length ≤ n ∧ ∀ x ∈ l, x.f1.size ≤ n
def okCondsI (n : Nat) (l : List S61) : Prop := l.length ≤ n ∧ ∀ x ∈ l, x.f1.size ≤ n
def okStmt (n : Nat) (x : S54) : Prop := okStrings n x.f1 ∧ okStrings n x.f2 ∧ okStrings n x.f3 ∧ okConds n x.f4
def okStmtI (n : Nat) (x : S58) : Prop := okStrings n x.f1 ∧ okStrings n x.f2 ∧ okStrings n x.f3 ∧ okCondsI n x.f4
theorem okConds_of (n : Nat) (l : List S102) (h : okConds n l) : okCondsI n (l.map conditionOf) :=
  ⟨by simpa using h.1, fun x hx => by obtain ⟨y, hy, rfl⟩ := List.mem_map.1 hx; exact h.2 y hy⟩
theorem okStmt_of (n : Nat) (x : S54) (h : okStmt n x) : okStmtI n (statementOf x) := ⟨h.1, h.2.1, h.2.2.1, okConds_of n _ h.2.2.2⟩
theorem rdl_Statement (l : List S54) (i : Nat) (h : i < l.length) : rd_T54 l (i : Int) = l[i] := by
  unfold rd_T54; rw [Int.toNat_natCast, List.getD_eq_getElem?_getD, List.getElem?_eq_getElem h]; rfl
theorem rdi_Statement (l : List S58) (i : Nat) (h : i < l.length) : rd_T58 l (i : Int) = l[i] := by
  unfold rd_T58; rw [Int.toNat_natCast, List.getD_eq_getElem?_getD, List.getElem?_eq_getElem h]; rfl
theorem sz_Statement (x : S54) (left : Int) (h0 : 0 ≤ left) (h1 : left ≤ 1048576) (g : okStmt 9223372036854775807 x) :
    ∃ r, Ev (fun k => laws_szStatement.f k x.f0 x.f1 x.f2 x.f3 x.f4 left) r ∧ (0 ≤ r → r ≤ left ∧ okStmt 1048576 x) := by
  obtain ⟨r1, e1, b1⟩ := szStringS x.f1 left g.1.1 g.1.2 h0 h1
  by_cases n1 : r1 < 0
  · exact ⟨-1, Ev.congr (fun k => by rw [laws_szStatement.f]) (Ev.bind e1 (Ev.pos n1 (Ev.now _))), fun h => by omega⟩
  · have q1 := b1 (by omega)
    obtain ⟨r2, e2, b2⟩ := szStringS x.f2 r1 g.2.1.1 g.2.1.2 (by omega) (by omega)
    by_cases n2 : r2 < 0
    · exact ⟨-1, Ev.congr (fun k => by rw [laws_szStatement.f]) (Ev.bind e1 (Ev.neg n1 (Ev.bind e2 (Ev.pos n2 (Ev.now _))))), fun h => by omega⟩
    · have q2 := b2 (by omega)
      obtain ⟨r3, e3, b3⟩ := szStringS x.f3 r2 g.2.2.1.1 g.2.2.1.2 (by omega) (by omega)
      by_cases n3 : r3 < 0
      · exact ⟨-1, Ev.congr (fun k => by rw [laws_szStatement.f]) (Ev.bind e1 (Ev.neg n1 (Ev.bind e2 (Ev.neg n2 (Ev.bind e3 (Ev.pos n3 (Ev.now _))))))), fun h => by omega⟩
      · have q3 := b3 (by omega)
        obtain ⟨r4, e4, b4⟩ := szConditionS x.f4 r3 g.2.2.2.1 g.2.2.2.2 (by omega) (by omega)
        by_cases n4 : r4 < 0
        · exact ⟨-1, Ev.congr (fun k => by rw [laws_szStatement.f]) (Ev.bind e1 (Ev.neg n1 (Ev.bind e2 (Ev.neg n2 (Ev.bind e3 (Ev.neg n3 (Ev.bind e4 (Ev.pos n4 (Ev.now _))))))))), fun h => by omega⟩
        · have q4 := b4 (by omega)
          exact ⟨r4, Ev.congr (fun k => by rw [laws_szStatement.f]) (Ev.bind e1 (Ev.neg n1 (Ev.bind e2 (Ev.neg n2 (Ev.bind e3 (Ev.neg n3 (Ev.bind e4 (Ev.neg n4 (Ev.now _))))))))), fun h => ⟨by omega, ⟨q1.2.1, q1.2.2⟩, ⟨q2.2.1, q2.2.2⟩, ⟨q3.2.1, q3.2.2⟩, ⟨q4.2.1, q4.2.2⟩⟩⟩
theorem to_Statement (x : S54) (g : okStmt 1048576 x) : Ev (fun k => laws_toStatement.f k x.f0 x.f1 x.f2 x.f3 x.f4) (x.f0, x.f1, x.f2, x.f3, x.f4.map conditionOf) :=
  by
  refine Ev.congr (fun k => by rw [laws_toStatement.f]) (Ev.bind (toStringS _ g.1.1) (Ev.bind (toStringS _ g.2.1.1) (Ev.bind (toStringS _ g.2.2.1.1) (Ev.bind (toConditionS _ g.2.2.2.1) ?_))))
  exact Ev.now _
theorem eq_Statement (x : S58) (g : okStmtI 1048576 x) : Ev (fun k => laws_eqStatement.f k x.f0 x.f1 x.f2 x.f3 x.f4 x.f0 x.f1 x.f2 x.f3 x.f4) true :=
  Ev.congr (fun k => by rw [laws_eqStatement.f]) (Ev.pos rfl (Ev.bind (eqStringS _ g.1.1) (Ev.pos rfl (Ev.bind (eqStringS _ g.2.1.1) (Ev.pos rfl (Ev.bind (eqStringS _ g.2.2.1.1) (Ev.pos rfl (Ev.bind (eqConditionS _ g.2.2.2.1) (Ev.pos rfl (Ev.now _))))))))))
theorem toStatementS_l0 (l : List S54) (hl : l.length ≤ 1048576) (hg : ∀ x ∈ l, okStmt 1048576 x) : ∀ (d i : Nat), l.length - i = d → i ≤ l.length →
    Ev (fun k => laws_toStatementS.l0 k l ((l.take i).map statementOf ++ List.replicate (l.length - i) z58) (i : Int)) (l.map statementOf) := by
  intro d
  induction d with
  | zero =>
    intro i hd hi
    have : i = l.length := by omega
    subst this
    refine Ev.step (fun k => by rw [laws_toStatementS.l0, if_neg (by omega)]) (Ev.give ?_)
    simp
  | succ d ih =>
    intro i hd hi
    have hlt : i < l.length := by omega
    have hx : l[i]? = some l[i] := List.getElem?_eq_getElem hlt
    have hr := rdl_Statement l i hlt
    have hw : wrap64 ((i : Int) + 1) = ((i + 1 : Nat) : Int) := by rw [wrap64_id (by omega) (by omega)]; rfl
    have hs := set_prefix statementOf z58 l i hlt l[i] hx
    refine Ev.step (fun k => by rw [laws_toStatementS.l0, if_pos (by omega), if_pos (by omega), hr]) ?_
    refine Ev.bind (to_Statement l[i] (hg _ (List.getElem_mem hlt))) (Ev.congr (fun k => by rw [if_pos (by simp; omega), Int.toNat_natCast, hw]) ?_)
    have e : (⟨l[i].f0, l[i].f1, l[i].f2, l[i].f3, l[i].f4.map conditionOf⟩ : S58) = statementOf l[i] := rfl
    have q := ih (i + 1) (by omega) (by omega)
    rw [← hs] at q
    exact q
theorem toStatementS (l : List S54) (hl : l.length ≤ 1048576) (hg : ∀ x ∈ l, okStmt 1048576 x) : Ev (fun k => laws_toStatementS.f k l) (l.map statementOf) := by
  refine Ev.congr (fun k => by rw [laws_toStatementS.f, if_pos (by omega), if_pos (by omega), Int.toNat_natCast]) ?_
  have := toStatementS_l0 l hl hg l.length 0 rfl (by omega)
  simpa using this
theorem eqStatementS_l0 (l : List S58) (hl : l.length ≤ 1048576) (hg : ∀ x ∈ l, okStmtI 1048576 x) : ∀ (d i : Nat), l.length - i = d → i ≤ l.length → Ev (fun k => laws_eqStatementS.l0 k l l (i : Int)) true := by
  intro d
  induction d with
  | zero =>
    intro i hd hi
    exact Ev.step (fun k => by rw [laws_eqStatementS.l0, if_neg (by omega)]) (Ev.now _)
  | succ d ih =>
    intro i hd hi
    have hlt : i < l.length := by omega
    have hr := rdi_Statement l i hlt
    have hw : wrap64 ((i : Int) + 1) = ((i + 1 : Nat) : Int) := by rw [wrap64_id (by omega) (by omega)]; rfl
    refine Ev.step (fun k => by rw [laws_eqStatementS.l0, if_pos (by omega), if_pos (by omega), if_pos (by omega), hr, hw]) ?_
    exact Ev.bind (eq_Statement l[i] (hg _ (List.getElem_mem hlt))) (Ev.pos rfl (ih (i + 1) (by omega) (by omega)))
theorem eqStatementS (l : List S58) (hl : l.length ≤ 1048576) (hg : ∀ x ∈ l, okStmtI 1048576 x) : Ev (fun k => laws_eqStatementS.f k l l) true := by
  refine Ev.congr (fun k => by rw [laws_eqStatementS.f, if_pos rfl]) ?_
  exact eqStatementS_l0 l hl hg l.length 0 rfl (by omega)
theorem szStatementS_l0 (l : List S54) (hl : l.length ≤ 1048576) (hg : ∀ x ∈ l, okStmt 9223372036854775807 x) : ∀ (d i : Nat) (left : Int), 0 ≤ left → left ≤ 1048576 → l.length - i = d → i ≤ l.length →
    ∃ r, Ev (fun k => laws_szStatementS.l0 k l left (i : Int)) r ∧ (0 ≤ r → r ≤ left ∧ ∀ x ∈ l.drop i, okStmt 1048576 x) := by
  intro d
  induction d with
  | zero =>
    intro i left h0 h1 hd hi
    exact ⟨left, Ev.step (fun k => by rw [laws_szStatementS.l0, if_neg (by omega)]) (Ev.now _), fun _ => ⟨by omega, by rw [List.drop_eq_nil_of_le (by omega)]; simp⟩⟩
  | succ d ih =>
    intro i left h0 h1 hd hi
    have hlt : i < l.length := by omega
    have hr := rdl_Statement l i hlt
    have hw : wrap64 ((i : Int) + 1) = ((i + 1 : Nat) : Int) := by rw [wrap64_id (by omega) (by omega)]; rfl
    obtain ⟨r1, e1, b1⟩ := sz_Statement l[i] left h0 h1 (hg l[i] (List.getElem_mem hlt))
    by_cases hn : r1 < 0
    · refine ⟨-1, Ev.step (fun k => by rw [laws_szStatementS.l0, if_pos (by omega), if_pos (by omega), hr]) (Ev.bind e1 (Ev.pos hn (Ev.now _))), fun h => by omega⟩
    · have q1 := b1 (by omega)
      obtain ⟨r2, e2, b2⟩ := ih (i + 1) r1 (by omega) (by omega) (by omega) (by omega)
      refine ⟨r2, Ev.step (fun k => by rw [laws_szStatementS.l0, if_pos (by omega), if_pos (by omega), hr, hw]) (Ev.bind e1 (Ev.neg hn e2)), fun h => ?_⟩
      have q2 := b2 h
      refine ⟨by omega, fun x hx => ?_⟩
      rw [List.drop_eq_getElem_cons hlt, List.mem_cons] at hx
      rcases hx with rfl | hx
      · exact q1.2
      · exact q2.2 x hx
theorem szStatementS (l : List S54) (left : Int) (hl : l.length ≤ 9223372036854775807) (hg : ∀ x ∈ l, okStmt 9223372036854775807 x) (h0 : 0 ≤ left) (h1 : left ≤ 1048576) :
    ∃ r, Ev (fun k => laws_szStatementS.f k l left) r ∧ (0 ≤ r → r ≤ left ∧ l.length ≤ 1048576 ∧ ∀ x ∈ l, okStmt 1048576 x) := by
  have hw : wrap64 (left - (l.length : Int)) = left - (l.length : Int) := wrap64_id (by omega) (by omega)
  by_cases hn : left - (l.length : Int) < 0
  · exact ⟨-1, Ev.congr (fun k => by rw [laws_szStatementS.f, hw, if_pos hn]) (Ev.now _), fun h => by omega⟩
  · obtain ⟨r, e, b⟩ := szStatementS_l0 l (by omega) hg l.length 0 (left - (l.length : Int)) (by omega) (by omega) rfl (by omega)
    refine ⟨r, Ev.congr (fun k => by rw [laws_szStatementS.f, hw, if_neg hn]; rfl) e, fun h => ?_⟩
    have q := b h
    exact ⟨by omega, by omega, by simpa using q.2⟩

/-! Words, lists of words, conditions, statements. -/
theorem rdOf_at (l : List ByteArray) (i : Nat) (h : i < l.length) : rdOf ByteArray.empty l (i : Int) = l[i] := by
  unfold rdOf; rw [Int.toNat_natCast, List.getD_eq_getElem?_getD, List.getElem?_eq_getElem h]; rfl
def okByte (c : UInt8) : Bool := !(decide ((c.toNat : Int) < 33)) && !(decide ((c.toNat : Int) > 126))
def wordL (l : List UInt8) : Bool := l.all okByte
def plainL (x : Nat) (l : List UInt8) : Bool := l.all fun c => okByte c && !(decide ((c.toNat : Int) = (x : Int)))
def sizeOk (s : ByteArray) : Bool := !(decide ((s.size : Int) < 1)) && !(decide ((s.size : Int) > 200))
def wordB (s : ByteArray) : Bool := sizeOk s && wordL s.data.toList
def plainB (x : Nat) (s : ByteArray) : Bool := sizeOk s && plainL x s.data.toList
theorem plain_l0 (s : ByteArray) (hs : s.size ≤ 1048576) (x : Nat) : ∀ (d i : Nat), s.size - i = d → i ≤ s.size → Ev (fun k => impl_plain.l0 k s (x : Int) (s.size : Int) (i : Int)) (plainL x (s.data.toList.drop i)) := by
  intro d
  induction d with
  | zero =>
    intro i hd hi
    rw [drop_end s i (by omega)]
    exact Ev.step (fun k => by rw [impl_plain.l0, if_neg (by omega)]; rfl) (Ev.now _)
  | succ d ih =>
    intro i hd hi
    obtain ⟨c, e, hb⟩ := bt_drop s i (by omega)
    have hw : wrap64 ((i : Int) + 1) = ((i + 1 : Nat) : Int) := by rw [wrap64_id (by omega) (by omega)]; rfl
    have hn := ih (i + 1) (by omega) (by omega)
    have c1 : (i : Int) < (s.size : Int) := by omega
    have c0 : (0 : Int) ≤ (i : Int) := by omega
    rw [e]
    refine Ev.step (fun k => by rw [impl_plain.l0, if_pos c1, if_pos c0, if_pos c1, hb, hw]) ?_
    unfold plainL okByte
    rw [List.all_cons]
    by_cases h1 : (c.toNat : Int) < 33
    · refine Ev.pos h1 (Ev.give ?_); rw [decide_eq_true h1]; rfl
    · refine Ev.neg h1 ?_
      rw [decide_eq_false h1]
      by_cases h2 : (c.toNat : Int) > 126
      · refine Ev.pos h2 (Ev.give ?_); rw [decide_eq_true h2]; rfl
      · refine Ev.neg h2 ?_
        rw [decide_eq_false h2]
        by_cases h3 : (c.toNat : Int) = (x : Int)
        · refine Ev.pos h3 (Ev.give ?_); rw [decide_eq_true h3]; rfl
        · refine Ev.neg h3 ?_
          rw [decide_eq_false h3]
          exact hn
theorem impl_plain_ev (s : ByteArray) (hs : s.size ≤ 1048576) (x : Nat) : Ev (fun k => impl_plain.f k s (x : Int)) (plainB x s) := by
  have out : Ev (fun k => impl_plain.j0 k s (x : Int) true) false := Ev.step (fun k => by rw [impl_plain.j0, if_pos rfl]) (Ev.now _)
  unfold plainB sizeOk
  refine Ev.congr (fun k => by rw [impl_plain.f]) ?_
  by_cases h1 : (s.size : Int) < 1
  · rw [decide_eq_true h1]; exact Ev.pos h1 out
  · refine Ev.neg h1 ?_
    rw [decide_eq_false h1]
    by_cases h2 : (s.size : Int) > 200
    · rw [decide_eq_true h2]; exact out
    · rw [decide_eq_false h2]
      have := plain_l0 s hs x s.size 0 (by omega) (by omega)
      rw [List.drop_zero] at this
      exact Ev.step (fun k => by rw [impl_plain.j0, if_neg (by decide)]; rfl) this
theorem word_l0 (s : ByteArray) (hs : s.size ≤ 1048576) : ∀ (d i : Nat), s.size - i = d → i ≤ s.size → Ev (fun k => spec_l09Word.l0 k s (i : Int)) (wordL (s.data.toList.drop i)) := by
  intro d
  induction d with
  | zero =>
    intro i hd hi
    rw [drop_end s i (by omega)]
    exact Ev.step (fun k => by rw [spec_l09Word.l0, if_neg (by omega)]; rfl) (Ev.now _)
  | succ d ih =>
    intro i hd hi
    obtain ⟨c, e, hb⟩ := bt_drop s i (by omega)
    have hw : wrap64 ((i : Int) + 1) = ((i + 1 : Nat) : Int) := by rw [wrap64_id (by omega) (by omega)]; rfl
    have hn := ih (i + 1) (by omega) (by omega)
    have c1 : (i : Int) < (s.size : Int) := by omega
    have c0 : (0 : Int) ≤ (i : Int) := by omega
    rw [e]
    refine Ev.step (fun k => by rw [spec_l09Word.l0, if_pos c1, if_pos c0, hb, hw]) ?_
    unfold wordL okByte
    rw [List.all_cons]
    by_cases h1 : (c.toNat : Int) < 33
    · refine Ev.pos h1 (Ev.give ?_); rw [decide_eq_true h1]; rfl
    · refine Ev.neg h1 ?_
      rw [decide_eq_false h1]
      by_cases h2 : (c.toNat : Int) > 126
      · refine Ev.pos h2 (Ev.give ?_); rw [decide_eq_true h2]; rfl
      · refine Ev.neg h2 ?_
        rw [decide_eq_false h2]
        exact hn
theorem spec_word_ev (s : ByteArray) (hs : s.size ≤ 1048576) : Ev (fun k => spec_l09Word.f k s) (wordB s) := by
  have out : Ev (fun k => spec_l09Word.j0 k s true) false := Ev.step (fun k => by rw [spec_l09Word.j0, if_pos rfl]) (Ev.now _)
  unfold wordB sizeOk
  refine Ev.congr (fun k => by rw [spec_l09Word.f]) ?_
  by_cases h1 : (s.size : Int) < 1
  · rw [decide_eq_true h1]; exact Ev.pos h1 out
  · refine Ev.neg h1 ?_
    rw [decide_eq_false h1]
    by_cases h2 : (s.size : Int) > 200
    · rw [decide_eq_true h2]; exact out
    · rw [decide_eq_false h2]
      have := word_l0 s hs s.size 0 (by omega) (by omega)
      rw [List.drop_zero] at this
      exact Ev.step (fun k => by rw [spec_l09Word.j0, if_neg (by decide)]; rfl) this
def commaL (l : List UInt8) : Bool := l.any fun c => c == 44
theorem extract_one (s : ByteArray) (i : Nat) (c : UInt8) (e : s.data.toList.drop i = c :: s.data.toList.drop (i + 1)) : (s.extract i (i + 1)).toList = [c] := by
  rw [ByteArray.toList_eq, ByteArray.data_extract, Array.toList_extract, List.extract_eq_take_drop, e, show i + 1 - i = 1 by omega]
  rfl
theorem index_l0 (s : ByteArray) (hs : s.size ≤ 1048576) : ∀ (d i : Nat), s.size - i = d → i ≤ s.size → ∃ r, Ev (fun k => spec_l01Index.l0 k s (⟨#[44]⟩ : ByteArray) (i : Int)) r ∧ decide (r ≥ 0) = commaL (s.data.toList.drop i) := by
  have z : ((⟨#[44]⟩ : ByteArray).size : Int) = 1 := rfl
  have z2 : (⟨#[44]⟩ : ByteArray).toList = [44] := by rw [ByteArray.toList_eq]
  intro d
  induction d with
  | zero =>
    intro i hd hi
    have hw : wrap64 ((i : Int) + 1) = ((i + 1 : Nat) : Int) := by rw [wrap64_id (by omega) (by omega)]; rfl
    rw [drop_end s i (by omega)]
    exact ⟨-1, Ev.step (fun k => by rw [spec_l01Index.l0, z, hw, if_neg (by omega)]) (Ev.now _), by decide⟩
  | succ d ih =>
    intro i hd hi
    obtain ⟨c, e, _⟩ := bt_drop s i (by omega)
    have hw : wrap64 ((i : Int) + 1) = ((i + 1 : Nat) : Int) := by rw [wrap64_id (by omega) (by omega)]; rfl
    obtain ⟨r, hE, hr⟩ := ih (i + 1) (by omega) (by omega)
    have ho := extract_one s i c e
    by_cases hc : c = 44
    · refine ⟨(i : Int), Ev.step (fun k => by rw [spec_l01Index.l0, z, hw, if_pos (by omega), if_pos (by omega), if_pos (by omega), Int.toNat_natCast, Int.toNat_natCast, ho, z2, hc, if_pos rfl]) (Ev.now _), ?_⟩
      rw [e, decide_eq_true (by omega), hc]; simp [commaL]
    · refine ⟨r, Ev.step (fun k => by rw [spec_l01Index.l0, z, hw, if_pos (by omega), if_pos (by omega), if_pos (by omega), Int.toNat_natCast, Int.toNat_natCast, ho, z2, if_neg (by simpa using hc)]) hE, ?_⟩
      rw [hr, e]
      have : (c == (44 : UInt8)) = false := by simpa using hc
      simp [commaL, this]
theorem plain_zero (s : ByteArray) : plainB 0 s = wordB s := by
  unfold plainB wordB
  congr 1
  unfold plainL wordL
  congr 1
  funext c
  unfold okByte
  by_cases h : (c.toNat : Int) < 33
  · rw [decide_eq_true h]; rfl
  · rw [decide_eq_false (show ¬ (c.toNat : Int) = ((0 : Nat) : Int) by omega)]; simp
theorem plain_comma (s : ByteArray) : plainB 44 s = (wordB s && !(commaL s.data.toList)) := by
  unfold plainB wordB
  rw [Bool.and_assoc]
  congr 1
  unfold plainL wordL commaL
  induction s.data.toList with
  | nil => rfl
  | cons c l ih =>
    rw [List.all_cons, List.all_cons, List.any_cons, ih]
    have h : decide ((c.toNat : Int) = ((44 : Nat) : Int)) = (c == 44) := by
      by_cases hc : c = 44
      · subst hc; decide
      · have h2 : ¬ (c.toNat : Int) = ((44 : Nat) : Int) := fun e => hc (UInt8.toNat_inj.1 (by simpa using (by omega : c.toNat = 44)))
        rw [decide_eq_false h2]
        exact (beq_eq_false_iff_ne.2 hc).symm
    rw [h]
    cases okByte c <;> cases (c == (44 : UInt8)) <;> simp
def listB (l : List ByteArray) : Bool := (!(decide ((l.length : Int) < 1)) && !(decide ((l.length : Int) > 20))) && l.all (plainB 44)
theorem spec_list_l0 (l : List ByteArray) (hl : l.length ≤ 1048576) (hs : ∀ s ∈ l, s.size ≤ 1048576) : ∀ (d i : Nat), l.length - i = d → i ≤ l.length → Ev (fun k => spec_l09List.l0 k l (i : Int)) ((l.drop i).all (plainB 44)) := by
  intro d
  induction d with
  | zero =>
    intro i hd hi
    rw [List.drop_eq_nil_of_le (by omega)]
    exact Ev.step (fun k => by rw [spec_l09List.l0, if_neg (by omega)]; rfl) (Ev.now _)
  | succ d ih =>
    intro i hd hi
    have hlt : i < l.length := by omega
    have hr := rdOf_at l i hlt
    have hw : wrap64 ((i : Int) + 1) = ((i + 1 : Nat) : Int) := by rw [wrap64_id (by omega) (by omega)]; rfl
    have hn := ih (i + 1) (by omega) (by omega)
    have hsz := hs _ (List.getElem_mem hlt)
    obtain ⟨r, hE, hr2⟩ := index_l0 l[i] hsz l[i].size 0 (by omega) (by omega)
    rw [List.drop_zero] at hr2
    rw [List.drop_eq_getElem_cons hlt, List.all_cons, plain_comma]
    refine Ev.step (fun k => by rw [spec_l09List.l0, if_pos (by omega), if_pos (by omega), hr, hw]) ?_
    refine Ev.bind (spec_word_ev _ hsz) ?_
    by_cases h1 : wordB l[i] = true
    · refine Ev.pos h1 (Ev.bind (Ev.congr (fun k => by rw [spec_l01Index.f]; rfl) hE) ?_)
      rw [h1, ← hr2]
      by_cases h2 : r ≥ 0
      · refine Ev.pos h2 (Ev.give ?_); rw [decide_eq_true h2]; rfl
      · refine Ev.neg h2 ?_
        rw [decide_eq_false h2]
        exact hn
    · refine Ev.neg h1 (Ev.give ?_)
      rw [Bool.not_eq_true] at h1
      rw [h1]; rfl
theorem spec_list (l : List ByteArray) (hl : l.length ≤ 1048576) (hs : ∀ s ∈ l, s.size ≤ 1048576) : Ev (fun k => spec_l09List.f k l) (listB l) := by
  have out : Ev (fun k => spec_l09List.j0 k l true) false := Ev.step (fun k => by rw [spec_l09List.j0, if_pos rfl]) (Ev.now _)
  unfold listB
  refine Ev.congr (fun k => by rw [spec_l09List.f]) ?_
  by_cases h1 : (l.length : Int) < 1
  · rw [decide_eq_true h1]; exact Ev.pos h1 out
  · refine Ev.neg h1 ?_
    rw [decide_eq_false h1]
    by_cases h2 : (l.length : Int) > 20
    · rw [decide_eq_true h2]; exact out
    · rw [decide_eq_false h2]
      have := spec_list_l0 l hl hs l.length 0 (by omega) (by omega)
      rw [List.drop_zero] at this
      exact Ev.step (fun k => by rw [spec_l09List.j0, if_neg (by decide)]; rfl) this
theorem impl_list_l0 (l : List ByteArray) (hl : l.length ≤ 1048576) (hs : ∀ s ∈ l, s.size ≤ 1048576) : ∀ (d i : Nat), l.length - i = d → i ≤ l.length → Ev (fun k => impl_listFault.l0 k l l (l.length : Int) (i : Int)) (!((!(decide ((l.length : Int) < 1)) && !(decide ((l.length : Int) > 20))) && (l.drop i).all (plainB 44))) := by
  intro d
  induction d with
  | zero =>
    intro i hd hi
    rw [List.drop_eq_nil_of_le (by omega)]
    refine Ev.step (fun k => by rw [impl_listFault.l0, if_neg (by omega)]) ?_
    by_cases h1 : (l.length : Int) < 1
    · refine Ev.pos h1 (Ev.give ?_); rw [decide_eq_true h1]; rfl
    · refine Ev.neg h1 (Ev.give ?_)
      rw [decide_eq_false h1]
      cases decide ((l.length : Int) > 20) <;> rfl
  | succ d ih =>
    intro i hd hi
    have hlt : i < l.length := by omega
    have hr := rdOf_at l i hlt
    have hw : wrap64 ((i : Int) + 1) = ((i + 1 : Nat) : Int) := by rw [wrap64_id (by omega) (by omega)]; rfl
    have hn := ih (i + 1) (by omega) (by omega)
    have hsz := hs _ (List.getElem_mem hlt)
    rw [List.drop_eq_getElem_cons hlt, List.all_cons]
    refine Ev.step (fun k => by rw [impl_listFault.l0, if_pos (by omega), if_pos (by omega), if_pos (by omega), hr, hw]) ?_
    refine Ev.bind (impl_plain_ev _ hsz 44) ?_
    by_cases h1 : plainB 44 l[i] = true
    · refine Ev.pos h1 ?_
      rw [h1, Bool.true_and]
      exact hn
    · refine Ev.neg h1 (Ev.give ?_)
      rw [Bool.not_eq_true] at h1
      rw [h1, Bool.false_and, Bool.and_false]; rfl
theorem impl_list (l : List ByteArray) (hl : l.length ≤ 1048576) (hs : ∀ s ∈ l, s.size ≤ 1048576) : Ev (fun k => impl_listFault.f k l) (!(listB l)) := by
  have := impl_list_l0 l hl hs l.length 0 (by omega) (by omega)
  rw [List.drop_zero] at this
  exact Ev.congr (fun k => by rw [impl_listFault.f]; rfl) this

/-! What is wrong with a policy, in plain words: both texts answer it. -/
def condOk (x : S61) : Bool :=
  if x.f0 = 1 ∨ x.f0 = 4 then (wordB x.f1 && decide (x.f2 = 0))
  else if x.f0 = 2 ∨ x.f0 = 3 then (decide (x.f1.toList = ([] : List UInt8)) && (!(decide (x.f2 < 0)) && !(decide (x.f2 > 4102444800))))
  else false
theorem impl_cond (x : S61) (hs : x.f1.size ≤ 1048576) : Ev (fun k => impl_conditionFault.f k x.f0 x.f1 x.f2) (!(condOk x)) := by
  refine Ev.congr (fun k => by rw [impl_conditionFault.f]) ?_
  unfold condOk
  by_cases h1 : x.f0 = 1 ∨ x.f0 = 4
  · rw [if_pos h1]
    refine Ev.pos h1 ?_
    by_cases h2 : x.f2 = 0
    · refine Ev.pos h2 (Ev.bind (impl_plain_ev _ hs 0) (Ev.give ?_))
      rw [decide_eq_true h2, Bool.and_true, plain_zero]
    · refine Ev.neg h2 (Ev.give ?_)
      rw [decide_eq_false h2, Bool.and_false]; rfl
  · rw [if_neg h1]
    refine Ev.neg h1 ?_
    by_cases h3 : x.f0 = 2 ∨ x.f0 = 3
    · refine Ev.pos h3 ?_
      rw [if_pos h3]
      by_cases h4 : x.f1.toList = ([] : List UInt8)
      · refine Ev.pos h4 ?_
        rw [decide_eq_true h4, Bool.true_and]
        by_cases h5 : x.f2 < 0
        · refine Ev.pos h5 (Ev.give ?_); rw [decide_eq_true h5]; rfl
        · refine Ev.neg h5 (Ev.give ?_)
          rw [decide_eq_false h5]
          cases decide (x.f2 > 4102444800) <;> rfl
      · refine Ev.neg h4 (Ev.give ?_)
        rw [decide_eq_false h4]; rfl
    · refine Ev.neg h3 (Ev.give ?_)
      rw [if_neg h3]; rfl
theorem spec_ifs_l0 (l : List S61) (hl : l.length ≤ 1048576) (hs : ∀ x ∈ l, x.f1.size ≤ 1048576) : ∀ (d i : Nat), l.length - i = d → i ≤ l.length → Ev (fun k => spec_l09Ifs.l0 k l (i : Int)) ((l.drop i).all condOk) := by
  intro d
  induction d with
  | zero =>
    intro i hd hi
    rw [List.drop_eq_nil_of_le (by omega)]
    exact Ev.step (fun k => by rw [spec_l09Ifs.l0, if_neg (by omega)]; rfl) (Ev.now _)
  | succ d ih =>
    intro i hd hi
    have hlt : i < l.length := by omega
    have hr := rdi_Condition l i hlt
    have hw : wrap64 ((i : Int) + 1) = ((i + 1 : Nat) : Int) := by rw [wrap64_id (by omega) (by omega)]; rfl
    have hn := ih (i + 1) (by omega) (by omega)
    have hsz := hs _ (List.getElem_mem hlt)
    rw [List.drop_eq_getElem_cons hlt, List.all_cons]
    generalize l[i] = x at hr hsz
    have c0 : (0 : Int) ≤ (i : Int) := by omega
    have c1 : (i : Int) < (l.length : Int) := by omega
    have E1 : ∀ (z : Int), (x.f0 = 1 ∨ x.f0 = 4) → Ev (fun k => spec_l09Ifs.j1 k l (i : Int) z true x.f0 x.f1 x.f2) (condOk x && (l.drop (i + 1)).all condOk) := by
      intro z h
      unfold condOk
      rw [if_pos h]
      refine Ev.step (fun k => by rw [spec_l09Ifs.j1, if_pos rfl, hw]) (Ev.bind (spec_word_ev _ hsz) ?_)
      by_cases h1 : wordB x.f1 = true
      · refine Ev.pos h1 ?_
        rw [h1, Bool.true_and]
        by_cases h2 : x.f2 = 0
        · refine Ev.pos h2 ?_; rw [decide_eq_true h2]; exact hn
        · refine Ev.neg h2 (Ev.give ?_); rw [decide_eq_false h2]; rfl
      · refine Ev.neg h1 (Ev.give ?_)
        rw [Bool.not_eq_true] at h1
        rw [h1]; rfl
    have E2 : ¬ (x.f0 = 1 ∨ x.f0 = 4) → (x.f0 = 2 ∨ x.f0 = 3) → Ev (fun k => spec_l09Ifs.j2 k l (i : Int) true x.f0 x.f1 x.f2) (condOk x && (l.drop (i + 1)).all condOk) := by
      intro h0 h
      unfold condOk
      rw [if_neg h0, if_pos h]
      refine Ev.step (fun k => by rw [spec_l09Ifs.j2, if_pos rfl, hw]) ?_
      by_cases h4 : x.f1.toList = ([] : List UInt8)
      · refine Ev.pos h4 ?_
        rw [decide_eq_true h4, Bool.true_and]
        by_cases h5 : x.f2 < 0
        · refine Ev.pos h5 (Ev.give ?_); rw [decide_eq_true h5]; rfl
        · refine Ev.neg h5 ?_
          rw [decide_eq_false h5]
          by_cases h6 : x.f2 > 4102444800
          · refine Ev.pos h6 (Ev.give ?_); rw [decide_eq_true h6]; rfl
          · refine Ev.neg h6 ?_; rw [decide_eq_false h6]; exact hn
      · refine Ev.neg h4 (Ev.give ?_)
        rw [decide_eq_false h4]; rfl
    have E3 : ¬ (x.f0 = 1 ∨ x.f0 = 4) → Ev (fun k => spec_l09Ifs.j1 k l (i : Int) x.f0 false x.f0 x.f1 x.f2) (condOk x && (l.drop (i + 1)).all condOk) := by
      intro h0
      refine Ev.step (fun k => by rw [spec_l09Ifs.j1, if_neg (by decide)]) ?_
      by_cases h2 : x.f0 = 2
      · have b : (x.f0 == 2) = true := by rw [h2]; rfl
        rw [b]
        exact Ev.pos h2 (E2 h0 (Or.inl h2))
      · refine Ev.neg h2 ?_
        by_cases h3 : x.f0 = 3
        · have b : (x.f0 == 3) = true := by rw [h3]; rfl
          rw [b]
          exact E2 h0 (Or.inr h3)
        · have b : (x.f0 == 3) = false := beq_eq_false_iff_ne.2 h3
          rw [b]
          refine Ev.step (fun k => by rw [spec_l09Ifs.j2, if_neg (by decide)]) (Ev.give ?_)
          unfold condOk
          rw [if_neg h0, if_neg (by omega)]; rfl
    refine Ev.step (fun k => by rw [spec_l09Ifs.l0, if_pos c1, if_pos c0, hr]) ?_
    by_cases h1 : x.f0 = 1
    · have b : (x.f0 == 1) = true := by rw [h1]; rfl
      rw [b]
      exact Ev.pos h1 (E1 _ (Or.inl h1))
    · refine Ev.neg h1 ?_
      by_cases h4 : x.f0 = 4
      · have b : (x.f0 == 4) = true := by rw [h4]; rfl
        rw [b]
        exact E1 _ (Or.inr h4)
      · have b : (x.f0 == 4) = false := beq_eq_false_iff_ne.2 h4
        rw [b]
        exact E3 (by omega)
theorem spec_ifs (l : List S61) (h : okCondsI 1048576 l) : Ev (fun k => spec_l09Ifs.f k l) (l.all condOk) := by
  have := spec_ifs_l0 l h.1 h.2 l.length 0 rfl (by omega)
  rw [List.drop_zero] at this
  exact Ev.congr (fun k => by rw [spec_l09Ifs.f]; rfl) this
def stmtOk (x : S58) : Bool := (decide (x.f0 = 1 ∨ x.f0 = 2) && (listB x.f1 && (listB x.f2 && listB x.f3))) && x.f4.all condOk
def stmtFine (x : S58) : Bool := stmtOk x && !(decide ((x.f4.length : Int) > 10))
theorem spec_right (x : S58) (h : okStmtI 1048576 x) : Ev (fun k => spec_l09Right.f k x.f0 x.f1 x.f2 x.f3 x.f4) (stmtOk x) := by
  have E : (x.f0 = 1 ∨ x.f0 = 2) → Ev (fun k => (spec_l09List.f k x.f1).bind fun t120 => (if t120 = true then ((spec_l09List.f k x.f2).bind fun t121 => (if t121 = true then ((spec_l09List.f k x.f3).bind fun t122 => (if t122 = true then ((spec_l09Ifs.f k x.f4).bind fun t123 => (some t123)) else (some false))) else (some false))) else (some false))) (stmtOk x) := by
    intro h0
    unfold stmtOk
    rw [decide_eq_true h0, Bool.true_and]
    refine Ev.bind (spec_list _ h.1.1 h.1.2) ?_
    by_cases h1 : listB x.f1 = true
    · refine Ev.pos h1 (Ev.bind (spec_list _ h.2.1.1 h.2.1.2) ?_)
      by_cases h2 : listB x.f2 = true
      · refine Ev.pos h2 (Ev.bind (spec_list _ h.2.2.1.1 h.2.2.1.2) ?_)
        by_cases h3 : listB x.f3 = true
        · refine Ev.pos h3 (Ev.bind (spec_ifs _ h.2.2.2) (Ev.give ?_))
          rw [h1, h2, h3]; rfl
        · refine Ev.neg h3 (Ev.give ?_)
          rw [Bool.not_eq_true] at h3
          rw [h3, Bool.and_false, Bool.and_false]; rfl
      · refine Ev.neg h2 (Ev.give ?_)
        rw [Bool.not_eq_true] at h2
        rw [h2, Bool.false_and, Bool.and_false]; rfl
    · refine Ev.neg h1 (Ev.give ?_)
      rw [Bool.not_eq_true] at h1
      rw [h1]; rfl
  refine Ev.congr (fun k => by rw [spec_l09Right.f]) ?_
  by_cases h1 : x.f0 = 1
  · exact Ev.pos h1 (E (Or.inl h1))
  · refine Ev.neg h1 ?_
    by_cases h2 : x.f0 = 2
    · exact Ev.pos h2 (E (Or.inr h2))
    · refine Ev.neg h2 (Ev.give ?_)
      unfold stmtOk
      rw [decide_eq_false (by omega)]; rfl
def policyFaultOf (l : List S58) : Int := if (l.length : Int) > 50 then 1 else if l.all stmtFine = true then 0 else 1
theorem spec_policy_l0 (l : List S58) (hl : l.length ≤ 1048576) (hs : ∀ x ∈ l, okStmtI 1048576 x) : ∀ (d i : Nat), l.length - i = d → i ≤ l.length → Ev (fun k => spec_PolicyFault.l0 k l (i : Int)) (if (l.drop i).all stmtFine = true then 0 else 1) := by
  intro d
  induction d with
  | zero =>
    intro i hd hi
    rw [List.drop_eq_nil_of_le (by omega)]
    exact Ev.step (fun k => by rw [spec_PolicyFault.l0, if_neg (by omega)]; rfl) (Ev.now _)
  | succ d ih =>
    intro i hd hi
    have hlt : i < l.length := by omega
    have hr := rdi_Statement l i hlt
    have hw : wrap64 ((i : Int) + 1) = ((i + 1 : Nat) : Int) := by rw [wrap64_id (by omega) (by omega)]; rfl
    have hn := ih (i + 1) (by omega) (by omega)
    have hsz := hs _ (List.getElem_mem hlt)
    rw [List.drop_eq_getElem_cons hlt, List.all_cons]
    refine Ev.step (fun k => by rw [spec_PolicyFault.l0, if_pos (by omega), if_pos (by omega), hr, hw]) (Ev.bind (spec_right _ hsz) ?_)
    by_cases h1 : stmtOk l[i] = true
    · refine Ev.pos h1 ?_
      by_cases h2 : (l[i].f4.length : Int) > 10
      · refine Ev.pos h2 (Ev.give ?_)
        unfold stmtFine; rw [h1, decide_eq_true h2]; rfl
      · refine Ev.neg h2 ?_
        have : stmtFine l[i] = true := by unfold stmtFine; rw [h1, decide_eq_false h2]; rfl
        rw [this, Bool.true_and]; exact hn
    · refine Ev.neg h1 (Ev.give ?_)
      rw [Bool.not_eq_true] at h1
      unfold stmtFine; rw [h1]; rfl
theorem spec_policy (l : List S58) (hl : l.length ≤ 1048576) (hs : ∀ x ∈ l, okStmtI 1048576 x) : Ev (fun k => spec_PolicyFault.f k l) (policyFaultOf l) := by
  unfold policyFaultOf
  refine Ev.congr (fun k => by rw [spec_PolicyFault.f]) ?_
  by_cases h : (l.length : Int) > 50
  · rw [if_pos h]; exact Ev.pos h (Ev.now _)
  · rw [if_neg h]
    have := spec_policy_l0 l hl hs l.length 0 rfl (by omega)
    rw [List.drop_zero] at this
    exact Ev.neg h this
theorem impl_policy_l1 (l : List S58) (n x12 r : Int) (c : List S61) (hc : okCondsI 1048576 c) (hnext : Ev (fun k => impl_PolicyFault.l0 k l n (wrap64 (x12 + 1))) r) : ∀ (d i : Nat), c.length - i = d → i ≤ c.length → Ev (fun k => impl_PolicyFault.l1 k l n x12 c (c.length : Int) (i : Int)) (if (c.drop i).all condOk = true then r else 1) := by
  intro d
  induction d with
  | zero =>
    intro i hd hi
    rw [List.drop_eq_nil_of_le (by omega)]
    exact Ev.step (fun k => by rw [impl_PolicyFault.l1, if_neg (by omega)]) (by simpa using hnext)
  | succ d ih =>
    intro i hd hi
    have hlt : i < c.length := by omega
    have hcl := hc.1
    have hr := rdi_Condition c i hlt
    have hw : wrap64 ((i : Int) + 1) = ((i + 1 : Nat) : Int) := by rw [wrap64_id (by omega) (by omega)]; rfl
    have hn := ih (i + 1) (by omega) (by omega)
    have hsz := hc.2 _ (List.getElem_mem hlt)
    rw [List.drop_eq_getElem_cons hlt, List.all_cons]
    refine Ev.step (fun k => by rw [impl_PolicyFault.l1, if_pos (by omega), if_pos (by omega), if_pos (by omega), hr, hw]) (Ev.bind (impl_cond _ hsz) ?_)
    by_cases h1 : condOk c[i] = true
    · rw [h1, Bool.true_and]
      exact Ev.neg (by decide) hn
    · rw [Bool.not_eq_true] at h1
      rw [h1]
      exact Ev.pos rfl (Ev.now _)
theorem impl_policy_l0 (l : List S58) (hl : l.length ≤ 1048576) (hs : ∀ x ∈ l, okStmtI 1048576 x) : ∀ (d i : Nat), l.length - i = d → i ≤ l.length → Ev (fun k => impl_PolicyFault.l0 k l (l.length : Int) (i : Int)) (if (l.drop i).all stmtFine = true then 0 else 1) := by
  intro d
  induction d with
  | zero =>
    intro i hd hi
    rw [List.drop_eq_nil_of_le (by omega)]
    exact Ev.step (fun k => by rw [impl_PolicyFault.l0, if_neg (by omega)]; rfl) (Ev.now _)
  | succ d ih =>
    intro i hd hi
    have hlt : i < l.length := by omega
    have hr := rdi_Statement l i hlt
    have hw : wrap64 ((i : Int) + 1) = ((i + 1 : Nat) : Int) := by rw [wrap64_id (by omega) (by omega)]; rfl
    have hn := ih (i + 1) (by omega) (by omega)
    have hsz := hs _ (List.getElem_mem hlt)
    rw [List.drop_eq_getElem_cons hlt, List.all_cons]
    refine Ev.step (fun k => by rw [impl_PolicyFault.l0, if_pos (by omega), if_pos (by omega), if_pos (by omega), hr]) ?_
    generalize l[i] = x at hr hsz
    have T : stmtFine x = false → Ev (fun k => impl_PolicyFault.j1 k l (l.length : Int) (i : Int) true x.f0 x.f1 x.f2 x.f3 x.f4) (if (stmtFine x && (l.drop (i + 1)).all stmtFine) = true then 0 else 1) := by
      intro hf
      rw [hf, Bool.false_and, if_neg (by decide)]
      exact Ev.step (fun k => by rw [impl_PolicyFault.j1, if_pos rfl]) (Ev.now _)
    have E : (x.f0 = 1 ∨ x.f0 = 2) → Ev (fun k => ((impl_listFault.f k (x.f1)).bind fun t184 => (if t184 = true then (impl_PolicyFault.j1 k l (l.length : Int) (i : Int) true x.f0 x.f1 x.f2 x.f3 x.f4) else ((impl_listFault.f k (x.f2)).bind fun t185 => (if t185 = true then (impl_PolicyFault.j1 k l (l.length : Int) (i : Int) true x.f0 x.f1 x.f2 x.f3 x.f4) else ((impl_listFault.f k (x.f3)).bind fun t186 => (if t186 = true then (impl_PolicyFault.j1 k l (l.length : Int) (i : Int) true x.f0 x.f1 x.f2 x.f3 x.f4) else (impl_PolicyFault.j1 k l (l.length : Int) (i : Int) (decide (((x.f4).length : Int) > 10)) x.f0 x.f1 x.f2 x.f3 x.f4)))))))) (if (stmtFine x && (l.drop (i + 1)).all stmtFine) = true then 0 else 1) := by
      intro h0
      refine Ev.bind (impl_list _ hsz.1.1 hsz.1.2) ?_
      by_cases h1 : listB x.f1 = true
      · refine Ev.neg (by rw [h1]; decide) (Ev.bind (impl_list _ hsz.2.1.1 hsz.2.1.2) ?_)
        by_cases h2 : listB x.f2 = true
        · refine Ev.neg (by rw [h2]; decide) (Ev.bind (impl_list _ hsz.2.2.1.1 hsz.2.2.1.2) ?_)
          by_cases h3 : listB x.f3 = true
          · refine Ev.neg (by rw [h3]; decide) ?_
            have e : stmtFine x = (x.f4.all condOk && !(decide ((x.f4.length : Int) > 10))) := by
              unfold stmtFine stmtOk; rw [decide_eq_true h0, h1, h2, h3]; simp
            by_cases h4 : (x.f4.length : Int) > 10
            · rw [decide_eq_true h4] at e ⊢
              exact T (by rw [e]; simp)
            · rw [decide_eq_false h4] at e ⊢
              rw [e]
              refine Ev.step (fun k => by rw [impl_PolicyFault.j1, if_neg (by decide)]) ?_
              have q := impl_policy_l1 l (l.length : Int) (i : Int) _ x.f4 hsz.2.2.2 (by rw [hw]; exact hn) x.f4.length 0 rfl (by omega)
              rw [List.drop_zero] at q
              refine Ev.congr (fun k => rfl) (cast (congrArg (Ev _) ?_) q)
              cases x.f4.all condOk <;> simp
          · rw [Bool.not_eq_true] at h3
            refine Ev.pos (by rw [h3]; rfl) (T ?_)
            unfold stmtFine stmtOk; rw [h3]; simp
        · rw [Bool.not_eq_true] at h2
          refine Ev.pos (by rw [h2]; rfl) (T ?_)
          unfold stmtFine stmtOk; rw [h2]; simp
      · rw [Bool.not_eq_true] at h1
        refine Ev.pos (by rw [h1]; rfl) (T ?_)
        unfold stmtFine stmtOk; rw [h1]; simp
    by_cases h1 : x.f0 = 1
    · exact Ev.pos h1 (E (Or.inl h1))
    · refine Ev.neg h1 ?_
      by_cases h2 : x.f0 = 2
      · exact Ev.pos h2 (E (Or.inr h2))
      · refine Ev.neg h2 (T ?_)
        unfold stmtFine stmtOk; rw [decide_eq_false (by omega)]; simp
theorem impl_policy (l : List S58) (hl : l.length ≤ 1048576) (hs : ∀ x ∈ l, okStmtI 1048576 x) : Ev (fun k => impl_PolicyFault.f k l) (policyFaultOf l) := by
  unfold policyFaultOf
  refine Ev.congr (fun k => by rw [impl_PolicyFault.f]) ?_
  by_cases h : (l.length : Int) > 50
  · rw [if_pos h]; exact Ev.pos h (Ev.now _)
  · rw [if_neg h]
    have := impl_policy_l0 l hl hs l.length 0 rfl (by omega)
    rw [List.drop_zero] at this
    exact Ev.neg h this

/-! Pieces with a comma between them. -/
def joinTl (sep : ByteArray) : List ByteArray → ByteArray
  | [] => ⟨#[]⟩
  | y :: r => sep ++ y ++ joinTl sep r
theorem ba_list {a b : ByteArray} (h : a.data.toList = b.data.toList) : a = b := ByteArray.ext (Array.toList_inj.1 h)
theorem ba_app_list (a b : ByteArray) : (a ++ b).data.toList = a.data.toList ++ b.data.toList := by rw [ByteArray.data_append, Array.toList_append]
theorem ba_nil_app (a : ByteArray) : (⟨#[]⟩ : ByteArray) ++ a = a := ba_list (by rw [ba_app_list]; rfl)
theorem ba_app_nil (a : ByteArray) : a ++ (⟨#[]⟩ : ByteArray) = a := ba_list (by rw [ba_app_list]; simp)
theorem joinTl_list (sep : ByteArray) : ∀ r : List ByteArray, (joinTl sep r).data.toList = Lib.joinTail sep.data.toList (r.map (·.data.toList))
  | [] => rfl
  | y :: r => by
    rw [joinTl, ba_app_list, ba_app_list, joinTl_list sep r]
    rfl
theorem joinOf_nil (sep : ByteArray) : joinOf [] sep = ⟨#[]⟩ := rfl
theorem joinOf_cons (x : ByteArray) (r : List ByteArray) (sep : ByteArray) : joinOf (x :: r) sep = x ++ joinTl sep r := by
  apply ba_list
  rw [ba_app_list, joinTl_list]
  show (Lib.join (x.data.toList :: r.map (·.data.toList)) sep.data.toList).toArray.toList = _
  rw [Lib.join_cons]
theorem joinTl_size (sep : ByteArray) (b : Nat) (hs : sep.size = 1) : ∀ r : List ByteArray, (∀ x ∈ r, x.size ≤ b) → (joinTl sep r).size ≤ r.length * (b + 1)
  | [], _ => Nat.zero_le _
  | y :: r, h => by
    have h1 := joinTl_size sep b hs r (fun x hx => h x (List.mem_cons_of_mem _ hx))
    have h2 := h y List.mem_cons_self
    rw [joinTl, ByteArray.size_append, ByteArray.size_append, hs, List.length_cons, Nat.succ_mul]
    omega
theorem joinOf_size (l : List ByteArray) (sep : ByteArray) (b : Nat) (hs : sep.size = 1) (h : ∀ x ∈ l, x.size ≤ b) : (joinOf l sep).size ≤ l.length * (b + 1) := by
  cases l with
  | nil => exact Nat.zero_le _
  | cons x r =>
    have h1 := joinTl_size sep b hs r (fun x hx => h x (List.mem_cons_of_mem _ hx))
    have h2 := h x List.mem_cons_self
    rw [joinOf_cons, ByteArray.size_append, List.length_cons, Nat.succ_mul]
    omega
theorem impl_join (l : List ByteArray) (sep : ByteArray) (b : Nat) (hs : sep.size = 1) (h : ∀ x ∈ l, x.size ≤ b) (hl : l.length ≤ 1000000) (hb : b ≤ 1000000) : strings_Join.f l sep = some (joinOf l sep) := by
  unfold strings_Join.f
  have h1 := joinOf_size l sep b hs h
  have h2 : l.length * (b + 1) ≤ 1000000 * 1000001 := Nat.mul_le_mul hl (by omega)
  rw [if_pos ⟨Nat.le_trans hl (by decide), Nat.le_trans h1 (Nat.le_trans h2 (by decide))⟩]

theorem spec_join_l0 (l : List ByteArray) (hl : l.length ≤ 1000000) (hs : ∀ x ∈ l, x.size ≤ 1000000) : ∀ (d i : Nat) (acc : ByteArray), l.length - i = d → 1 ≤ i → i ≤ l.length → acc.size ≤ 2000000 * i →
    Ev (fun k => spec_l09Join.l0 k l acc (i : Int)) (acc ++ joinTl (⟨#[44]⟩ : ByteArray) (l.drop i)) := by
  intro d
  induction d with
  | zero =>
    intro i acc hd h1 hi ha
    have e : i = l.length := by omega
    subst e
    refine Ev.step (fun k => by rw [spec_l09Join.l0, if_neg (Int.lt_irrefl _)]) (Ev.give ?_)
    rw [List.drop_length, joinTl, ba_app_nil]
  | succ d ih =>
    intro i acc hd h1 hi ha
    have hlt : i < l.length := by omega
    have hr : rdOf ByteArray.empty l (i : Int) = l[i] := rds_at l i hlt
    have hz := hs _ (List.getElem_mem hlt)
    have s1 : (acc ++ (⟨#[44]⟩ : ByteArray)).size = acc.size + 1 := by rw [ByteArray.size_append]; rfl
    have h := ih (i + 1) (acc ++ (⟨#[44]⟩ : ByteArray) ++ l[i]) (by omega) (by omega) (by omega) (by rw [ByteArray.size_append, s1]; omega)
    rw [List.drop_eq_getElem_cons hlt, joinTl, ← ByteArray.append_assoc, ← ByteArray.append_assoc]
    have c1 : (i : Int) < (l.length : Int) := by omega
    have c2 : (i : Int) > 0 := by omega
    have c3 : acc.size + 1 ≤ 9223372036854775807 := by omega
    have c4 : (0 : Int) ≤ (i : Int) := by omega
    have c5 : (acc ++ (⟨#[44]⟩ : ByteArray)).size + l[i].size ≤ 9223372036854775807 := by rw [s1]; omega
    have w : wrap64 ((i : Int) + 1) = ((i + 1 : Nat) : Int) := by rw [wrap64_id (by omega) (by omega)]; rfl
    exact Ev.step (fun k => by rw [spec_l09Join.l0, if_pos c1, if_pos c2, if_pos c3, if_pos c4, hr, if_pos c5, w]) h
theorem spec_join (l : List ByteArray) (hl : l.length ≤ 1000000) (hs : ∀ x ∈ l, x.size ≤ 1000000) : Ev (fun k => spec_l09Join.f k l) (joinOf l (⟨#[44]⟩ : ByteArray)) := by
  refine Ev.congr (fun k => by rw [spec_l09Join.f]) ?_
  cases l with
  | nil =>
    refine Ev.step (fun k => by rw [spec_l09Join.l0, if_neg (by simp)]) (Ev.give ?_)
    rw [joinOf_nil]
  | cons x r =>
    have hz := hs x List.mem_cons_self
    rw [List.length_cons] at hl
    have h := spec_join_l0 (x :: r) (by rw [List.length_cons]; exact hl) hs r.length 1 x (by simp) (Nat.le_refl _) (by simp) (by omega)
    rw [joinOf_cons]
    have hr : rdOf ByteArray.empty (x :: r) 0 = x := rfl
    have c1 : (0 : Int) < ((x :: r).length : Int) := by rw [List.length_cons]; omega
    have c5 : (⟨#[]⟩ : ByteArray).size + x.size ≤ 9223372036854775807 := by show 0 + x.size ≤ _; omega
    exact Ev.step (fun k => by rw [spec_l09Join.l0, if_pos c1, if_neg (by decide), if_pos (by decide), hr, if_pos c5, ba_nil_app, show wrap64 (0 + 1) = ((1 : Nat) : Int) by rw [wrap64_id (by omega) (by omega)]; rfl]) h

/-! A number's decimal digits. -/
theorem dec_len : ∀ (d n : Nat), n < 10 ^ (d + 1) → (Lib.decDigits n).length ≤ d + 1 := by
  intro d
  induction d with
  | zero =>
    intro n hn
    rw [Lib.decDigits, dif_pos (by omega)]
    simp
  | succ d ih =>
    intro n hn
    rw [Lib.decDigits]
    split
    · simp
    · have := ih (n / 10) (by rw [Nat.pow_succ] at hn; exact Nat.div_lt_of_lt_mul (by omega))
      simp
      omega
theorem itoa_nat (n : Nat) : itoaOf (n : Int) = ⟨(Lib.decDigits n).toArray⟩ := by
  unfold itoaOf Lib.itoa
  rw [if_neg (by omega), Int.toNat_natCast]
theorem itoa_size (n : Nat) (h : n < 10 ^ 19) : (itoaOf (n : Int)).size ≤ 19 := by
  rw [itoa_nat]
  exact dec_len 18 n h
theorem spec_dec_d : ∀ (d n : Nat), d ≤ 18 → n < 10 ^ (d + 1) → n < 9223372036854775808 → Ev (fun k => spec_l01Dec.f k (n : Int)) (itoaOf (n : Int)) := by
  have one : ∀ n : Nat, n < 10 → Ev (fun k => spec_l01Dec.f k (n : Int)) (itoaOf (n : Int)) := by
    intro n hn
    have w : (wrap64 (48 + (n : Int))) % 256 = ((48 + n : Nat) : Int) := by rw [wrap64_id (by omega) (by omega)]; omega
    refine Ev.step (fun k => by rw [spec_l01Dec.f, if_neg (by omega), if_pos (by omega), w]) (Ev.give ?_)
    rw [itoa_nat, Lib.decDigits, dif_pos hn]
    rfl
  intro d
  induction d with
  | zero => exact fun n _ hn _ => one n (by omega)
  | succ d ih =>
    intro n hd hn hb
    by_cases h : n < 10
    · exact one n h
    · have hr := ih (n / 10) (by omega) (by rw [Nat.pow_succ] at hn; exact Nat.div_lt_of_lt_mul (by omega)) (by omega)
      have hz := itoa_size (n / 10) (Nat.lt_of_lt_of_le (show n / 10 < 10 ^ (d + 1) by rw [Nat.pow_succ] at hn; exact Nat.div_lt_of_lt_mul (by omega)) (Nat.pow_le_pow_right (by decide) (by omega)))
      have w0 : Int.tdiv (n : Int) 10 = ((n / 10 : Nat) : Int) := by rw [Int.tdiv_eq_ediv_of_nonneg (by omega)]; rfl
      have w1 : wrap64 ((n / 10 : Nat) : Int) = ((n / 10 : Nat) : Int) := wrap64_id (by omega) (by omega)
      have w2 : Int.tmod (n : Int) 10 = ((n % 10 : Nat) : Int) := by rw [Int.tmod_eq_emod_of_nonneg (by omega)]; rfl
      have w3 : (wrap64 (48 + ((n % 10 : Nat) : Int))) % 256 = ((48 + n % 10 : Nat) : Int) := by clear w1; rw [wrap64_id (by omega) (by omega)]; omega
      have c1 : ¬ ((n : Int) < 0) := by clear w1 w3; omega
      have c2 : ¬ ((n : Int) < 10) := by clear w1 w3; omega
      refine Ev.step (fun k => by rw [spec_l01Dec.f, if_neg c1, if_neg c2, w0, w1, w2, w3]) (Ev.bind hr (Ev.bindS rfl (Ev.pos ?_ (Ev.give ?_))))
      · rw [size_strOfNums]
        show (itoaOf ((n / 10 : Nat) : Int)).size + 1 ≤ 9223372036854775807
        clear w1 w3
        omega
      · rw [itoa_nat, itoa_nat]
        conv => rhs; rw [Lib.decDigits, dif_neg h]
        apply ByteArray.ext
        rw [ByteArray.data_append]
        apply Array.toList_inj.1
        rw [Array.toList_append]
        rfl
theorem spec_dec (n : Nat) (h : n < 9223372036854775808) : Ev (fun k => spec_l01Dec.f k (n : Int)) (itoaOf (n : Int)) := spec_dec_d 18 n (Nat.le_refl _) (by omega) h
theorem impl_itoa (n : Nat) (h : n < 9223372036854775808) : strconv_FormatInt.f (n : Int) 10 = some (itoaOf (n : Int)) := by
  unfold strconv_FormatInt.f
  rw [if_pos ⟨rfl, by omega, by omega⟩]

/-! What WritePolicy writes. -/
def nameOf (k : Int) : ByteArray := rdOf ByteArray.empty [(⟨#[]⟩ : ByteArray), (⟨#[112, 114, 101, 102, 105, 120]⟩ : ByteArray), (⟨#[98, 101, 102, 111, 114, 101]⟩ : ByteArray), (⟨#[97, 102, 116, 101, 114]⟩ : ByteArray), (⟨#[102, 114, 111, 109]⟩ : ByteArray)] k
def condWord (x : S61) : ByteArray := if x.f0 = 1 ∨ x.f0 = 4 then x.f1 else itoaOf x.f2
def condHead (k : Int) : ByteArray := (⟨#[32]⟩ : ByteArray) ++ nameOf k ++ (⟨#[32]⟩ : ByteArray)
def condText (x : S61) : ByteArray := condHead x.f0 ++ condWord x
def condsText : List S61 → ByteArray
  | [] => ⟨#[]⟩
  | x :: r => condText x ++ condsText r
def effOf (k : Int) : ByteArray := if k = 1 then (⟨#[97, 108, 108, 111, 119]⟩ : ByteArray) else (⟨#[100, 101, 110, 121]⟩ : ByteArray)
def midText (a b c : List ByteArray) : ByteArray := ((((((⟨#[32, 119, 104, 111, 32]⟩ : ByteArray) ++ joinOf a (⟨#[44]⟩ : ByteArray)) ++ (⟨#[32, 100, 111, 32]⟩ : ByteArray)) ++ joinOf b (⟨#[44]⟩ : ByteArray)) ++ (⟨#[32, 111, 110, 32]⟩ : ByteArray)) ++ joinOf c (⟨#[44]⟩ : ByteArray))
def stmtText (s : S58) : ByteArray := effOf s.f0 ++ midText s.f1 s.f2 s.f3 ++ condsText s.f4 ++ (⟨#[10]⟩ : ByteArray)
def polText : List S58 → ByteArray
  | [] => ⟨#[]⟩
  | x :: r => stmtText x ++ polText r
def capText (s : ByteArray) : ByteArray := if s.size > 10000 then ⟨#[]⟩ else s
/-! What a right policy's parts measure. -/
theorem plain_size {s : ByteArray} {x : Nat} (h : plainB x s = true) : s.size ≤ 200 := by
  unfold plainB sizeOk at h
  simp only [Bool.and_eq_true, Bool.not_eq_true', decide_eq_false_iff_not] at h
  omega
theorem word_size {s : ByteArray} (h : wordB s = true) : s.size ≤ 200 := by
  unfold wordB sizeOk at h
  simp only [Bool.and_eq_true, Bool.not_eq_true', decide_eq_false_iff_not] at h
  omega
theorem list_bounds {l : List ByteArray} (h : listB l = true) : l.length ≤ 20 ∧ ∀ x ∈ l, x.size ≤ 200 := by
  unfold listB at h
  simp only [Bool.and_eq_true, Bool.not_eq_true', decide_eq_false_iff_not, List.all_eq_true] at h
  exact ⟨by omega, fun x hx => plain_size (h.2 x hx)⟩
theorem list_join {l : List ByteArray} (h : listB l = true) : (joinOf l (⟨#[44]⟩ : ByteArray)).size ≤ 4020 := by
  obtain ⟨h1, h2⟩ := list_bounds h
  have h3 := joinOf_size l (⟨#[44]⟩ : ByteArray) 200 rfl h2
  have : l.length * 201 ≤ 20 * 201 := Nat.mul_le_mul_right _ h1
  omega
theorem cond_cases {x : S61} (h : condOk x = true) : ((x.f0 = 1 ∨ x.f0 = 4) ∧ x.f1.size ≤ 200) ∨ ((x.f0 = 2 ∨ x.f0 = 3) ∧ ∃ n : Nat, x.f2 = (n : Int) ∧ n ≤ 4102444800) := by
  unfold condOk at h
  by_cases h1 : x.f0 = 1 ∨ x.f0 = 4
  · rw [if_pos h1] at h
    simp only [Bool.and_eq_true] at h
    exact Or.inl ⟨h1, word_size h.1⟩
  · rw [if_neg h1] at h
    by_cases h2 : x.f0 = 2 ∨ x.f0 = 3
    · rw [if_pos h2] at h
      simp only [Bool.and_eq_true, Bool.not_eq_true', decide_eq_false_iff_not] at h
      obtain ⟨n, hn⟩ := Int.eq_ofNat_of_zero_le (show 0 ≤ x.f2 by omega)
      exact Or.inr ⟨h2, n, hn, by omega⟩
    · rw [if_neg h2] at h
      cases h
theorem word_bound {x : S61} (h : condOk x = true) : (condWord x).size ≤ 200 := by
  unfold condWord
  rcases cond_cases h with ⟨h1, h2⟩ | ⟨h1, n, h2, h3⟩
  · rw [if_pos h1]; exact h2
  · rw [if_neg (by omega), h2]
    have := itoa_size n (by omega)
    omega
theorem kinds {x : S61} (h : condOk x = true) : x.f0 = 1 ∨ x.f0 = 2 ∨ x.f0 = 3 ∨ x.f0 = 4 := by
  rcases cond_cases h with ⟨h1, _⟩ | ⟨h1, _⟩ <;> omega
theorem head_of {k : Int} (h : k = 1 ∨ k = 2 ∨ k = 3 ∨ k = 4) : condHead k = (if k = 1 then (⟨#[32, 112, 114, 101, 102, 105, 120, 32]⟩ : ByteArray) else if k = 2 then (⟨#[32, 98, 101, 102, 111, 114, 101, 32]⟩ : ByteArray) else if k = 3 then (⟨#[32, 97, 102, 116, 101, 114, 32]⟩ : ByteArray) else (⟨#[32, 102, 114, 111, 109, 32]⟩ : ByteArray)) := by
  unfold condHead
  rcases h with rfl | rfl | rfl | rfl
  · rw [if_pos rfl]; apply ba_list; rw [ba_app_list, ba_app_list]; rfl
  · rw [if_neg (by decide), if_pos rfl]; apply ba_list; rw [ba_app_list, ba_app_list]; rfl
  · rw [if_neg (by decide), if_neg (by decide), if_pos rfl]; apply ba_list; rw [ba_app_list, ba_app_list]; rfl
  · rw [if_neg (by decide), if_neg (by decide), if_neg (by decide)]; apply ba_list; rw [ba_app_list, ba_app_list]; rfl
theorem head_size {k : Int} (h : k = 1 ∨ k = 2 ∨ k = 3 ∨ k = 4) : (condHead k).size ≤ 8 ∧ (nameOf k).size ≤ 6 := by
  rcases h with rfl | rfl | rfl | rfl <;> exact ⟨by rw [head_of (by decide)]; decide, by decide⟩
theorem cond_size {x : S61} (h : condOk x = true) : (condText x).size ≤ 208 := by
  unfold condText
  have h1 := (head_size (kinds h)).1
  have h2 := word_bound h
  rw [ByteArray.size_append]
  omega
theorem conds_size : ∀ l : List S61, (∀ x ∈ l, condOk x = true) → (condsText l).size ≤ l.length * 208
  | [], _ => Nat.zero_le _
  | x :: r, h => by
    have h1 := cond_size (h x List.mem_cons_self)
    have h2 := conds_size r (fun y hy => h y (List.mem_cons_of_mem _ hy))
    rw [condsText, ByteArray.size_append, List.length_cons, Nat.succ_mul]
    omega
theorem fine_parts {s : S58} (h : stmtFine s = true) : (s.f0 = 1 ∨ s.f0 = 2) ∧ listB s.f1 = true ∧ listB s.f2 = true ∧ listB s.f3 = true ∧ (∀ x ∈ s.f4, condOk x = true) ∧ s.f4.length ≤ 10 := by
  unfold stmtFine stmtOk at h
  simp only [Bool.and_eq_true, Bool.not_eq_true', decide_eq_false_iff_not, decide_eq_true_eq, List.all_eq_true] at h
  exact ⟨h.1.1.1, h.1.1.2.1, h.1.1.2.2.1, h.1.1.2.2.2, h.1.2, by omega⟩
theorem mid_size {a b c : List ByteArray} (ha : listB a = true) (hb : listB b = true) (hc : listB c = true) : (midText a b c).size ≤ 12073 := by
  have h1 := list_join ha
  have h2 := list_join hb
  have h3 := list_join hc
  unfold midText
  simp only [ByteArray.size_append]
  have e1 : (⟨#[32, 119, 104, 111, 32]⟩ : ByteArray).size = 5 := rfl
  have e2 : (⟨#[32, 100, 111, 32]⟩ : ByteArray).size = 4 := rfl
  have e3 : (⟨#[32, 111, 110, 32]⟩ : ByteArray).size = 4 := rfl
  omega
theorem eff_size (k : Int) : (effOf k).size ≤ 5 := by unfold effOf; split <;> decide
theorem stmt_size {s : S58} (h : stmtFine s = true) : (stmtText s).size ≤ 15000 := by
  obtain ⟨h1, h2, h3, h4, h5, h6⟩ := fine_parts h
  have q1 := mid_size h2 h3 h4
  have q2 := conds_size s.f4 h5
  have q3 : s.f4.length * 208 ≤ 10 * 208 := Nat.mul_le_mul_right _ h6
  have q4 := eff_size s.f0
  unfold stmtText
  simp only [ByteArray.size_append]
  have e : (⟨#[10]⟩ : ByteArray).size = 1 := rfl
  omega
/-! The program's. -/
theorem impl_cond_text {x : S61} (h : condOk x = true) : impl_writeCondition.f x.f0 x.f1 x.f2 = some (condText x) := by
  have hz := word_bound h
  unfold impl_writeCondition.f condText
  rw [head_of (kinds h)]
  rcases cond_cases h with ⟨h1, h2⟩ | ⟨h1, n, h2, h3⟩
  · have hw : condWord x = x.f1 := by unfold condWord; rw [if_pos h1]
    rw [hw]
    rcases h1 with h1 | h1
    · rw [if_pos h1, if_pos h1, if_pos (by omega)]
    · have e1 : ¬ x.f0 = 1 := by omega
      have e2 : ¬ x.f0 = 2 := by omega
      have e3 : ¬ x.f0 = 3 := by omega
      rw [if_neg e1, if_neg e1, if_neg e2, if_neg e2, if_neg e3, if_neg e3, if_pos (by omega)]
  · have hw : condWord x = itoaOf (n : Int) := by unfold condWord; rw [if_neg (by omega), h2]
    rw [hw] at hz ⊢
    rw [h2]
    rcases h1 with h1 | h1
    · rw [if_neg (by omega), if_pos h1, if_neg (by omega), if_pos h1, impl_itoa n (by omega), Option.bind_some, if_pos (by omega)]
    · rw [if_neg (by omega), if_neg (by omega), if_pos h1, if_neg (by omega), if_neg (by omega), if_pos h1, impl_itoa n (by omega), Option.bind_some, if_pos (by omega)]
theorem rdc_at (l : List S61) (i : Nat) (h : i < l.length) : rd_T61 l (i : Int) = l[i] := rdi_Condition l i h
theorem impl_wp_l1 (l : List S58) (n j : Int) (c : List S61) (hc : ∀ x ∈ c, condOk x = true) (hl : c.length ≤ 1000) (r : ByteArray) : ∀ (d i : Nat) (acc : ByteArray), c.length - i = d → i ≤ c.length → acc.size ≤ 1000000000 + 1000 * i →
    Ev (fun k => impl_WritePolicy.l0 k (acc ++ condsText (c.drop i) ++ (⟨#[10]⟩ : ByteArray)) l n (wrap64 (j + 1))) r → Ev (fun k => impl_WritePolicy.l1 k acc l n j c (c.length : Int) (i : Int)) r := by
  intro d
  induction d with
  | zero =>
    intro i acc hd hi ha h
    have e : i = c.length := by omega
    subst e
    rw [List.drop_length, condsText, ba_app_nil] at h
    exact Ev.step (fun k => by rw [impl_WritePolicy.l1, if_neg (Int.lt_irrefl _), if_pos (show acc.size + 1 ≤ 9223372036854775807 by omega)]) h
  | succ d ih =>
    intro i acc hd hi ha h
    have hlt : i < c.length := by omega
    have hr := rdc_at c i hlt
    have hk := hc _ (List.getElem_mem hlt)
    have hz := cond_size hk
    have ht := impl_cond_text hk
    rw [List.drop_eq_getElem_cons hlt, condsText, ← ByteArray.append_assoc] at h
    have hn := ih (i + 1) (acc ++ condText c[i]) (by omega) (by omega) (by rw [ByteArray.size_append]; omega) h
    have c1 : (i : Int) < (c.length : Int) := by omega
    have c2 : (0 : Int) ≤ (i : Int) := by omega
    have c3 : acc.size + (condText c[i]).size ≤ 9223372036854775807 := by omega
    have w : wrap64 ((i : Int) + 1) = ((i + 1 : Nat) : Int) := by rw [wrap64_id (by omega) (by omega)]; rfl
    exact Ev.step (fun k => by rw [impl_WritePolicy.l1, if_pos c1, if_pos c2, if_pos c1, hr, ht, Option.bind_some, if_pos c3, w]) hn
theorem impl_wp_l0 (l : List S58) (hl : l.length ≤ 50) (hf : ∀ x ∈ l, stmtFine x = true) : ∀ (d i : Nat) (acc : ByteArray), l.length - i = d → i ≤ l.length → acc.size ≤ 15000 * i →
    Ev (fun k => impl_WritePolicy.l0 k acc l (l.length : Int) (i : Int)) (capText (acc ++ polText (l.drop i))) := by
  intro d
  induction d with
  | zero =>
    intro i acc hd hi ha
    have e : i = l.length := by omega
    subst e
    rw [List.drop_length, polText, ba_app_nil]
    unfold capText
    refine Ev.step (fun k => by rw [impl_WritePolicy.l0, if_neg (Int.lt_irrefl _)]) ?_
    by_cases hb : acc.size > 10000
    · rw [if_pos hb]; exact Ev.pos (by omega) (Ev.now _)
    · rw [if_neg hb]; exact Ev.neg (by omega) (Ev.now _)
  | succ d ih =>
    intro i acc hd hi ha
    have hlt : i < l.length := by omega
    have hr := rdi_Statement l i hlt
    have hk := hf _ (List.getElem_mem hlt)
    obtain ⟨h1, h2, h3, h4, h5, h6⟩ := fine_parts hk
    have hz := stmt_size hk
    have hn := ih (i + 1) (acc ++ stmtText l[i]) (by omega) (by omega) (by rw [ByteArray.size_append]; omega)
    rw [List.drop_eq_getElem_cons hlt, polText, ← ByteArray.append_assoc]
    have w : wrap64 ((i : Int) + 1) = ((i + 1 : Nat) : Int) := by rw [wrap64_id (by omega) (by omega)]; rfl
    generalize polText (l.drop (i + 1)) = rest at hn ⊢
    generalize l[i] = s at hr hk h1 h2 h3 h4 h5 h6 hz hn ⊢
    have hm := mid_size h2 h3 h4
    have he := eff_size s.f0
    have c1 : (i : Int) < (l.length : Int) := by clear w; omega
    have c2 : (0 : Int) ≤ (i : Int) := by clear w; omega
    have hacc : acc.size ≤ 750000 := by clear w; omega
    have j1 := list_join h2
    have j2 := list_join h3
    have j3 := list_join h4
    obtain ⟨b1, b1'⟩ := list_bounds h2
    obtain ⟨b2, b2'⟩ := list_bounds h3
    obtain ⟨b3, b3'⟩ := list_bounds h4
    have t1 := impl_join s.f1 (⟨#[44]⟩ : ByteArray) 200 rfl b1' (by clear w; omega) (by decide)
    have t2 := impl_join s.f2 (⟨#[44]⟩ : ByteArray) 200 rfl b2' (by clear w; omega) (by decide)
    have t3 := impl_join s.f3 (⟨#[44]⟩ : ByteArray) 200 rfl b3' (by clear w; omega) (by decide)
    have hs : stmtText s = effOf s.f0 ++ midText s.f1 s.f2 s.f3 ++ condsText s.f4 ++ (⟨#[10]⟩ : ByteArray) := rfl
    have hj : Ev (fun k => impl_WritePolicy.j1 k (acc ++ effOf s.f0) l (l.length : Int) (i : Int) s.f0 s.f1 s.f2 s.f3 s.f4) (capText (acc ++ stmtText s ++ rest)) := by
      have hn2 := impl_wp_l1 l (l.length : Int) (i : Int) s.f4 h5 (by clear w; omega) (capText (acc ++ stmtText s ++ rest)) s.f4.length 0 (acc ++ effOf s.f0 ++ midText s.f1 s.f2 s.f3) rfl (Nat.zero_le _) (by rw [ByteArray.size_append, ByteArray.size_append]; clear w; omega) (by
        rw [List.drop_zero, w]
        rw [hs, ← ByteArray.append_assoc, ← ByteArray.append_assoc, ← ByteArray.append_assoc] at hn ⊢
        exact hn)
      have e1 : (⟨#[32, 119, 104, 111, 32]⟩ : ByteArray).size = 5 := rfl
      have e2 : (⟨#[32, 100, 111, 32]⟩ : ByteArray).size = 4 := rfl
      have e3 : (⟨#[32, 111, 110, 32]⟩ : ByteArray).size = 4 := rfl
      have d1 : 5 + (joinOf s.f1 (⟨#[44]⟩ : ByteArray)).size ≤ 9223372036854775807 := by clear w; omega
      have d2 : ((⟨#[32, 119, 104, 111, 32]⟩ : ByteArray) ++ joinOf s.f1 (⟨#[44]⟩ : ByteArray)).size + 4 ≤ 9223372036854775807 := by simp only [ByteArray.size_append]; clear w; omega
      have d3 : (((⟨#[32, 119, 104, 111, 32]⟩ : ByteArray) ++ joinOf s.f1 (⟨#[44]⟩ : ByteArray)) ++ (⟨#[32, 100, 111, 32]⟩ : ByteArray)).size + (joinOf s.f2 (⟨#[44]⟩ : ByteArray)).size ≤ 9223372036854775807 := by simp only [ByteArray.size_append]; clear w; omega
      have d4 : ((((⟨#[32, 119, 104, 111, 32]⟩ : ByteArray) ++ joinOf s.f1 (⟨#[44]⟩ : ByteArray)) ++ (⟨#[32, 100, 111, 32]⟩ : ByteArray)) ++ joinOf s.f2 (⟨#[44]⟩ : ByteArray)).size + 4 ≤ 9223372036854775807 := by simp only [ByteArray.size_append]; clear w; omega
      have d5 : (((((⟨#[32, 119, 104, 111, 32]⟩ : ByteArray) ++ joinOf s.f1 (⟨#[44]⟩ : ByteArray)) ++ (⟨#[32, 100, 111, 32]⟩ : ByteArray)) ++ joinOf s.f2 (⟨#[44]⟩ : ByteArray)) ++ (⟨#[32, 111, 110, 32]⟩ : ByteArray)).size + (joinOf s.f3 (⟨#[44]⟩ : ByteArray)).size ≤ 9223372036854775807 := by simp only [ByteArray.size_append]; clear w; omega
      have d6 : (acc ++ effOf s.f0).size + (midText s.f1 s.f2 s.f3).size ≤ 9223372036854775807 := by rw [ByteArray.size_append]; clear w; omega
      exact Ev.step (fun k => by rw [impl_WritePolicy.j1, t1, Option.bind_some, if_pos d1, if_pos d2, t2, Option.bind_some, if_pos d3, if_pos d4, t3, Option.bind_some, if_pos d5]; exact if_pos d6) hn2
    refine Ev.step (fun k => by rw [impl_WritePolicy.l0, if_pos c1, if_pos c2, if_pos c1, hr]) ?_
    by_cases hef : s.f0 = 1
    · have e : effOf s.f0 = (⟨#[97, 108, 108, 111, 119]⟩ : ByteArray) := by unfold effOf; rw [if_pos hef]
      rw [e] at hj
      exact Ev.pos hef (Ev.pos (by clear w; omega) hj)
    · have e : effOf s.f0 = (⟨#[100, 101, 110, 121]⟩ : ByteArray) := by unfold effOf; rw [if_neg hef]
      rw [e] at hj
      exact Ev.neg hef (Ev.pos (by clear w; omega) hj)
/-! The reference's. -/
theorem spec_wp_l1 (l : List S58) (j f0 : Int) (f1 f2 f3 : List ByteArray) (c : List S61) (hc : ∀ x ∈ c, condOk x = true) (hl : c.length ≤ 1000) (r : ByteArray) : ∀ (d i : Nat) (acc : ByteArray), c.length - i = d → i ≤ c.length → acc.size ≤ 1000000000 + 1000 * i →
    (if (acc ++ condsText (c.drop i) ++ (⟨#[10]⟩ : ByteArray)).size > 10000 then r = ⟨#[]⟩ else Ev (fun k => spec_WritePolicy.l0 k l (acc ++ condsText (c.drop i) ++ (⟨#[10]⟩ : ByteArray)) (wrap64 (j + 1))) r) → Ev (fun k => spec_WritePolicy.l1 k l acc j (i : Int) f0 f1 f2 f3 c) r := by
  intro d
  induction d with
  | zero =>
    intro i acc hd hi ha h
    have e : i = c.length := by omega
    subst e
    rw [List.drop_length, condsText, ba_app_nil] at h
    refine Ev.step (fun k => by rw [spec_WritePolicy.l1, if_neg (Int.lt_irrefl _), if_pos (show acc.size + 1 ≤ 9223372036854775807 by omega)]) ?_
    by_cases hb : (acc ++ (⟨#[10]⟩ : ByteArray)).size > 10000
    · rw [if_pos hb] at h
      exact Ev.pos (by omega) (Ev.give h.symm)
    · rw [if_neg hb] at h
      exact Ev.neg (by omega) h
  | succ d ih =>
    intro i acc hd hi ha h
    have hlt : i < c.length := by omega
    have hr := rdc_at c i hlt
    have hk := hc _ (List.getElem_mem hlt)
    have hz := cond_size hk
    have hkd := kinds hk
    have hh := head_size hkd
    have hw := word_bound hk
    rw [List.drop_eq_getElem_cons hlt, condsText, ← ByteArray.append_assoc] at h
    have hn := ih (i + 1) (acc ++ condText c[i]) (by omega) (by omega) (by rw [ByteArray.size_append]; omega) h
    have ht : acc ++ condText c[i] = ((((acc ++ (⟨#[32]⟩ : ByteArray)) ++ nameOf c[i].f0) ++ (⟨#[32]⟩ : ByteArray)) ++ condWord c[i]) := by
      unfold condText condHead
      rw [ByteArray.append_assoc, ByteArray.append_assoc, ByteArray.append_assoc, ByteArray.append_assoc, ByteArray.append_assoc]
    rw [ht] at hn
    clear ht h
    obtain ⟨x, hx⟩ : ∃ x, c[i] = x := ⟨_, rfl⟩
    rw [hx] at hr hk hz hkd hh hw hn
    clear hx
    have e1 : (⟨#[32]⟩ : ByteArray).size = 1 := rfl
    have c1 : (i : Int) < (c.length : Int) := by omega
    have c2 : (0 : Int) ≤ (i : Int) := by omega
    have c3 : acc.size + 1 ≤ 9223372036854775807 := by omega
    have c4 : (0 : Int) ≤ x.f0 := by omega
    have c5 : x.f0 < 5 := by omega
    have c6 : (acc ++ (⟨#[32]⟩ : ByteArray)).size + (nameOf x.f0).size ≤ 9223372036854775807 := by rw [ByteArray.size_append]; omega
    have c7 : ((acc ++ (⟨#[32]⟩ : ByteArray)) ++ nameOf x.f0).size + 1 ≤ 9223372036854775807 := by rw [ByteArray.size_append, ByteArray.size_append]; omega
    have c8 : (((acc ++ (⟨#[32]⟩ : ByteArray)) ++ nameOf x.f0) ++ (⟨#[32]⟩ : ByteArray)).size + (condWord x).size ≤ 9223372036854775807 := by rw [ByteArray.size_append, ByteArray.size_append, ByteArray.size_append]; omega
    have w : wrap64 ((i : Int) + 1) = ((i + 1 : Nat) : Int) := by rw [wrap64_id (by omega) (by omega)]; rfl
    rw [← w] at hn
    refine Ev.step (fun k => by rw [spec_WritePolicy.l1, if_pos c1, if_pos c2, if_pos c3, hr]) ?_
    refine Ev.bindS rfl (Ev.pos c4 (Ev.pos c5 (Ev.pos c6 (Ev.pos c7 ?_))))
    rcases cond_cases hk with ⟨h1, h2⟩ | ⟨h1, n, h2, h3⟩
    · have hcw : condWord x = x.f1 := by unfold condWord; rw [if_pos h1]
      rw [hcw] at hn c8
      by_cases hk1 : x.f0 = 1
      · exact Ev.pos hk1 (Ev.pos c8 hn)
      · exact Ev.neg hk1 (Ev.pos (by clear w; omega) (Ev.pos c8 hn))
    · have hcw : condWord x = itoaOf (n : Int) := by unfold condWord; rw [if_neg (by clear w; omega), h2]
      rw [hcw] at hn c8
      have hk1 : ¬ x.f0 = 1 := by clear w; omega
      have hk4 : ¬ x.f0 = 4 := by clear w; omega
      refine Ev.neg hk1 (Ev.neg hk4 ?_)
      rw [h2]
      exact Ev.bind (spec_dec n (by clear w; omega)) (Ev.pos c8 hn)
theorem cap_mono (a b : ByteArray) (h : a.size > 10000) : capText (a ++ b) = ⟨#[]⟩ := by
  unfold capText
  rw [if_pos (by rw [ByteArray.size_append]; omega)]
theorem spec_wp_l0 (l : List S58) (hl : l.length ≤ 50) (hf : ∀ x ∈ l, stmtFine x = true) : ∀ (d i : Nat) (acc : ByteArray), l.length - i = d → i ≤ l.length → acc.size ≤ 10000 →
    Ev (fun k => spec_WritePolicy.l0 k l acc (i : Int)) (capText (acc ++ polText (l.drop i))) := by
  intro d
  induction d with
  | zero =>
    intro i acc hd hi ha
    have e : i = l.length := by omega
    subst e
    rw [List.drop_length, polText, ba_app_nil]
    unfold capText
    refine Ev.step (fun k => by rw [spec_WritePolicy.l0, if_neg (Int.lt_irrefl _)]) (Ev.give ?_)
    rw [if_neg (by omega)]
  | succ d ih =>
    intro i acc hd hi ha
    have hlt : i < l.length := by omega
    have hr := rdi_Statement l i hlt
    have hk := hf _ (List.getElem_mem hlt)
    obtain ⟨h1, h2, h3, h4, h5, h6⟩ := fine_parts hk
    have hn := ih (i + 1) (acc ++ stmtText l[i]) (by omega) (by omega)
    rw [List.drop_eq_getElem_cons hlt, polText, ← ByteArray.append_assoc]
    have w : wrap64 ((i : Int) + 1) = ((i + 1 : Nat) : Int) := by rw [wrap64_id (by omega) (by omega)]; rfl
    generalize polText (l.drop (i + 1)) = rest at hn ⊢
    generalize l[i] = s at hr hk h1 h2 h3 h4 h5 h6 hn ⊢
    have hm := mid_size h2 h3 h4
    have he := eff_size s.f0
    have c1 : (i : Int) < (l.length : Int) := by clear w; omega
    have c2 : (0 : Int) ≤ (i : Int) := by clear w; omega
    have j1 := list_join h2
    have j2 := list_join h3
    have j3 := list_join h4
    obtain ⟨b1, b1'⟩ := list_bounds h2
    obtain ⟨b2, b2'⟩ := list_bounds h3
    obtain ⟨b3, b3'⟩ := list_bounds h4
    have t1 := spec_join s.f1 (by clear w; omega) (fun x hx => Nat.le_trans (b1' x hx) (by decide))
    have t2 := spec_join s.f2 (by clear w; omega) (fun x hx => Nat.le_trans (b2' x hx) (by decide))
    have t3 := spec_join s.f3 (by clear w; omega) (fun x hx => Nat.le_trans (b3' x hx) (by decide))
    have hs : stmtText s = effOf s.f0 ++ midText s.f1 s.f2 s.f3 ++ condsText s.f4 ++ (⟨#[10]⟩ : ByteArray) := rfl
    have hef : rdOf ByteArray.empty [(⟨#[]⟩ : ByteArray), (⟨#[97, 108, 108, 111, 119]⟩ : ByteArray), (⟨#[100, 101, 110, 121]⟩ : ByteArray)] s.f0 = effOf s.f0 := by
      rcases h1 with h1 | h1 <;> rw [h1] <;> rfl
    have hj : Ev (fun k => spec_WritePolicy.l1 k l (acc ++ effOf s.f0 ++ midText s.f1 s.f2 s.f3) (i : Int) 0 s.f0 s.f1 s.f2 s.f3 s.f4) (capText (acc ++ stmtText s ++ rest)) := by
      refine spec_wp_l1 l (i : Int) s.f0 s.f1 s.f2 s.f3 s.f4 h5 (by clear w; omega) (capText (acc ++ stmtText s ++ rest)) s.f4.length 0 (acc ++ effOf s.f0 ++ midText s.f1 s.f2 s.f3) rfl (Nat.zero_le _) (by rw [ByteArray.size_append, ByteArray.size_append]; clear w; omega) ?_
      have e : acc ++ effOf s.f0 ++ midText s.f1 s.f2 s.f3 ++ condsText (s.f4.drop 0) ++ (⟨#[10]⟩ : ByteArray) = acc ++ stmtText s := by
        rw [List.drop_zero, hs, ← ByteArray.append_assoc, ← ByteArray.append_assoc, ← ByteArray.append_assoc]
      rw [e, w]
      by_cases hb : (acc ++ stmtText s).size > 10000
      · rw [if_pos hb]
        exact cap_mono _ _ hb
      · rw [if_neg hb]
        exact hn (by clear w; omega)
    have hmid : ((((((acc ++ effOf s.f0) ++ (⟨#[32, 119, 104, 111, 32]⟩ : ByteArray)) ++ joinOf s.f1 (⟨#[44]⟩ : ByteArray)) ++ (⟨#[32, 100, 111, 32]⟩ : ByteArray)) ++ joinOf s.f2 (⟨#[44]⟩ : ByteArray)) ++ (⟨#[32, 111, 110, 32]⟩ : ByteArray)) ++ joinOf s.f3 (⟨#[44]⟩ : ByteArray) = acc ++ effOf s.f0 ++ midText s.f1 s.f2 s.f3 := by
      unfold midText
      simp only [ByteArray.append_assoc]
    rw [← hmid] at hj
    have e1 : (⟨#[32, 119, 104, 111, 32]⟩ : ByteArray).size = 5 := rfl
    have e2 : (⟨#[32, 100, 111, 32]⟩ : ByteArray).size = 4 := rfl
    have e3 : (⟨#[32, 111, 110, 32]⟩ : ByteArray).size = 4 := rfl
    have g1 : (0 : Int) ≤ s.f0 := by clear w; omega
    have g2 : s.f0 < 3 := by clear w; omega
    have d0 : acc.size + (effOf s.f0).size ≤ 9223372036854775807 := by clear w; omega
    have d1 : (acc ++ effOf s.f0).size + 5 ≤ 9223372036854775807 := by simp only [ByteArray.size_append]; clear w; omega
    have d2 : ((acc ++ effOf s.f0) ++ (⟨#[32, 119, 104, 111, 32]⟩ : ByteArray)).size + (joinOf s.f1 (⟨#[44]⟩ : ByteArray)).size ≤ 9223372036854775807 := by simp only [ByteArray.size_append]; clear w; omega
    have d3 : (((acc ++ effOf s.f0) ++ (⟨#[32, 119, 104, 111, 32]⟩ : ByteArray)) ++ joinOf s.f1 (⟨#[44]⟩ : ByteArray)).size + 4 ≤ 9223372036854775807 := by simp only [ByteArray.size_append]; clear w; omega
    have d4 : ((((acc ++ effOf s.f0) ++ (⟨#[32, 119, 104, 111, 32]⟩ : ByteArray)) ++ joinOf s.f1 (⟨#[44]⟩ : ByteArray)) ++ (⟨#[32, 100, 111, 32]⟩ : ByteArray)).size + (joinOf s.f2 (⟨#[44]⟩ : ByteArray)).size ≤ 9223372036854775807 := by simp only [ByteArray.size_append]; clear w; omega
    have d5 : (((((acc ++ effOf s.f0) ++ (⟨#[32, 119, 104, 111, 32]⟩ : ByteArray)) ++ joinOf s.f1 (⟨#[44]⟩ : ByteArray)) ++ (⟨#[32, 100, 111, 32]⟩ : ByteArray)) ++ joinOf s.f2 (⟨#[44]⟩ : ByteArray)).size + 4 ≤ 9223372036854775807 := by simp only [ByteArray.size_append]; clear w; omega
    have d6 : ((((((acc ++ effOf s.f0) ++ (⟨#[32, 119, 104, 111, 32]⟩ : ByteArray)) ++ joinOf s.f1 (⟨#[44]⟩ : ByteArray)) ++ (⟨#[32, 100, 111, 32]⟩ : ByteArray)) ++ joinOf s.f2 (⟨#[44]⟩ : ByteArray)) ++ (⟨#[32, 111, 110, 32]⟩ : ByteArray)).size + (joinOf s.f3 (⟨#[44]⟩ : ByteArray)).size ≤ 9223372036854775807 := by simp only [ByteArray.size_append]; clear w; omega
    refine Ev.step (fun k => by rw [spec_WritePolicy.l0, if_pos c1, if_pos c2, hr]) ?_
    refine Ev.bindS rfl (Ev.pos g1 (Ev.pos g2 ?_))
    rw [hef]
    exact Ev.pos d0 (Ev.pos d1 (Ev.bind t1 (Ev.pos d2 (Ev.pos d3 (Ev.bind t2 (Ev.pos d4 (Ev.pos d5 (Ev.bind t3 (Ev.pos d6 hj)))))))))
/-- What both answer. -/
def writePolicyOf (l : List S58) : ByteArray := if policyFaultOf l = 0 then capText (polText l) else ⟨#[]⟩
theorem policy_zero {l : List S58} (h : policyFaultOf l = 0) : l.length ≤ 50 ∧ ∀ x ∈ l, stmtFine x = true := by
  unfold policyFaultOf at h
  by_cases h1 : (l.length : Int) > 50
  · rw [if_pos h1] at h; exact absurd h (by decide)
  · rw [if_neg h1] at h
    by_cases h2 : l.all stmtFine = true
    · exact ⟨by omega, List.all_eq_true.1 h2⟩
    · rw [if_neg h2] at h; exact absurd h (by decide)
theorem impl_write (l : List S58) (hl : l.length ≤ 1048576) (hs : ∀ x ∈ l, okStmtI 1048576 x) : Ev (fun k => impl_WritePolicy.f k l) (writePolicyOf l) := by
  unfold writePolicyOf
  refine Ev.congr (fun k => by rw [impl_WritePolicy.f]) (Ev.bind (impl_policy l hl hs) ?_)
  by_cases h : policyFaultOf l = 0
  · obtain ⟨h1, h2⟩ := policy_zero h
    rw [if_pos h]
    have := impl_wp_l0 l h1 h2 l.length 0 ⟨#[]⟩ rfl (Nat.zero_le _) (Nat.zero_le _)
    rw [List.drop_zero, ba_nil_app] at this
    exact Ev.pos h this
  · rw [if_neg h]
    exact Ev.neg h (Ev.now _)
theorem spec_write (l : List S58) (hl : l.length ≤ 1048576) (hs : ∀ x ∈ l, okStmtI 1048576 x) : Ev (fun k => spec_WritePolicy.f k l) (writePolicyOf l) := by
  unfold writePolicyOf
  refine Ev.congr (fun k => by rw [spec_WritePolicy.f]) (Ev.bind (spec_policy l hl hs) ?_)
  by_cases h : policyFaultOf l = 0
  · obtain ⟨h1, h2⟩ := policy_zero h
    rw [if_pos h]
    have := spec_wp_l0 l h1 h2 l.length 0 ⟨#[]⟩ rfl (Nat.zero_le _) (Nat.zero_le _)
    rw [List.drop_zero, ba_nil_app] at this
    exact Ev.pos h this
  · rw [if_neg h]
    exact Ev.neg h (Ev.now _)

theorem FnExactWritePolicy : laws_FnExactWritePolicy.Wants := by
  intro l hg
  refine Ev.rounds (Ev.congr (fun k => by rw [laws_FnExactWritePolicy.f]) ?_)
  have hgs : ∀ x ∈ l, okStmt 9223372036854775807 x := fun x hx => by
    have g := hg.2 x hx
    exact ⟨⟨g.2.1.1, fun y hy => g.2.1.2 y hy⟩, ⟨g.2.2.1.1, fun y hy => g.2.2.1.2 y hy⟩, ⟨g.2.2.2.1.1, fun y hy => g.2.2.2.1.2 y hy⟩, ⟨g.2.2.2.2.1, fun y hy => (g.2.2.2.2.2 y hy).2.1⟩⟩
  obtain ⟨r, e, b⟩ := szStatementS l 1048576 hg.1 hgs (by omega) (by omega)
  refine Ev.bind e ?_
  by_cases hn : r < 0
  · exact Ev.pos hn (Ev.now _)
  · refine Ev.neg hn ?_
    have q := b (by omega)
    have hl := q.2.1
    have hs := q.2.2
    have hm : (l.map statementOf).length ≤ 1048576 := by simpa using hl
    have hms : ∀ x ∈ l.map statementOf, okStmtI 1048576 x := fun x hx => by obtain ⟨y, hy, rfl⟩ := List.mem_map.1 hx; exact okStmt_of _ _ (hs y hy)
    exact Ev.bind (toStatementS l hl hs) (Ev.bind (spec_write _ hm hms) (Ev.bind (toStatementS l hl hs) (Ev.bind (impl_write _ hm hms) (Ev.pos rfl (Ev.bind (toStatementS l hl hs) (Ev.bind (eqStatementS _ hm hms) (Ev.pos rfl (Ev.now _))))))))

end Go.Proofs.YtepnjhmdcaolkaaDoor.Pure
