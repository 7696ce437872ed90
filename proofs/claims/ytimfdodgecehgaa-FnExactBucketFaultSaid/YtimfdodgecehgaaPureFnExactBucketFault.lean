/- The statement FnExactBucketFault over numbers and lists alone: the program's BucketFault and the reference's answer the same, and the bucket that was handed in is as it was. No condition. -/
import Derived.Test.YtimfdodgecehgaaQFnExactBucketFaultx8
import Derived.Laws.BitsAllLaws
import Derived.Laws.Bits64
import Derived.Test.YtimfdodgecehgaaGoodFnExactBucketFault
set_option linter.all false
namespace Go.Proofs.Ytimfdodgecehgaa.Pure
open Go.RowKit Go.Proofs.Ytimfdodgecehgaa.QFnExactBucketFault Go.Proofs.YtimfdodgecehgaaW.PrintWords Go.Proofs.YtimfdodgecehgaaW.PrintLast Go.Proofs.YtimfdodgecehgaaW.PrintMore

/-! Small lemmas on wraps, rounds and lists. -/
theorem wrap64_id {x : Int} (h0 : -9223372036854775808 ≤ x) (h1 : x < 9223372036854775808) : wrap64 x = x := by unfold wrap64; omega
theorem u64_id {x : Int} (h0 : 0 ≤ x) (h1 : x < 18446744073709551616) : IntKind.u64.wrap x = x := by rw [IntKind.wrap_u64]; omega
theorem Ev.pos {α : Type} {c : Prop} [Decidable c] {f g : Nat → Option α} {r : α} (h : c) (e : Ev f r) : Ev (fun k => if c then f k else g k) r := by simpa [h] using e
theorem Ev.neg {α : Type} {c : Prop} [Decidable c] {f g : Nat → Option α} {r : α} (h : ¬ c) (e : Ev g r) : Ev (fun k => if c then f k else g k) r := by simpa [h] using e
theorem Ev.bindS {α β : Type} {g : Option α} {f : Nat → α → Option β} {a : α} {r : β} (h : g = some a) (e : Ev (fun k => f k a) r) : Ev (fun k => g.bind (f k)) r := by subst h; simpa using e
theorem Ev.give {α : Type} {r s : α} (h : s = r) : Ev (fun _ => some s) r := by subst h; exact Ev.now _
theorem bt_drop (s : ByteArray) (i : Nat) (h : i < s.size) : ∃ c : UInt8, s.data.toList.drop i = c :: s.data.toList.drop (i + 1) ∧ bt s (i : Int) = (c.toNat : Int) := by
  have hl : i < s.data.toList.length := by simpa using h
  refine ⟨s.data.toList[i], List.drop_eq_getElem_cons hl, ?_⟩
  unfold bt
  rw [dif_pos (by simpa using h)]
  simp [ByteArray.getElem_eq_getElem_data]
theorem drop_end (s : ByteArray) (i : Nat) (h : s.size ≤ i) : s.data.toList.drop i = [] := List.drop_eq_nil_of_le (by simpa using h)
theorem size_strOfNums (l : List Int) : (strOfNums l).size = l.length := by
  show (strOfNums l).data.size = l.length
  simp [strOfNums]
theorem i64_range {n : Int} (h : (Lit.int .i64 n).wf = true) : -9223372036854775808 ≤ n ∧ n < 9223372036854775808 := by
  simp only [Lit.wf, IntKind.min, IntKind.max, IntKind.signed, IntKind.bits, Bool.and_eq_true, decide_eq_true_eq, if_true] at h; omega
theorem byte_eq_int (c d : UInt8) : ((c.toNat : Int) = (d.toNat : Int)) ↔ c = d := by
  constructor
  · intro h; exact UInt8.toNat_inj.1 (by omega)
  · rintro rfl; rfl
theorem byte_eq_lit (c : UInt8) (n : Nat) (hn : n < 256) : ((c.toNat : Int) = (n : Int)) ↔ c = UInt8.ofNat n := by
  rw [← byte_eq_int]
  have : (UInt8.ofNat n).toNat = n := by simp [UInt8.toNat_ofNat']; omega
  rw [this]
theorem bt_get (s : ByteArray) (i : Nat) (h : i < s.size) : ∃ c : UInt8, s.data.toList[i]? = some c ∧ bt s (i : Int) = (c.toNat : Int) := by
  obtain ⟨c, e, hb⟩ := bt_drop s i h
  refine ⟨c, ?_, hb⟩
  have : (s.data.toList.drop i)[0]? = some c := by rw [e]; rfl
  simpa using this

theorem set_prefix {α β : Type} (f : α → β) (z : β) (l : List α) (i : Nat) (h : i < l.length) (x : α) (hx : l[i]? = some x) :
    ((l.take i).map f ++ List.replicate (l.length - i) z).set i (f x) = (l.take (i + 1)).map f ++ List.replicate (l.length - (i + 1)) z := by
  have h1 : ((l.take i).map f).length = i := by simp; omega
  rw [List.set_append_right _ _ (by omega), h1, Nat.sub_self]
  have h2 : List.replicate (l.length - i) z = z :: List.replicate (l.length - (i + 1)) z := by
    rw [show l.length - i = (l.length - (i + 1)) + 1 by omega]; rfl
  rw [h2, List.set_cons_zero, List.take_add_one, hx, List.map_append]
  simp

/-! A law's copies of a list of LifeRule: sizes, copies, comparisons. -/
def lifeRuleOf (x : S201) : S204 := ⟨x.f0, x.f1, x.f2⟩
theorem rdl_LifeRule (l : List S201) (i : Nat) (h : i < l.length) : rd_T201 l (i : Int) = l[i] := by
  unfold rd_T201; rw [Int.toNat_natCast, List.getD_eq_getElem?_getD, List.getElem?_eq_getElem h]; rfl
theorem rdi_LifeRule (l : List S204) (i : Nat) (h : i < l.length) : rd_T204 l (i : Int) = l[i] := by
  unfold rd_T204; rw [Int.toNat_natCast, List.getD_eq_getElem?_getD, List.getElem?_eq_getElem h]; rfl
theorem sz_LifeRule (x : S201) (left : Int) (h0 : 0 ≤ left) (h1 : left ≤ 1048576) (g1 : x.f1.size ≤ 9223372036854775807) : ∃ r, laws_szLifeRule.f x.f0 x.f1 x.f2 left = some r ∧ (0 ≤ r → r ≤ left ∧ x.f1.size ≤ 1048576) := by
  unfold laws_szLifeRule.f
  rw [(wrap64_id (x := left - (x.f1.size : Int)) (by omega) (by omega))]
  by_cases c0 : left - (x.f1.size : Int) < 0
  · rw [if_pos c0]; exact ⟨_, rfl, fun h => by omega⟩
  · rw [if_neg c0]
    exact ⟨_, rfl, fun h => by omega⟩
theorem toLifeRuleS_l0 (l : List S201) (hl : l.length ≤ 1048576) : ∀ (d i : Nat), l.length - i = d → i ≤ l.length →
    Ev (fun k => laws_toLifeRuleS.l0 k l ((l.take i).map lifeRuleOf ++ List.replicate (l.length - i) z204) (i : Int)) (l.map lifeRuleOf) := by
  intro d
  induction d with
  | zero =>
    intro i hd hi
    have : i = l.length := by omega
    subst this
    refine Ev.step (fun k => by rw [laws_toLifeRuleS.l0, if_neg (by omega)]) (Ev.give ?_)
    simp
  | succ d ih =>
    intro i hd hi
    have hlt : i < l.length := by omega
    have hx : l[i]? = some l[i] := List.getElem?_eq_getElem hlt
    have hr := rdl_LifeRule l i hlt
    have hw : wrap64 ((i : Int) + 1) = ((i + 1 : Nat) : Int) := by rw [wrap64_id (by omega) (by omega)]; rfl
    have hs := set_prefix lifeRuleOf z204 l i hlt l[i] hx
    refine Ev.step (fun k => by rw [laws_toLifeRuleS.l0, if_pos (by omega), if_pos (by omega), hr, show laws_toLifeRule.f l[i].f0 l[i].f1 l[i].f2 = some (l[i].f0, l[i].f1, l[i].f2) from rfl, Option.bind_some, if_pos (by simp; omega), Int.toNat_natCast, hw, show (⟨(l[i].f0, l[i].f1, l[i].f2).1, (l[i].f0, l[i].f1, l[i].f2).2.1, (l[i].f0, l[i].f1, l[i].f2).2.2⟩ : S204) = lifeRuleOf l[i] from rfl, hs]) ?_
    exact ih (i + 1) (by omega) (by omega)
theorem toLifeRuleS (l : List S201) (hl : l.length ≤ 1048576) : Ev (fun k => laws_toLifeRuleS.f k l) (l.map lifeRuleOf) := by
  refine Ev.congr (fun k => by rw [laws_toLifeRuleS.f, if_pos (by omega), if_pos (by omega), Int.toNat_natCast]) ?_
  have := toLifeRuleS_l0 l hl l.length 0 rfl (by omega)
  simpa using this
theorem eqLifeRule_self (a0 : Int) (a1 : ByteArray) (a2 : Int) : laws_eqLifeRule.f a0 a1 a2 a0 a1 a2 = some true := by unfold laws_eqLifeRule.f; simp
theorem eqLifeRuleS_l0 (l : List S204) (hl : l.length ≤ 1048576) : ∀ (d i : Nat), l.length - i = d → i ≤ l.length → Ev (fun k => laws_eqLifeRuleS.l0 k l l (i : Int)) true := by
  intro d
  induction d with
  | zero =>
    intro i hd hi
    exact Ev.step (fun k => by rw [laws_eqLifeRuleS.l0, if_neg (by omega)]) (Ev.now _)
  | succ d ih =>
    intro i hd hi
    have hw : wrap64 ((i : Int) + 1) = ((i + 1 : Nat) : Int) := by rw [wrap64_id (by omega) (by omega)]; rfl
    refine Ev.step (fun k => by rw [laws_eqLifeRuleS.l0, if_pos (by omega), if_pos (by omega), if_pos (by omega), eqLifeRule_self, Option.bind_some, if_pos rfl, hw]) ?_
    exact ih (i + 1) (by omega) (by omega)
theorem eqLifeRuleS (l : List S204) (hl : l.length ≤ 1048576) : Ev (fun k => laws_eqLifeRuleS.f k l l) true := by
  refine Ev.congr (fun k => by rw [laws_eqLifeRuleS.f, if_pos rfl]) ?_
  exact eqLifeRuleS_l0 l hl l.length 0 rfl (by omega)
theorem szLifeRuleS_l0 (l : List S201) (hl : l.length ≤ 1048576) (hg : ∀ x ∈ l, x.f1.size ≤ 9223372036854775807) : ∀ (d i : Nat) (left : Int), 0 ≤ left → left ≤ 1048576 → l.length - i = d → i ≤ l.length →
    ∃ r, Ev (fun k => laws_szLifeRuleS.l0 k l left (i : Int)) r ∧ (0 ≤ r → r ≤ left ∧ ∀ x ∈ l.drop i, x.f1.size ≤ 1048576) := by
  intro d
  induction d with
  | zero =>
    intro i left h0 h1 hd hi
    exact ⟨left, Ev.step (fun k => by rw [laws_szLifeRuleS.l0, if_neg (by omega)]) (Ev.now _), fun _ => ⟨by omega, by rw [List.drop_eq_nil_of_le (by omega)]; simp⟩⟩
  | succ d ih =>
    intro i left h0 h1 hd hi
    have hlt : i < l.length := by omega
    have hr := rdl_LifeRule l i hlt
    have hw : wrap64 ((i : Int) + 1) = ((i + 1 : Nat) : Int) := by rw [wrap64_id (by omega) (by omega)]; rfl
    have g := hg l[i] (List.getElem_mem hlt)
    obtain ⟨r1, e1, b1⟩ := sz_LifeRule l[i] left h0 h1 g
    by_cases hn : r1 < 0
    · refine ⟨-1, Ev.step (fun k => by rw [laws_szLifeRuleS.l0, if_pos (by omega), if_pos (by omega), hr, e1, Option.bind_some, if_pos hn]) (Ev.now _), fun h => by omega⟩
    · obtain ⟨r2, e2, b2⟩ := ih (i + 1) r1 (by omega) (by have := b1 (by omega); omega) (by omega) (by omega)
      refine ⟨r2, Ev.step (fun k => by rw [laws_szLifeRuleS.l0, if_pos (by omega), if_pos (by omega), hr, e1, Option.bind_some, if_neg hn, hw]) e2, fun h => ?_⟩
      have q1 := b1 (by omega)
      have q2 := b2 h
      refine ⟨by omega, fun x hx => ?_⟩
      rw [List.drop_eq_getElem_cons hlt, List.mem_cons] at hx
      rcases hx with rfl | hx
      · exact q1.2
      · exact q2.2 x hx
theorem szLifeRuleS (l : List S201) (left : Int) (hl : l.length ≤ 9223372036854775807) (hg : ∀ x ∈ l, x.f1.size ≤ 9223372036854775807) (h0 : 0 ≤ left) (h1 : left ≤ 1048576) :
    ∃ r, Ev (fun k => laws_szLifeRuleS.f k l left) r ∧ (0 ≤ r → r ≤ left ∧ l.length ≤ 1048576 ∧ ∀ x ∈ l, x.f1.size ≤ 1048576) := by
  have hw : wrap64 (left - (l.length : Int)) = left - (l.length : Int) := wrap64_id (by omega) (by omega)
  by_cases hn : left - (l.length : Int) < 0
  · exact ⟨-1, Ev.congr (fun k => by rw [laws_szLifeRuleS.f, hw, if_pos hn]) (Ev.now _), fun h => by omega⟩
  · obtain ⟨r, e, b⟩ := szLifeRuleS_l0 l (by omega) hg l.length 0 (left - (l.length : Int)) (by omega) (by omega) rfl (by omega)
    refine ⟨r, Ev.congr (fun k => by rw [laws_szLifeRuleS.f, hw, if_neg hn]; rfl) e, fun h => ?_⟩
    have q := b h
    exact ⟨by omega, by omega, by simpa using q.2⟩

/-! A law's copies of a list of Version: sizes, copies, comparisons. -/
def versionOf (x : S203) : S154 := ⟨x.f0, x.f1, x.f2, x.f3, x.f4, x.f5, x.f6⟩
theorem rdl_Version (l : List S203) (i : Nat) (h : i < l.length) : rd_T203 l (i : Int) = l[i] := by
  unfold rd_T203; rw [Int.toNat_natCast, List.getD_eq_getElem?_getD, List.getElem?_eq_getElem h]; rfl
theorem rdi_Version (l : List S154) (i : Nat) (h : i < l.length) : rd_T154 l (i : Int) = l[i] := by
  unfold rd_T154; rw [Int.toNat_natCast, List.getD_eq_getElem?_getD, List.getElem?_eq_getElem h]; rfl
theorem sz_Version (x : S203) (left : Int) (h0 : 0 ≤ left) (h1 : left ≤ 1048576) (g0 : x.f0.size ≤ 9223372036854775807) (g3 : x.f3.size ≤ 9223372036854775807) : ∃ r, laws_szVersion.f x.f0 x.f1 x.f2 x.f3 x.f4 x.f5 x.f6 left = some r ∧ (0 ≤ r → r ≤ left ∧ x.f0.size ≤ 1048576 ∧ x.f3.size ≤ 1048576) := by
  unfold laws_szVersion.f
  rw [(wrap64_id (x := left - (x.f0.size : Int)) (by omega) (by omega))]
  by_cases c0 : left - (x.f0.size : Int) < 0
  · rw [if_pos c0]; exact ⟨_, rfl, fun h => by omega⟩
  · rw [if_neg c0]
    rw [(wrap64_id (x := (left - (x.f0.size : Int)) - (x.f3.size : Int)) (by omega) (by omega))]
    by_cases c1 : (left - (x.f0.size : Int)) - (x.f3.size : Int) < 0
    · rw [if_pos c1]; exact ⟨_, rfl, fun h => by omega⟩
    · rw [if_neg c1]
      exact ⟨_, rfl, fun h => by omega⟩
theorem toVersionS_l0 (l : List S203) (hl : l.length ≤ 1048576) : ∀ (d i : Nat), l.length - i = d → i ≤ l.length →
    Ev (fun k => laws_toVersionS.l0 k l ((l.take i).map versionOf ++ List.replicate (l.length - i) z154) (i : Int)) (l.map versionOf) := by
  intro d
  induction d with
  | zero =>
    intro i hd hi
    have : i = l.length := by omega
    subst this
    refine Ev.step (fun k => by rw [laws_toVersionS.l0, if_neg (by omega)]) (Ev.give ?_)
    simp
  | succ d ih =>
    intro i hd hi
    have hlt : i < l.length := by omega
    have hx : l[i]? = some l[i] := List.getElem?_eq_getElem hlt
    have hr := rdl_Version l i hlt
    have hw : wrap64 ((i : Int) + 1) = ((i + 1 : Nat) : Int) := by rw [wrap64_id (by omega) (by omega)]; rfl
    have hs := set_prefix versionOf z154 l i hlt l[i] hx
    refine Ev.step (fun k => by rw [laws_toVersionS.l0, if_pos (by omega), if_pos (by omega), hr, show laws_toVersion.f l[i].f0 l[i].f1 l[i].f2 l[i].f3 l[i].f4 l[i].f5 l[i].f6 = some (l[i].f0, l[i].f1, l[i].f2, l[i].f3, l[i].f4, l[i].f5, l[i].f6) from rfl, Option.bind_some, if_pos (by simp; omega), Int.toNat_natCast, hw, show (⟨(l[i].f0, l[i].f1, l[i].f2, l[i].f3, l[i].f4, l[i].f5, l[i].f6).1, (l[i].f0, l[i].f1, l[i].f2, l[i].f3, l[i].f4, l[i].f5, l[i].f6).2.1, (l[i].f0, l[i].f1, l[i].f2, l[i].f3, l[i].f4, l[i].f5, l[i].f6).2.2.1, (l[i].f0, l[i].f1, l[i].f2, l[i].f3, l[i].f4, l[i].f5, l[i].f6).2.2.2.1, (l[i].f0, l[i].f1, l[i].f2, l[i].f3, l[i].f4, l[i].f5, l[i].f6).2.2.2.2.1, (l[i].f0, l[i].f1, l[i].f2, l[i].f3, l[i].f4, l[i].f5, l[i].f6).2.2.2.2.2.1, (l[i].f0, l[i].f1, l[i].f2, l[i].f3, l[i].f4, l[i].f5, l[i].f6).2.2.2.2.2.2⟩ : S154) = versionOf l[i] from rfl, hs]) ?_
    exact ih (i + 1) (by omega) (by omega)
theorem toVersionS (l : List S203) (hl : l.length ≤ 1048576) : Ev (fun k => laws_toVersionS.f k l) (l.map versionOf) := by
  refine Ev.congr (fun k => by rw [laws_toVersionS.f, if_pos (by omega), if_pos (by omega), Int.toNat_natCast]) ?_
  have := toVersionS_l0 l hl l.length 0 rfl (by omega)
  simpa using this
theorem eqVersion_self (a0 : ByteArray) (a1 : Int) (a2 : Bool) (a3 : ByteArray) (a4 : Int) (a5 : Int) (a6 : Bool) : laws_eqVersion.f a0 a1 a2 a3 a4 a5 a6 a0 a1 a2 a3 a4 a5 a6 = some true := by unfold laws_eqVersion.f; simp
theorem eqVersionS_l0 (l : List S154) (hl : l.length ≤ 1048576) : ∀ (d i : Nat), l.length - i = d → i ≤ l.length → Ev (fun k => laws_eqVersionS.l0 k l l (i : Int)) true := by
  intro d
  induction d with
  | zero =>
    intro i hd hi
    exact Ev.step (fun k => by rw [laws_eqVersionS.l0, if_neg (by omega)]) (Ev.now _)
  | succ d ih =>
    intro i hd hi
    have hw : wrap64 ((i : Int) + 1) = ((i + 1 : Nat) : Int) := by rw [wrap64_id (by omega) (by omega)]; rfl
    refine Ev.step (fun k => by rw [laws_eqVersionS.l0, if_pos (by omega), if_pos (by omega), if_pos (by omega), eqVersion_self, Option.bind_some, if_pos rfl, hw]) ?_
    exact ih (i + 1) (by omega) (by omega)
theorem eqVersionS (l : List S154) (hl : l.length ≤ 1048576) : Ev (fun k => laws_eqVersionS.f k l l) true := by
  refine Ev.congr (fun k => by rw [laws_eqVersionS.f, if_pos rfl]) ?_
  exact eqVersionS_l0 l hl l.length 0 rfl (by omega)
theorem szVersionS_l0 (l : List S203) (hl : l.length ≤ 1048576) (hg : ∀ x ∈ l, x.f0.size ≤ 9223372036854775807 ∧ x.f3.size ≤ 9223372036854775807) : ∀ (d i : Nat) (left : Int), 0 ≤ left → left ≤ 1048576 → l.length - i = d → i ≤ l.length →
    ∃ r, Ev (fun k => laws_szVersionS.l0 k l left (i : Int)) r ∧ (0 ≤ r → r ≤ left ∧ ∀ x ∈ l.drop i, x.f0.size ≤ 1048576 ∧ x.f3.size ≤ 1048576) := by
  intro d
  induction d with
  | zero =>
    intro i left h0 h1 hd hi
    exact ⟨left, Ev.step (fun k => by rw [laws_szVersionS.l0, if_neg (by omega)]) (Ev.now _), fun _ => ⟨by omega, by rw [List.drop_eq_nil_of_le (by omega)]; simp⟩⟩
  | succ d ih =>
    intro i left h0 h1 hd hi
    have hlt : i < l.length := by omega
    have hr := rdl_Version l i hlt
    have hw : wrap64 ((i : Int) + 1) = ((i + 1 : Nat) : Int) := by rw [wrap64_id (by omega) (by omega)]; rfl
    have g := hg l[i] (List.getElem_mem hlt)
    obtain ⟨r1, e1, b1⟩ := sz_Version l[i] left h0 h1 g.1 g.2
    by_cases hn : r1 < 0
    · refine ⟨-1, Ev.step (fun k => by rw [laws_szVersionS.l0, if_pos (by omega), if_pos (by omega), hr, e1, Option.bind_some, if_pos hn]) (Ev.now _), fun h => by omega⟩
    · obtain ⟨r2, e2, b2⟩ := ih (i + 1) r1 (by omega) (by have := b1 (by omega); omega) (by omega) (by omega)
      refine ⟨r2, Ev.step (fun k => by rw [laws_szVersionS.l0, if_pos (by omega), if_pos (by omega), hr, e1, Option.bind_some, if_neg hn, hw]) e2, fun h => ?_⟩
      have q1 := b1 (by omega)
      have q2 := b2 h
      refine ⟨by omega, fun x hx => ?_⟩
      rw [List.drop_eq_getElem_cons hlt, List.mem_cons] at hx
      rcases hx with rfl | hx
      · exact q1.2
      · exact q2.2 x hx
theorem szVersionS (l : List S203) (left : Int) (hl : l.length ≤ 9223372036854775807) (hg : ∀ x ∈ l, x.f0.size ≤ 9223372036854775807 ∧ x.f3.size ≤ 9223372036854775807) (h0 : 0 ≤ left) (h1 : left ≤ 1048576) :
    ∃ r, Ev (fun k => laws_szVersionS.f k l left) r ∧ (0 ≤ r → r ≤ left ∧ l.length ≤ 1048576 ∧ ∀ x ∈ l, x.f0.size ≤ 1048576 ∧ x.f3.size ≤ 1048576) := by
  have hw : wrap64 (left - (l.length : Int)) = left - (l.length : Int) := wrap64_id (by omega) (by omega)
  by_cases hn : left - (l.length : Int) < 0
  · exact ⟨-1, Ev.congr (fun k => by rw [laws_szVersionS.f, hw, if_pos hn]) (Ev.now _), fun h => by omega⟩
  · obtain ⟨r, e, b⟩ := szVersionS_l0 l (by omega) hg l.length 0 (left - (l.length : Int)) (by omega) (by omega) rfl (by omega)
    refine ⟨r, Ev.congr (fun k => by rw [laws_szVersionS.f, hw, if_neg hn]; rfl) e, fun h => ?_⟩
    have q := b h
    exact ⟨by omega, by omega, by simpa using q.2⟩

/-- A bucket's size, taken field by field. -/
theorem szBucket (a0 : Int) (a1 : Bool) (a2 : Int) (l3 : List S201) (l4 : List S203) (left : Int) (h3 : l3.length ≤ 9223372036854775807 ∧ ∀ x ∈ l3, x.f1.size ≤ 9223372036854775807) (h4 : l4.length ≤ 9223372036854775807 ∧ ∀ x ∈ l4, x.f0.size ≤ 9223372036854775807 ∧ x.f3.size ≤ 9223372036854775807) (h0 : 0 ≤ left) (h1 : left ≤ 1048576) :
    ∃ r, Ev (fun k => laws_szBucket.f k a0 a1 a2 l3 l4 left) r ∧ (0 ≤ r → r ≤ left ∧ (l3.length ≤ 1048576 ∧ ∀ x ∈ l3, x.f1.size ≤ 1048576) ∧ (l4.length ≤ 1048576 ∧ ∀ x ∈ l4, x.f0.size ≤ 1048576 ∧ x.f3.size ≤ 1048576)) := by
  obtain ⟨r1, e1, b1⟩ := szLifeRuleS l3 left h3.1 h3.2 h0 h1
  by_cases hn : r1 < 0
  · exact ⟨-1, Ev.congr (fun k => by rw [laws_szBucket.f]) (Ev.bind e1 (Ev.pos hn (Ev.now _))), fun h => by omega⟩
  · have q1 := b1 (by omega)
    obtain ⟨r2, e2, b2⟩ := szVersionS l4 r1 h4.1 h4.2 (by omega) (by omega)
    by_cases hn2 : r2 < 0
    · exact ⟨-1, Ev.congr (fun k => by rw [laws_szBucket.f]) (Ev.bind e1 (Ev.neg hn (Ev.bind e2 (Ev.pos hn2 (Ev.now _))))), fun h => by omega⟩
    · have q2 := b2 (by omega)
      exact ⟨r2, Ev.congr (fun k => by rw [laws_szBucket.f]) (Ev.bind e1 (Ev.neg hn (Ev.bind e2 (Ev.neg hn2 (Ev.now _))))), fun h => ⟨by omega, ⟨q1.2.1, q1.2.2⟩, q2.2.1, q2.2.2⟩⟩
theorem toBucket (a0 : Int) (a1 : Bool) (a2 : Int) (l3 : List S201) (l4 : List S203) (h3 : l3.length ≤ 1048576) (h4 : l4.length ≤ 1048576) :
    Ev (fun k => laws_toBucket.f k a0 a1 a2 l3 l4) (a0, a1, a2, l3.map lifeRuleOf, l4.map versionOf) := by
  refine Ev.congr (fun k => by rw [laws_toBucket.f]) ?_
  refine Ev.bind (toLifeRuleS l3 h3) ?_
  refine Ev.bind (toVersionS l4 h4) ?_
  exact Ev.now _
theorem eqBucket (a0 : Int) (a1 : Bool) (a2 : Int) (l3 : List S204) (l4 : List S154) (h3 : l3.length ≤ 1048576) (h4 : l4.length ≤ 1048576) :
    Ev (fun k => laws_eqBucket.f k a0 a1 a2 l3 l4 a0 a1 a2 l3 l4) true :=
  Ev.congr (fun k => by rw [laws_eqBucket.f]) (Ev.pos rfl (Ev.neg (by simp) (Ev.pos rfl (Ev.bind (eqLifeRuleS l3 h3) (Ev.pos rfl (Ev.bind (eqVersionS l4 h4) (Ev.pos rfl (Ev.now _))))))))

/-- The sum of the data's sizes, as the machine adds. -/
def bytesFrom (l : List S154) (n : Int) : Int := l.foldl (fun n x => wrap64 (n + (x.f3.size : Int))) n
theorem spec_bucketBytes_l0 (b0 : Int) (b1 : Bool) (b2 : Int) (l3 : List S204) (l : List S154) (hl : l.length ≤ 1048576) : ∀ (d i : Nat) (n : Int), l.length - i = d → i ≤ l.length → Ev (fun k => spec_BucketBytes.l0 k n (i : Int) b0 b1 b2 l3 l) (bytesFrom (l.drop i) n) := by
  intro d
  induction d with
  | zero =>
    intro i n hd hi
    rw [List.drop_eq_nil_of_le (by omega)]
    refine Ev.step (fun k => by rw [spec_BucketBytes.l0, if_neg (by omega)]) (Ev.give ?_)
    rfl
  | succ d ih =>
    intro i n hd hi
    have hlt : i < l.length := by omega
    have hr := rdi_Version l i hlt
    have hw : wrap64 ((i : Int) + 1) = ((i + 1 : Nat) : Int) := by rw [wrap64_id (by omega) (by omega)]; rfl
    rw [List.drop_eq_getElem_cons hlt]
    exact Ev.step (fun k => by rw [spec_BucketBytes.l0, if_pos (by omega), if_pos (by omega), hr, hw]) (ih (i + 1) _ (by omega) (by omega))
theorem spec_bucketBytes (b0 : Int) (b1 : Bool) (b2 : Int) (l3 : List S204) (l : List S154) (hl : l.length ≤ 1048576) : Ev (fun k => spec_BucketBytes.f k b0 b1 b2 l3 l) (bytesFrom l 0) :=
  Ev.congr (fun k => by rw [spec_BucketBytes.f]; rfl) (spec_bucketBytes_l0 b0 b1 b2 l3 l hl l.length 0 0 rfl (by omega))
theorem impl_bucketBytes_l0 (l : List S154) (hl : l.length ≤ 1048576) : ∀ (d i : Nat) (n : Int), l.length - i = d → i ≤ l.length → Ev (fun k => impl_BucketBytes.l0 k n l (l.length : Int) (i : Int)) (bytesFrom (l.drop i) n) := by
  intro d
  induction d with
  | zero =>
    intro i n hd hi
    rw [List.drop_eq_nil_of_le (by omega)]
    refine Ev.step (fun k => by rw [impl_BucketBytes.l0, if_neg (by omega)]) (Ev.give ?_)
    rfl
  | succ d ih =>
    intro i n hd hi
    have hlt : i < l.length := by omega
    have hr := rdi_Version l i hlt
    have hw : wrap64 ((i : Int) + 1) = ((i + 1 : Nat) : Int) := by rw [wrap64_id (by omega) (by omega)]; rfl
    rw [List.drop_eq_getElem_cons hlt]
    exact Ev.step (fun k => by rw [impl_BucketBytes.l0, if_pos (by omega), if_pos (by omega), if_pos (by omega), hr, hw]) (ih (i + 1) _ (by omega) (by omega))
theorem impl_bucketBytes (b0 : Int) (b1 : Bool) (b2 : Int) (l3 : List S204) (l : List S154) (hl : l.length ≤ 1048576) : Ev (fun k => impl_BucketBytes.f k b0 b1 b2 l3 l) (bytesFrom l 0) :=
  Ev.congr (fun k => by rw [impl_BucketBytes.f]; rfl) (impl_bucketBytes_l0 l hl l.length 0 0 rfl (by omega))

/-! What is right about rules and versions. -/
def timeOk (x : Int) : Bool := decide (0 ≤ x ∧ x ≤ 4102444800)
theorem spec_time (x : Int) : spec_l12Time.f x = some (timeOk x) := by
  unfold spec_l12Time.f timeOk
  by_cases h : x ≥ 0
  · rw [if_pos h]; congr 1; exact decide_eq_decide.2 ⟨fun h2 => ⟨h, h2⟩, fun h2 => h2.2⟩
  · rw [if_neg h]; congr 1; exact (decide_eq_false (fun h2 => h h2.1)).symm
theorem impl_time (x : Int) : impl_rightTime.f x = some (timeOk x) := spec_time x
def keyB (s : ByteArray) : Bool := decide ((s.size : Int) ≥ 1 ∧ (s.size : Int) ≤ 200)
theorem spec_keyB (s : ByteArray) : spec_l12Key.f s = some (keyB s) := by
  unfold spec_l12Key.f keyB
  by_cases h : (s.size : Int) ≥ 1
  · rw [if_pos h]; congr 1; exact decide_eq_decide.2 ⟨fun h2 => ⟨h, h2⟩, fun h2 => h2.2⟩
  · rw [if_neg h]; congr 1; exact (decide_eq_false (fun h2 => h h2.1)).symm
theorem impl_keyB (s : ByteArray) : impl_isKey.f s = some (keyB s) := spec_keyB s
def ruleOk (x : S204) : Bool := if x.f0 < 1 then false else if x.f0 > 3 then false else if (x.f1.size : Int) > 200 then false else timeOk x.f2
def rulesFrom (n : Nat) : List S204 → Bool
  | [] => decide ((n : Int) ≤ 20)
  | x :: l => if ruleOk x = true then rulesFrom n l else false
theorem spec_rules_l0 (l : List S204) (hl : l.length ≤ 1048576) : ∀ (d i : Nat), l.length - i = d → i ≤ l.length → Ev (fun k => spec_l12Rules.l0 k l (i : Int)) (rulesFrom l.length (l.drop i)) := by
  intro d
  induction d with
  | zero =>
    intro i hd hi
    rw [List.drop_eq_nil_of_le (by omega)]
    exact Ev.step (fun k => by rw [spec_l12Rules.l0, if_neg (by omega)]; rfl) (Ev.now _)
  | succ d ih =>
    intro i hd hi
    have hlt : i < l.length := by omega
    have hr := rdi_LifeRule l i hlt
    have hw : wrap64 ((i : Int) + 1) = ((i + 1 : Nat) : Int) := by rw [wrap64_id (by omega) (by omega)]; rfl
    have hn := ih (i + 1) (by omega) (by omega)
    rw [List.drop_eq_getElem_cons hlt]
    refine Ev.step (fun k => by rw [spec_l12Rules.l0, if_pos (by omega), if_pos (by omega), hr, spec_time, Option.bind_some, hw]) ?_
    unfold rulesFrom ruleOk
    by_cases h1 : l[i].f0 < 1
    · refine Ev.pos h1 (Ev.give ?_); rw [if_pos h1]; rfl
    · refine Ev.neg h1 ?_
      rw [if_neg h1]
      by_cases h2 : l[i].f0 > 3
      · refine Ev.pos h2 (Ev.give ?_); rw [if_pos h2]; rfl
      · refine Ev.neg h2 ?_
        rw [if_neg h2]
        by_cases h3 : (l[i].f1.size : Int) > 200
        · refine Ev.pos h3 (Ev.give ?_); rw [if_pos h3]; rfl
        · refine Ev.neg h3 ?_
          rw [if_neg h3]
          by_cases h4 : timeOk l[i].f2 = true
          · refine Ev.pos h4 ?_; rw [if_pos h4]; exact hn
          · refine Ev.neg h4 ?_; rw [if_neg h4]; exact Ev.now _
theorem impl_rules_l0 (l : List S204) (hl : l.length ≤ 1048576) : ∀ (d i : Nat), l.length - i = d → i ≤ l.length → Ev (fun k => impl_rulesRight.l0 k l l (l.length : Int) (i : Int)) (rulesFrom l.length (l.drop i)) := by
  intro d
  induction d with
  | zero =>
    intro i hd hi
    rw [List.drop_eq_nil_of_le (by omega)]
    exact Ev.step (fun k => by rw [impl_rulesRight.l0, if_neg (by omega)]; rfl) (Ev.now _)
  | succ d ih =>
    intro i hd hi
    have hlt : i < l.length := by omega
    have hr := rdi_LifeRule l i hlt
    have hw : wrap64 ((i : Int) + 1) = ((i + 1 : Nat) : Int) := by rw [wrap64_id (by omega) (by omega)]; rfl
    have hn := ih (i + 1) (by omega) (by omega)
    rw [List.drop_eq_getElem_cons hlt]
    refine Ev.step (fun k => by rw [impl_rulesRight.l0, if_pos (by omega), if_pos (by omega), if_pos (by omega), hr, impl_time, Option.bind_some, hw]) ?_
    unfold rulesFrom ruleOk
    by_cases h1 : l[i].f0 < 1
    · refine Ev.pos h1 (Ev.give ?_); rw [if_pos h1]; rfl
    · refine Ev.neg h1 ?_
      rw [if_neg h1]
      by_cases h2 : l[i].f0 > 3
      · refine Ev.pos h2 (Ev.give ?_); rw [if_pos h2]; rfl
      · refine Ev.neg h2 ?_
        rw [if_neg h2]
        by_cases h3 : (l[i].f1.size : Int) > 200
        · refine Ev.pos h3 (Ev.give ?_); rw [if_pos h3]; rfl
        · refine Ev.neg h3 ?_
          rw [if_neg h3]
          by_cases h4 : timeOk l[i].f2 = true
          · refine Ev.pos h4 ?_; rw [if_pos h4]; exact hn
          · refine Ev.neg h4 ?_; rw [if_neg h4]; exact Ev.now _
def verOk (x : S154) : Bool :=
  if keyB x.f0 = true then (if (x.f3.size : Int) > 100000 then false else if timeOk x.f4 = true then (if timeOk x.f5 = true then (if x.f2 = true then (if x.f3.toList = ([] : List UInt8) then (if x.f5 = 0 then !x.f6 else false) else false) else true) else false) else false) else false
def listOk (next : Int) : List S154 → Int → Bool
  | [], _ => true
  | x :: l, last => if x.f1 ≤ last then false else if x.f1 ≥ next then false else if verOk x = true then listOk next l x.f1 else false
theorem impl_ver (x : S154) : impl_versionRight.f x.f0 x.f1 x.f2 x.f3 x.f4 x.f5 x.f6 = some (verOk x) := by
  unfold impl_versionRight.f verOk
  rw [impl_keyB, Option.bind_some]
  by_cases h1 : keyB x.f0 = true
  · rw [if_pos h1, if_pos h1]
    by_cases h2 : (x.f3.size : Int) > 100000
    · rw [if_pos h2, if_pos h2]
    · rw [if_neg h2, if_neg h2, impl_time, Option.bind_some]
      by_cases h3 : timeOk x.f4 = true
      · rw [if_pos h3, if_pos h3, impl_time, Option.bind_some]
        by_cases h4 : timeOk x.f5 = true
        · rw [if_pos h4, if_pos h4]
          by_cases h5 : x.f2 = true
          · rw [if_pos h5, if_pos h5]
            by_cases h6 : x.f3.toList = ([] : List UInt8)
            · rw [if_pos h6, if_pos h6]
              by_cases h7 : x.f5 = 0
              · rw [if_pos h7, if_pos h7]
              · rw [if_neg h7, if_neg h7]
            · rw [if_neg h6, if_neg h6]
          · rw [if_neg h5, if_neg h5]
        · rw [if_neg h4, if_neg h4]
      · rw [if_neg h3, if_neg h3]
  · rw [if_neg h1, if_neg h1]
def codeOf (b : Bool) : Int := if b = true then 0 else 1
theorem spec_list_l0 (b0 : Int) (b1 : Bool) (b2 : Int) (l3 : List S204) (l : List S154) (hl : l.length ≤ 1048576) : ∀ (d i : Nat) (last : Int), l.length - i = d → i ≤ l.length →
    Ev (fun k => spec_BucketFault.l0 k last (i : Int) b0 b1 b2 l3 l) (codeOf (listOk b0 (l.drop i) last)) := by
  intro d
  induction d with
  | zero =>
    intro i last hd hi
    rw [List.drop_eq_nil_of_le (by omega)]
    exact Ev.step (fun k => by rw [spec_BucketFault.l0, if_neg (by omega)]; rfl) (Ev.now _)
  | succ d ih =>
    intro i last hd hi
    have hlt : i < l.length := by omega
    have hr := rdi_Version l i hlt
    have hw : wrap64 ((i : Int) + 1) = ((i + 1 : Nat) : Int) := by rw [wrap64_id (by omega) (by omega)]; rfl
    have hn := ih (i + 1) l[i].f1 (by omega) (by omega)
    rw [List.drop_eq_getElem_cons hlt]
    refine Ev.step (fun k => by rw [spec_BucketFault.l0, if_pos (by omega), if_pos (by omega), hr, hw]) ?_
    unfold listOk
    by_cases g1 : l[i].f1 ≤ last
    · refine Ev.pos g1 (Ev.give ?_); rw [if_pos g1]; rfl
    · refine Ev.neg g1 ?_
      rw [if_neg g1]
      by_cases g2 : l[i].f1 ≥ b0
      · refine Ev.pos g2 (Ev.give ?_); rw [if_pos g2]; rfl
      · refine Ev.neg g2 ?_
        rw [if_neg g2]
        refine Ev.bindS (spec_keyB _) ?_
        unfold verOk
        by_cases h1 : keyB l[i].f0 = true
        · refine Ev.pos h1 ?_
          rw [if_pos h1]
          by_cases h2 : (l[i].f3.size : Int) > 100000
          · refine Ev.pos h2 (Ev.give ?_); rw [if_pos h2]; rfl
          · refine Ev.neg h2 (Ev.bindS (spec_time _) ?_)
            rw [if_neg h2]
            by_cases h3 : timeOk l[i].f4 = true
            · refine Ev.pos h3 (Ev.bindS (spec_time _) ?_)
              rw [if_pos h3]
              by_cases h4 : timeOk l[i].f5 = true
              · refine Ev.pos h4 ?_
                rw [if_pos h4]
                by_cases h5 : l[i].f2 = true
                · refine Ev.pos h5 ?_
                  rw [if_pos h5]
                  by_cases h6 : l[i].f3.toList = ([] : List UInt8)
                  · refine Ev.pos h6 ?_
                    rw [if_pos h6]
                    by_cases h7 : l[i].f5 = 0
                    · refine Ev.pos h7 ?_
                      rw [if_pos h7]
                      by_cases h8 : l[i].f6 = true
                      · refine Ev.pos h8 (Ev.give ?_); rw [h8]; rfl
                      · refine Ev.neg h8 ?_
                        rw [Bool.not_eq_true] at h8
                        rw [h8]
                        exact hn
                    · refine Ev.neg h7 (Ev.give ?_); rw [if_neg h7]; rfl
                  · refine Ev.neg h6 (Ev.give ?_); rw [if_neg h6]; rfl
                · refine Ev.neg h5 ?_
                  rw [if_neg h5]
                  exact hn
              · refine Ev.neg h4 (Ev.give ?_); rw [if_neg h4]; rfl
            · refine Ev.neg h3 (Ev.give ?_); rw [if_neg h3]; rfl
        · refine Ev.neg h1 (Ev.give ?_); rw [if_neg h1]; rfl
/-- The quota's part. -/
def quotaBad (q : Int) (l : List S154) : Bool := decide (q > 0 ∧ bytesFrom l 0 > q)
theorem impl_list_l0 (b0 : Int) (b1 : Bool) (b2 : Int) (l3 : List S204) (l : List S154) (hl : l.length ≤ 1048576) : ∀ (d i : Nat) (last : Int), l.length - i = d → i ≤ l.length →
    Ev (fun k => impl_BucketFault.l0 k last l (l.length : Int) (i : Int) b0 b1 b2 l3 l) (codeOf (listOk b0 (l.drop i) last && !quotaBad b2 l)) := by
  intro d
  induction d with
  | zero =>
    intro i last hd hi
    rw [List.drop_eq_nil_of_le (by omega)]
    refine Ev.step (fun k => by rw [impl_BucketFault.l0, if_neg (by omega)]) ?_
    unfold listOk quotaBad
    by_cases h1 : b2 > 0
    · refine Ev.pos h1 (Ev.bind (impl_bucketBytes b0 b1 b2 l3 l hl) ?_)
      by_cases h2 : bytesFrom l 0 > b2
      · refine Ev.pos h2 (Ev.give ?_); rw [decide_eq_true ⟨h1, h2⟩]; rfl
      · refine Ev.neg h2 (Ev.give ?_); rw [decide_eq_false (fun h => h2 h.2)]; rfl
    · refine Ev.neg h1 (Ev.give ?_); rw [decide_eq_false (fun h => h1 h.1)]; rfl
  | succ d ih =>
    intro i last hd hi
    have hlt : i < l.length := by omega
    have hr := rdi_Version l i hlt
    have hw : wrap64 ((i : Int) + 1) = ((i + 1 : Nat) : Int) := by rw [wrap64_id (by omega) (by omega)]; rfl
    have hn := ih (i + 1) l[i].f1 (by omega) (by omega)
    rw [List.drop_eq_getElem_cons hlt]
    refine Ev.step (fun k => by rw [impl_BucketFault.l0, if_pos (by omega), if_pos (by omega), if_pos (by omega), hr, hw]) ?_
    unfold listOk
    by_cases g1 : l[i].f1 ≤ last
    · refine Ev.pos g1 (Ev.give ?_); rw [if_pos g1]; rfl
    · refine Ev.neg g1 ?_
      rw [if_neg g1]
      by_cases g2 : l[i].f1 ≥ b0
      · refine Ev.pos g2 (Ev.give ?_); rw [if_pos g2]; rfl
      · refine Ev.neg g2 (Ev.bindS (impl_ver _) ?_)
        rw [if_neg g2]
        by_cases h1 : verOk l[i] = true
        · refine Ev.pos h1 ?_; rw [if_pos h1]; exact hn
        · refine Ev.neg h1 (Ev.give ?_); rw [if_neg h1]; rfl
def headBad (a0 a2 : Int) : Bool := decide (a0 < 1 ∨ a0 > 1099511627776 ∨ a2 < 0 ∨ a2 > 400000)
/-- What BucketFault answers. -/
def bucketFault (a0 a2 : Int) (l3 : List S204) (l4 : List S154) : Int :=
  if headBad a0 a2 = true then 1 else if rulesFrom l3.length l3 = true then (if (l4.length : Int) > 300 then 1 else codeOf (listOk a0 l4 0 && !quotaBad a2 l4)) else 1
theorem spec_bucketFault (a0 : Int) (a1 : Bool) (a2 : Int) (l3 : List S204) (l4 : List S154) (h3 : l3.length ≤ 1048576) (h4 : l4.length ≤ 1048576) : Ev (fun k => spec_BucketFault.f k a0 a1 a2 l3 l4) (bucketFault a0 a2 l3 l4) := by
  have out : Ev (fun k => spec_BucketFault.j0 k true a0 a1 a2 l3 l4) 1 := Ev.step (fun k => by rw [spec_BucketFault.j0, if_pos rfl]) (Ev.now _)
  have hlist := spec_list_l0 a0 a1 a2 l3 l4 h4 l4.length 0 0 (by omega) (by omega)
  rw [List.drop_zero] at hlist
  have hrules : Ev (fun k => spec_l12Rules.f k l3) (rulesFrom l3.length l3) := by
    have := spec_rules_l0 l3 h3 l3.length 0 (by omega) (by omega)
    rw [List.drop_zero] at this
    exact Ev.congr (fun k => by rw [spec_l12Rules.f]; rfl) this
  unfold bucketFault
  refine Ev.congr (fun k => by rw [spec_BucketFault.f]) ?_
  by_cases h1 : a0 < 1
  · rw [if_pos (show headBad a0 a2 = true from decide_eq_true (Or.inl h1))]; exact Ev.pos h1 out
  · refine Ev.neg h1 ?_
    by_cases h2 : a0 > 1099511627776
    · rw [if_pos (show headBad a0 a2 = true from decide_eq_true (Or.inr (Or.inl h2)))]; exact Ev.pos h2 out
    · refine Ev.neg h2 ?_
      by_cases h5 : a2 < 0
      · rw [if_pos (show headBad a0 a2 = true from decide_eq_true (Or.inr (Or.inr (Or.inl h5))))]; exact Ev.pos h5 out
      · refine Ev.neg h5 ?_
        by_cases h6 : a2 > 400000
        · rw [if_pos (show headBad a0 a2 = true from decide_eq_true (Or.inr (Or.inr (Or.inr h6))))]; exact Ev.pos h6 out
        · refine Ev.neg h6 (Ev.bind hrules ?_)
          rw [if_neg (show ¬ headBad a0 a2 = true from fun h => by unfold headBad at h; have := of_decide_eq_true h; omega)]
          by_cases h7 : rulesFrom l3.length l3 = true
          · refine Ev.pos h7 ?_
            rw [if_pos h7]
            by_cases h8 : (l4.length : Int) > 300
            · rw [if_pos h8]; exact Ev.pos h8 out
            · refine Ev.neg h8 ?_
              rw [if_neg h8]
              have go : Ev (fun k => spec_BucketFault.j0 k false a0 a1 a2 l3 l4) (codeOf (listOk a0 l4 0)) := Ev.step (fun k => by rw [spec_BucketFault.j0, if_neg (by decide)]; rfl) hlist
              unfold quotaBad
              by_cases h9 : a2 > 0
              · refine Ev.pos h9 (Ev.bind (spec_bucketBytes a0 a1 a2 l3 l4 h4) ?_)
                by_cases h10 : bytesFrom l4 0 > a2
                · rw [decide_eq_true h10, decide_eq_true ⟨h9, h10⟩, show codeOf (listOk a0 l4 0 && !true) = 1 by rw [show (!true) = false from rfl, Bool.and_false]; rfl]
                  exact out
                · rw [decide_eq_false h10, decide_eq_false (fun h : a2 > 0 ∧ bytesFrom l4 0 > a2 => h10 h.2), show (!false) = true from rfl, Bool.and_true]
                  exact go
              · refine Ev.neg h9 ?_
                rw [decide_eq_false (fun h : a2 > 0 ∧ bytesFrom l4 0 > a2 => h9 h.1), show (!false) = true from rfl, Bool.and_true]
                exact go
          · refine Ev.neg h7 ?_
            rw [if_neg h7]
            exact out
theorem impl_bucketFault (a0 : Int) (a1 : Bool) (a2 : Int) (l3 : List S204) (l4 : List S154) (h3 : l3.length ≤ 1048576) (h4 : l4.length ≤ 1048576) : Ev (fun k => impl_BucketFault.f k a0 a1 a2 l3 l4) (bucketFault a0 a2 l3 l4) := by
  have out : Ev (fun k => impl_BucketFault.j0 k true a0 a1 a2 l3 l4) 1 := Ev.step (fun k => by rw [impl_BucketFault.j0, if_pos rfl]) (Ev.now _)
  have hlist := impl_list_l0 a0 a1 a2 l3 l4 h4 l4.length 0 0 (by omega) (by omega)
  rw [List.drop_zero] at hlist
  have hrules : Ev (fun k => impl_rulesRight.f k l3) (rulesFrom l3.length l3) := by
    have := impl_rules_l0 l3 h3 l3.length 0 (by omega) (by omega)
    rw [List.drop_zero] at this
    exact Ev.congr (fun k => by rw [impl_rulesRight.f]; rfl) this
  unfold bucketFault
  refine Ev.congr (fun k => by rw [impl_BucketFault.f]) ?_
  by_cases h1 : a0 < 1
  · rw [if_pos (show headBad a0 a2 = true from decide_eq_true (Or.inl h1))]; exact Ev.pos h1 out
  · refine Ev.neg h1 ?_
    by_cases h2 : a0 > 1099511627776
    · rw [if_pos (show headBad a0 a2 = true from decide_eq_true (Or.inr (Or.inl h2)))]; exact Ev.pos h2 out
    · refine Ev.neg h2 ?_
      by_cases h5 : a2 < 0
      · rw [if_pos (show headBad a0 a2 = true from decide_eq_true (Or.inr (Or.inr (Or.inl h5))))]; exact Ev.pos h5 out
      · refine Ev.neg h5 ?_
        by_cases h6 : a2 > 400000
        · rw [if_pos (show headBad a0 a2 = true from decide_eq_true (Or.inr (Or.inr (Or.inr h6))))]; exact Ev.pos h6 out
        · refine Ev.neg h6 (Ev.bind hrules ?_)
          rw [if_neg (show ¬ headBad a0 a2 = true from fun h => by unfold headBad at h; have := of_decide_eq_true h; omega)]
          by_cases h7 : rulesFrom l3.length l3 = true
          · refine Ev.pos h7 ?_
            rw [if_pos h7]
            by_cases h8 : (l4.length : Int) > 300
            · rw [if_pos h8, decide_eq_true h8]; exact out
            · rw [if_neg h8, decide_eq_false h8]
              exact Ev.step (fun k => by rw [impl_BucketFault.j0, if_neg (by decide)]; rfl) hlist
          · refine Ev.neg h7 ?_
            rw [if_neg h7]
            exact out

theorem FnExactBucketFault : laws_FnExactBucketFault.Wants := by
  intro a0 a1 a2 l3 l4 g0 g2 g3 g4
  refine Ev.rounds (Ev.congr (fun k => by rw [laws_FnExactBucketFault.f]) ?_)
  obtain ⟨r, e, b⟩ := szBucket a0 a1 a2 l3 l4 1048576 ⟨g3.1, fun x hx => (g3.2 x hx).2.1⟩ ⟨g4.1, fun x hx => ⟨(g4.2 x hx).1, (g4.2 x hx).2.2.2.1⟩⟩ (by omega) (by omega)
  refine Ev.bind e ?_
  by_cases hn : r < 0
  · exact Ev.pos hn (Ev.now _)
  · refine Ev.neg hn ?_
    obtain ⟨_, ⟨h3, _⟩, ⟨h4, _⟩⟩ := b (by omega)
    have m3 : (l3.map lifeRuleOf).length ≤ 1048576 := by simpa using h3
    have m4 : (l4.map versionOf).length ≤ 1048576 := by simpa using h4
    exact Ev.bind (toBucket a0 a1 a2 l3 l4 h3 h4) (Ev.bind (spec_bucketFault _ _ _ _ _ m3 m4) (Ev.bind (toBucket a0 a1 a2 l3 l4 h3 h4) (Ev.bind (impl_bucketFault _ _ _ _ _ m3 m4) (Ev.pos rfl (Ev.bind (toBucket a0 a1 a2 l3 l4 h3 h4) (Ev.bind (eqBucket _ _ _ _ _ m3 m4) (Ev.pos rfl (Ev.now _))))))))

end Go.Proofs.Ytimfdodgecehgaa.Pure
