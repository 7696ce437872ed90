/- The statement FnExactBucketBytes over numbers and lists alone: the program's BucketBytes and the reference's answer the same number, the argument unchanged. No condition. -/
import Derived.Test.YtimfdodgecehgaaPFnExactBucketBytesx4
import Derived.Laws.BitsAllLaws
import Derived.Laws.Bits64
import Derived.Test.YtimfdodgecehgaaGoodFnExactBucketBytes
set_option linter.all false
namespace Go.Proofs.Ytimfdodgecehgaa.Pure
open Go.RowKit Go.Proofs.Ytimfdodgecehgaa.PFnExactBucketBytes Go.Proofs.YtimfdodgecehgaaW.PrintWords Go.Proofs.YtimfdodgecehgaaW.PrintLast Go.Proofs.YtimfdodgecehgaaW.PrintMore

/-! Small lemmas on wraps, rounds and lists. -/
theorem wrap64_id {x : Int} (h0 : -9223372036854775808 ≤ x) (h1 : x < 9223372036854775808) : wrap64 x = x := by unfold wrap64; omega
theorem u64_id {x : Int} (h0 : 0 ≤ x) (h1 : x < 18446744073709551616) : IntKind.u64.wrap x = x := by rw [IntKind.wrap_u64]; omega
theorem Ev.pos {α : Type} {c : Prop} [Decidable c] {f g : Nat → Option α} {r : α} (h : c) (e : Ev f r) : Ev (fun k => if c then f k else g k) r := by simpa [h] using e
theorem Ev.neg {α : Type} {c : Prop} [Decidable c] {f g : Nat → Option α} {r : α} (h : ¬ c) (e : Ev g r) : Ev (fun k => if c then f k else g k) r := by simpa [h] using e
theorem Ev.bindS {α β : Type} {g : Option α} {f : Nat → α → Option β} {a : α} {r : β} (h : g = some a) (e : Ev (fun k => f k a) r) : Ev (fun k => g.bind (f k)) r := by subst h; simpa using e
theorem Ev.give {α : Type} {r s : α} (h : s = r) : Ev (fun _ => some s) r := by subst h; exact Ev.now _
theorem bt_drop (s : ByteArray) (i : Nat) (h : i < s.size) : ∃ c : UInt8, s.data.toList.drop i = c :: s.data.toList.drop (i + 1) ∧ bt s (i : Int) = (c.toNat : Int) := by
  have hl : i < s.data.toList.length := by simpa using h
  refine ⟨s.data.toList[i], List.drop_eq_getElem_cons hl, ?_⟩
  unfold bt
  rw [dif_pos (by simpa using h)]
  simp [ByteArray.getElem_eq_getElem_data]
theorem drop_end (s : ByteArray) (i : Nat) (h : s.size ≤ i) : s.data.toList.drop i = [] := List.drop_eq_nil_of_le (by simpa using h)
theorem size_strOfNums (l : List Int) : (strOfNums l).size = l.length := by
  show (strOfNums l).data.size = l.length
  simp [strOfNums]
theorem i64_range {n : Int} (h : (Lit.int .i64 n).wf = true) : -9223372036854775808 ≤ n ∧ n < 9223372036854775808 := by
  simp only [Lit.wf, IntKind.min, IntKind.max, IntKind.signed, IntKind.bits, Bool.and_eq_true, decide_eq_true_eq, if_true] at h; omega
theorem byte_eq_int (c d : UInt8) : ((c.toNat : Int) = (d.toNat : Int)) ↔ c = d := by
  constructor
  · intro h; exact UInt8.toNat_inj.1 (by omega)
  · rintro rfl; rfl
theorem byte_eq_lit (c : UInt8) (n : Nat) (hn : n < 256) : ((c.toNat : Int) = (n : Int)) ↔ c = UInt8.ofNat n := by
  rw [← byte_eq_int]
  have : (UInt8.ofNat n).toNat = n := by simp [UInt8.toNat_ofNat']; omega
  rw [this]
theorem bt_get (s : ByteArray) (i : Nat) (h : i < s.size) : ∃ c : UInt8, s.data.toList[i]? = some c ∧ bt s (i : Int) = (c.toNat : Int) := by
  obtain ⟨c, e, hb⟩ := bt_drop s i h
  refine ⟨c, ?_, hb⟩
  have : (s.data.toList.drop i)[0]? = some c := by rw [e]; rfl
  simpa using this

theorem set_prefix {α β : Type} (f : α → β) (z : β) (l : List α) (i : Nat) (h : i < l.length) (x : α) (hx : l[i]? = some x) :
    ((l.take i).map f ++ List.replicate (l.length - i) z).set i (f x) = (l.take (i + 1)).map f ++ List.replicate (l.length - (i + 1)) z := by
  have h1 : ((l.take i).map f).length = i := by simp; omega
  rw [List.set_append_right _ _ (by omega), h1, Nat.sub_self]
  have h2 : List.replicate (l.length - i) z = z :: List.replicate (l.length - (i + 1)) z := by
    rw [show l.length - i = (l.length - (i + 1)) + 1 by omega]; rfl
  rw [h2, List.set_cons_zero, List.take_add_one, hx, List.map_append]
  simp

/-! A law's copies of a list of LifeRule: sizes, copies, comparisons. -/
def lifeRuleOf (x : S201) : S204 := ⟨x.f0, x.f1, x.f2⟩
theorem rdl_LifeRule (l : List S201) (i : Nat) (h : i < l.length) : rd_T201 l (i : Int) = l[i] := by
  unfold rd_T201; rw [Int.toNat_natCast, List.getD_eq_getElem?_getD, List.getElem?_eq_getElem h]; rfl
theorem rdi_LifeRule (l : List S204) (i : Nat) (h : i < l.length) : rd_T204 l (i : Int) = l[i] := by
  unfold rd_T204; rw [Int.toNat_natCast, List.getD_eq_getElem?_getD, List.getElem?_eq_getElem h]; rfl
theorem sz_LifeRule (x : S201) (left : Int) (h0 : 0 ≤ left) (h1 : left ≤ 1048576) (g1 : x.f1.size ≤ 9223372036854775807) : ∃ r, laws_szLifeRule.f x.f0 x.f1 x.f2 left = some r ∧ (0 ≤ r → r ≤ left ∧ x.f1.size ≤ 1048576) := by
  unfold laws_szLifeRule.f
  rw [(wrap64_id (x := left - (x.f1.size : Int)) (by omega) (by omega))]
  by_cases c0 : left - (x.f1.size : Int) < 0
  · rw [if_pos c0]; exact ⟨_, rfl, fun h => by omega⟩
  · rw [if_neg c0]
    exact ⟨_, rfl, fun h => by omega⟩
theorem toLifeRuleS_l0 (l : List S201) (hl : l.length ≤ 1048576) : ∀ (d i : Nat), l.length - i = d → i ≤ l.length →
    Ev (fun k => laws_toLifeRuleS.l0 k l ((l.take i).map lifeRuleOf ++ List.replicate (l.length - i) z204) (i : Int)) (l.map lifeRuleOf) := by
  intro d
  induction d with
  | zero =>
    intro i hd hi
    have : i = l.length := by omega
    subst this
    refine Ev.step (fun k => by rw [laws_toLifeRuleS.l0, if_neg (by omega)]) (Ev.give ?_)
    simp
  | succ d ih =>
    intro i hd hi
    have hlt : i < l.length := by omega
    have hx : l[i]? = some l[i] := List.getElem?_eq_getElem hlt
    have hr := rdl_LifeRule l i hlt
    have hw : wrap64 ((i : Int) + 1) = ((i + 1 : Nat) : Int) := by rw [wrap64_id (by omega) (by omega)]; rfl
    have hs := set_prefix lifeRuleOf z204 l i hlt l[i] hx
    refine Ev.step (fun k => by rw [laws_toLifeRuleS.l0, if_pos (by omega), if_pos (by omega), hr, show laws_toLifeRule.f l[i].f0 l[i].f1 l[i].f2 = some (l[i].f0, l[i].f1, l[i].f2) from rfl, Option.bind_some, if_pos (by simp; omega), Int.toNat_natCast, hw, show (⟨(l[i].f0, l[i].f1, l[i].f2).1, (l[i].f0, l[i].f1, l[i].f2).2.1, (l[i].f0, l[i].f1, l[i].f2).2.2⟩ : S204) = lifeRuleOf l[i] from rfl, hs]) ?_
    exact ih (i + 1) (by omega) (by omega)
theorem toLifeRuleS (l : List S201) (hl : l.length ≤ 1048576) : Ev (fun k => laws_toLifeRuleS.f k l) (l.map lifeRuleOf) := by
  refine Ev.congr (fun k => by rw [laws_toLifeRuleS.f, if_pos (by omega), if_pos (by omega), Int.toNat_natCast]) ?_
  have := toLifeRuleS_l0 l hl l.length 0 rfl (by omega)
  simpa using this
theorem eqLifeRule_self (a0 : Int) (a1 : ByteArray) (a2 : Int) : laws_eqLifeRule.f a0 a1 a2 a0 a1 a2 = some true := by unfold laws_eqLifeRule.f; simp
theorem eqLifeRuleS_l0 (l : List S204) (hl : l.length ≤ 1048576) : ∀ (d i : Nat), l.length - i = d → i ≤ l.length → Ev (fun k => laws_eqLifeRuleS.l0 k l l (i : Int)) true := by
  intro d
  induction d with
  | zero =>
    intro i hd hi
    exact Ev.step (fun k => by rw [laws_eqLifeRuleS.l0, if_neg (by omega)]) (Ev.now _)
  | succ d ih =>
    intro i hd hi
    have hw : wrap64 ((i : Int) + 1) = ((i + 1 : Nat) : Int) := by rw [wrap64_id (by omega) (by omega)]; rfl
    refine Ev.step (fun k => by rw [laws_eqLifeRuleS.l0, if_pos (by omega), if_pos (by omega), if_pos (by omega), eqLifeRule_self, Option.bind_some, if_pos rfl, hw]) ?_
    exact ih (i + 1) (by omega) (by omega)
theorem eqLifeRuleS (l : List S204) (hl : l.length ≤ 1048576) : Ev (fun k => laws_eqLifeRuleS.f k l l) true := by
  refine Ev.congr (fun k => by rw [laws_eqLifeRuleS.f, if_pos rfl]) ?_
  exact eqLifeRuleS_l0 l hl l.length 0 rfl (by omega)
theorem szLifeRuleS_l0 (l : List S201) (hl : l.length ≤ 1048576) (hg : ∀ x ∈ l, x.f1.size ≤ 9223372036854775807) : ∀ (d i : Nat) (left : Int), 0 ≤ left → left ≤ 1048576 → l.length - i = d → i ≤ l.length →
    ∃ r, Ev (fun k => laws_szLifeRuleS.l0 k l left (i : Int)) r ∧ (0 ≤ r → r ≤ left ∧ ∀ x ∈ l.drop i, x.f1.size ≤ 1048576) := by
  intro d
  induction d with
  | zero =>
    intro i left h0 h1 hd hi
    exact ⟨left, Ev.step (fun k => by rw [laws_szLifeRuleS.l0, if_neg (by omega)]) (Ev.now _), fun _ => ⟨by omega, by rw [List.drop_eq_nil_of_le (by omega)]; simp⟩⟩
  | succ d ih =>
    intro i left h0 h1 hd hi
    have hlt : i < l.length := by omega
    have hr := rdl_LifeRule l i hlt
    have hw : wrap64 ((i : Int) + 1) = ((i + 1 : Nat) : Int) := by rw [wrap64_id (by omega) (by omega)]; rfl
    have g := hg l[i] (List.getElem_mem hlt)
    obtain ⟨r1, e1, b1⟩ := sz_LifeRule l[i] left h0 h1 g
    by_cases hn : r1 < 0
    · refine ⟨-1, Ev.step (fun k => by rw [laws_szLifeRuleS.l0, if_pos (by omega), if_pos (by omega), hr, e1, Option.bind_some, if_pos hn]) (Ev.now _), fun h => by omega⟩
    · obtain ⟨r2, e2, b2⟩ := ih (i + 1) r1 (by omega) (by have := b1 (by omega); omega) (by omega) (by omega)
      refine ⟨r2, Ev.step (fun k => by rw [laws_szLifeRuleS.l0, if_pos (by omega), if_pos (by omega), hr, e1, Option.bind_some, if_neg hn, hw]) e2, fun h => ?_⟩
      have q1 := b1 (by omega)
      have q2 := b2 h
      refine ⟨by omega, fun x hx => ?_⟩
      rw [List.drop_eq_getElem_cons hlt, List.mem_cons] at hx
      rcases hx with rfl | hx
      · exact q1.2
      · exact q2.2 x hx
theorem szLifeRuleS (l : List S201) (left : Int) (hl : l.length ≤ 9223372036854775807) (hg : ∀ x ∈ l, x.f1.size ≤ 9223372036854775807) (h0 : 0 ≤ left) (h1 : left ≤ 1048576) :
    ∃ r, Ev (fun k => laws_szLifeRuleS.f k l left) r ∧ (0 ≤ r → r ≤ left ∧ l.length ≤ 1048576 ∧ ∀ x ∈ l, x.f1.size ≤ 1048576) := by
  have hw : wrap64 (left - (l.length : Int)) = left - (l.length : Int) := wrap64_id (by omega) (by omega)
  by_cases hn : left - (l.length : Int) < 0
  · exact ⟨-1, Ev.congr (fun k => by rw [laws_szLifeRuleS.f, hw, if_pos hn]) (Ev.now _), fun h => by omega⟩
  · obtain ⟨r, e, b⟩ := szLifeRuleS_l0 l (by omega) hg l.length 0 (left - (l.length : Int)) (by omega) (by omega) rfl (by omega)
    refine ⟨r, Ev.congr (fun k => by rw [laws_szLifeRuleS.f, hw, if_neg hn]; rfl) e, fun h => ?_⟩
    have q := b h
    exact ⟨by omega, by omega, by simpa using q.2⟩

/-! A law's copies of a list of Version: sizes, copies, comparisons. -/
def versionOf (x : S203) : S154 := ⟨x.f0, x.f1, x.f2, x.f3, x.f4, x.f5, x.f6⟩
theorem rdl_Version (l : List S203) (i : Nat) (h : i < l.length) : rd_T203 l (i : Int) = l[i] := by
  unfold rd_T203; rw [Int.toNat_natCast, List.getD_eq_getElem?_getD, List.getElem?_eq_getElem h]; rfl
theorem rdi_Version (l : List S154) (i : Nat) (h : i < l.length) : rd_T154 l (i : Int) = l[i] := by
  unfold rd_T154; rw [Int.toNat_natCast, List.getD_eq_getElem?_getD, List.getElem?_eq_getElem h]; rfl
theorem sz_Version (x : S203) (left : Int) (h0 : 0 ≤ left) (h1 : left ≤ 1048576) (g0 : x.f0.size ≤ 9223372036854775807) (g3 : x.f3.size ≤ 9223372036854775807) : ∃ r, laws_szVersion.f x.f0 x.f1 x.f2 x.f3 x.f4 x.f5 x.f6 left = some r ∧ (0 ≤ r → r ≤ left ∧ x.f0.size ≤ 1048576 ∧ x.f3.size ≤ 1048576) := by
  unfold laws_szVersion.f
  rw [(wrap64_id (x := left - (x.f0.size : Int)) (by omega) (by omega))]
  by_cases c0 : left - (x.f0.size : Int) < 0
  · rw [if_pos c0]; exact ⟨_, rfl, fun h => by omega⟩
  · rw [if_neg c0]
    rw [(wrap64_id (x := (left - (x.f0.size : Int)) - (x.f3.size : Int)) (by omega) (by omega))]
    by_cases c1 : (left - (x.f0.size : Int)) - (x.f3.size : Int) < 0
    · rw [if_pos c1]; exact ⟨_, rfl, fun h => by omega⟩
    · rw [if_neg c1]
      exact ⟨_, rfl, fun h => by omega⟩
theorem toVersionS_l0 (l : List S203) (hl : l.length ≤ 1048576) : ∀ (d i : Nat), l.length - i = d → i ≤ l.length →
    Ev (fun k => laws_toVersionS.l0 k l ((l.take i).map versionOf ++ List.replicate (l.length - i) z154) (i : Int)) (l.map versionOf) := by
  intro d
  induction d with
  | zero =>
    intro i hd hi
    have : i = l.length := by omega
    subst this
    refine Ev.step (fun k => by rw [laws_toVersionS.l0, if_neg (by omega)]) (Ev.give ?_)
    simp
  | succ d ih =>
    intro i hd hi
    have hlt : i < l.length := by omega
    have hx : l[i]? = some l[i] := List.getElem?_eq_getElem hlt
    have hr := rdl_Version l i hlt
    have hw : wrap64 ((i : Int) + 1) = ((i + 1 : Nat) : Int) := by rw [wrap64_id (by omega) (by omega)]; rfl
    have hs := set_prefix versionOf z154 l i hlt l[i] hx
    refine Ev.step (fun k => by rw [laws_toVersionS.l0, if_pos (by omega), if_pos (by omega), hr, show laws_toVersion.f l[i].f0 l[i].f1 l[i].f2 l[i].f3 l[i].f4 l[i].f5 l[i].f6 = some (l[i].f0, l[i].f1, l[i].f2, l[i].f3, l[i].f4, l[i].f5, l[i].f6) from rfl, Option.bind_some, if_pos (by simp; omega), Int.toNat_natCast, hw, show (⟨(l[i].f0, l[i].f1, l[i].f2, l[i].f3, l[i].f4, l[i].f5, l[i].f6).1, (l[i].f0, l[i].f1, l[i].f2, l[i].f3, l[i].f4, l[i].f5, l[i].f6).2.1, (l[i].f0, l[i].f1, l[i].f2, l[i].f3, l[i].f4, l[i].f5, l[i].f6).2.2.1, (l[i].f0, l[i].f1, l[i].f2, l[i].f3, l[i].f4, l[i].f5, l[i].f6).2.2.2.1, (l[i].f0, l[i].f1, l[i].f2, l[i].f3, l[i].f4, l[i].f5, l[i].f6).2.2.2.2.1, (l[i].f0, l[i].f1, l[i].f2, l[i].f3, l[i].f4, l[i].f5, l[i].f6).2.2.2.2.2.1, (l[i].f0, l[i].f1, l[i].f2, l[i].f3, l[i].f4, l[i].f5, l[i].f6).2.2.2.2.2.2⟩ : S154) = versionOf l[i] from rfl, hs]) ?_
    exact ih (i + 1) (by omega) (by omega)
theorem toVersionS (l : List S203) (hl : l.length ≤ 1048576) : Ev (fun k => laws_toVersionS.f k l) (l.map versionOf) := by
  refine Ev.congr (fun k => by rw [laws_toVersionS.f, if_pos (by omega), if_pos (by omega), Int.toNat_natCast]) ?_
  have := toVersionS_l0 l hl l.length 0 rfl (by omega)
  simpa using this
theorem eqVersion_self (a0 : ByteArray) (a1 : Int) (a2 : Bool) (a3 : ByteArray) (a4 : Int) (a5 : Int) (a6 : Bool) : laws_eqVersion.f a0 a1 a2 a3 a4 a5 a6 a0 a1 a2 a3 a4 a5 a6 = some true := by unfold laws_eqVersion.f; simp
theorem eqVersionS_l0 (l : List S154) (hl : l.length ≤ 1048576) : ∀ (d i : Nat), l.length - i = d → i ≤ l.length → Ev (fun k => laws_eqVersionS.l0 k l l (i : Int)) true := by
  intro d
  induction d with
  | zero =>
    intro i hd hi
    exact Ev.step (fun k => by rw [laws_eqVersionS.l0, if_neg (by omega)]) (Ev.now _)
  | succ d ih =>
    intro i hd hi
    have hw : wrap64 ((i : Int) + 1) = ((i + 1 : Nat) : Int) := by rw [wrap64_id (by omega) (by omega)]; rfl
    refine Ev.step (fun k => by rw [laws_eqVersionS.l0, if_pos (by omega), if_pos (by omega), if_pos (by omega), eqVersion_self, Option.bind_some, if_pos rfl, hw]) ?_
    exact ih (i + 1) (by omega) (by omega)
theorem eqVersionS (l : List S154) (hl : l.length ≤ 1048576) : Ev (fun k => laws_eqVersionS.f k l l) true := by
  refine Ev.congr (fun k => by rw [laws_eqVersionS.f, if_pos rfl]) ?_
  exact eqVersionS_l0 l hl l.length 0 rfl (by omega)
theorem szVersionS_l0 (l : List S203) (hl : l.length ≤ 1048576) (hg : ∀ x ∈ l, x.f0.size ≤ 9223372036854775807 ∧ x.f3.size ≤ 9223372036854775807) : ∀ (d i : Nat) (left : Int), 0 ≤ left → left ≤ 1048576 → l.length - i = d → i ≤ l.length →
    ∃ r, Ev (fun k => laws_szVersionS.l0 k l left (i : Int)) r ∧ (0 ≤ r → r ≤ left ∧ ∀ x ∈ l.drop i, x.f0.size ≤ 1048576 ∧ x.f3.size ≤ 1048576) := by
  intro d
  induction d with
  | zero =>
    intro i left h0 h1 hd hi
    exact ⟨left, Ev.step (fun k => by rw [laws_szVersionS.l0, if_neg (by omega)]) (Ev.now _), fun _ => ⟨by omega, by rw [List.drop_eq_nil_of_le (by omega)]; simp⟩⟩
  | succ d ih =>
    intro i left h0 h1 hd hi
    have hlt : i < l.length := by omega
    have hr := rdl_Version l i hlt
    have hw : wrap64 ((i : Int) + 1) = ((i + 1 : Nat) : Int) := by rw [wrap64_id (by omega) (by omega)]; rfl
    have g := hg l[i] (List.getElem_mem hlt)
    obtain ⟨r1, e1, b1⟩ := sz_Version l[i] left h0 h1 g.1 g.2
    by_cases hn : r1 < 0
    · refine ⟨-1, Ev.step (fun k => by rw [laws_szVersionS.l0, if_pos (by omega), if_pos (by omega), hr, e1, Option.bind_some, if_pos hn]) (Ev.now _), fun h => by omega⟩
    · obtain ⟨r2, e2, b2⟩ := ih (i + 1) r1 (by omega) (by have := b1 (by omega); omega) (by omega) (by omega)
      refine ⟨r2, Ev.step (fun k => by rw [laws_szVersionS.l0, if_pos (by omega), if_pos (by omega), hr, e1, Option.bind_some, if_neg hn, hw]) e2, fun h => ?_⟩
      have q1 := b1 (by omega)
      have q2 := b2 h
      refine ⟨by omega, fun x hx => ?_⟩
      rw [List.drop_eq_getElem_cons hlt, List.mem_cons] at hx
      rcases hx with rfl | hx
      · exact q1.2
      · exact q2.2 x hx
theorem szVersionS (l : List S203) (left : Int) (hl : l.length ≤ 9223372036854775807) (hg : ∀ x ∈ l, x.f0.size ≤ 9223372036854775807 ∧ x.f3.size ≤ 9223372036854775807) (h0 : 0 ≤ left) (h1 : left ≤ 1048576) :
    ∃ r, Ev (fun k => laws_szVersionS.f k l left) r ∧ (0 ≤ r → r ≤ left ∧ l.length ≤ 1048576 ∧ ∀ x ∈ l, x.f0.size ≤ 1048576 ∧ x.f3.size ≤ 1048576) := by
  have hw : wrap64 (left - (l.length : Int)) = left - (l.length : Int) := wrap64_id (by omega) (by omega)
  by_cases hn : left - (l.length : Int) < 0
  · exact ⟨-1, Ev.congr (fun k => by rw [laws_szVersionS.f, hw, if_pos hn]) (Ev.now _), fun h => by omega⟩
  · obtain ⟨r, e, b⟩ := szVersionS_l0 l (by omega) hg l.length 0 (left - (l.length : Int)) (by omega) (by omega) rfl (by omega)
    refine ⟨r, Ev.congr (fun k => by rw [laws_szVersionS.f, hw, if_neg hn]; rfl) e, fun h => ?_⟩
    have q := b h
    exact ⟨by omega, by omega, by simpa using q.2⟩

/-- A bucket's size, taken field by field. -/
theorem szBucket (a0 : Int) (a1 : Bool) (a2 : Int) (l3 : List S201) (l4 : List S203) (left : Int) (h3 : l3.length ≤ 9223372036854775807 ∧ ∀ x ∈ l3, x.f1.size ≤ 9223372036854775807) (h4 : l4.length ≤ 9223372036854775807 ∧ ∀ x ∈ l4, x.f0.size ≤ 9223372036854775807 ∧ x.f3.size ≤ 9223372036854775807) (h0 : 0 ≤ left) (h1 : left ≤ 1048576) :
    ∃ r, Ev (fun k => laws_szBucket.f k a0 a1 a2 l3 l4 left) r ∧ (0 ≤ r → r ≤ left ∧ (l3.length ≤ 1048576 ∧ ∀ x ∈ l3, x.f1.size ≤ 1048576) ∧ (l4.length ≤ 1048576 ∧ ∀ x ∈ l4, x.f0.size ≤ 1048576 ∧ x.f3.size ≤ 1048576)) := by
  obtain ⟨r1, e1, b1⟩ := szLifeRuleS l3 left h3.1 h3.2 h0 h1
  by_cases hn : r1 < 0
  · exact ⟨-1, Ev.congr (fun k => by rw [laws_szBucket.f]) (Ev.bind e1 (Ev.pos hn (Ev.now _))), fun h => by omega⟩
  · have q1 := b1 (by omega)
    obtain ⟨r2, e2, b2⟩ := szVersionS l4 r1 h4.1 h4.2 (by omega) (by omega)
    by_cases hn2 : r2 < 0
    · exact ⟨-1, Ev.congr (fun k => by rw [laws_szBucket.f]) (Ev.bind e1 (Ev.neg hn (Ev.bind e2 (Ev.pos hn2 (Ev.now _))))), fun h => by omega⟩
    · have q2 := b2 (by omega)
      exact ⟨r2, Ev.congr (fun k => by rw [laws_szBucket.f]) (Ev.bind e1 (Ev.neg hn (Ev.bind e2 (Ev.neg hn2 (Ev.now _))))), fun h => ⟨by omega, ⟨q1.2.1, q1.2.2⟩, q2.2.1, q2.2.2⟩⟩
theorem toBucket (a0 : Int) (a1 : Bool) (a2 : Int) (l3 : List S201) (l4 : List S203) (h3 : l3.length ≤ 1048576) (h4 : l4.length ≤ 1048576) :
    Ev (fun k => laws_toBucket.f k a0 a1 a2 l3 l4) (a0, a1, a2, l3.map lifeRuleOf, l4.map versionOf) := by
  refine Ev.congr (fun k => by rw [laws_toBucket.f]) ?_
  refine Ev.bind (toLifeRuleS l3 h3) ?_
  refine Ev.bind (toVersionS l4 h4) ?_
  exact Ev.now _
theorem eqBucket (a0 : Int) (a1 : Bool) (a2 : Int) (l3 : List S204) (l4 : List S154) (h3 : l3.length ≤ 1048576) (h4 : l4.length ≤ 1048576) :
    Ev (fun k => laws_eqBucket.f k a0 a1 a2 l3 l4 a0 a1 a2 l3 l4) true :=
  Ev.congr (fun k => by rw [laws_eqBucket.f]) (Ev.pos rfl (Ev.neg (by simp) (Ev.pos rfl (Ev.bind (eqLifeRuleS l3 h3) (Ev.pos rfl (Ev.bind (eqVersionS l4 h4) (Ev.pos rfl (Ev.now _))))))))

/-- The sum of the data's sizes, as the machine adds. -/
def bytesFrom (l : List S154) (n : Int) : Int := l.foldl (fun n x => wrap64 (n + (x.f3.size : Int))) n
theorem spec_bucketBytes_l0 (b0 : Int) (b1 : Bool) (b2 : Int) (l3 : List S204) (l : List S154) (hl : l.length ≤ 1048576) : ∀ (d i : Nat) (n : Int), l.length - i = d → i ≤ l.length → Ev (fun k => spec_BucketBytes.l0 k n (i : Int) b0 b1 b2 l3 l) (bytesFrom (l.drop i) n) := by
  intro d
  induction d with
  | zero =>
    intro i n hd hi
    rw [List.drop_eq_nil_of_le (by omega)]
    refine Ev.step (fun k => by rw [spec_BucketBytes.l0, if_neg (by omega)]) (Ev.give ?_)
    rfl
  | succ d ih =>
    intro i n hd hi
    have hlt : i < l.length := by omega
    have hr := rdi_Version l i hlt
    have hw : wrap64 ((i : Int) + 1) = ((i + 1 : Nat) : Int) := by rw [wrap64_id (by omega) (by omega)]; rfl
    rw [List.drop_eq_getElem_cons hlt]
    exact Ev.step (fun k => by rw [spec_BucketBytes.l0, if_pos (by omega), if_pos (by omega), hr, hw]) (ih (i + 1) _ (by omega) (by omega))
theorem spec_bucketBytes (b0 : Int) (b1 : Bool) (b2 : Int) (l3 : List S204) (l : List S154) (hl : l.length ≤ 1048576) : Ev (fun k => spec_BucketBytes.f k b0 b1 b2 l3 l) (bytesFrom l 0) :=
  Ev.congr (fun k => by rw [spec_BucketBytes.f]; rfl) (spec_bucketBytes_l0 b0 b1 b2 l3 l hl l.length 0 0 rfl (by omega))
theorem impl_bucketBytes_l0 (l : List S154) (hl : l.length ≤ 1048576) : ∀ (d i : Nat) (n : Int), l.length - i = d → i ≤ l.length → Ev (fun k => impl_BucketBytes.l0 k n l (l.length : Int) (i : Int)) (bytesFrom (l.drop i) n) := by
  intro d
  induction d with
  | zero =>
    intro i n hd hi
    rw [List.drop_eq_nil_of_le (by omega)]
    refine Ev.step (fun k => by rw [impl_BucketBytes.l0, if_neg (by omega)]) (Ev.give ?_)
    rfl
  | succ d ih =>
    intro i n hd hi
    have hlt : i < l.length := by omega
    have hr := rdi_Version l i hlt
    have hw : wrap64 ((i : Int) + 1) = ((i + 1 : Nat) : Int) := by rw [wrap64_id (by omega) (by omega)]; rfl
    rw [List.drop_eq_getElem_cons hlt]
    exact Ev.step (fun k => by rw [impl_BucketBytes.l0, if_pos (by omega), if_pos (by omega), if_pos (by omega), hr, hw]) (ih (i + 1) _ (by omega) (by omega))
theorem impl_bucketBytes (b0 : Int) (b1 : Bool) (b2 : Int) (l3 : List S204) (l : List S154) (hl : l.length ≤ 1048576) : Ev (fun k => impl_BucketBytes.f k b0 b1 b2 l3 l) (bytesFrom l 0) :=
  Ev.congr (fun k => by rw [impl_BucketBytes.f]; rfl) (impl_bucketBytes_l0 l hl l.length 0 0 rfl (by omega))

theorem FnExactBucketBytes : laws_FnExactBucketBytes.Wants := by
  intro a0 a1 a2 l3 l4 g0 g2 g3 g4
  refine Ev.rounds (Ev.congr (fun k => by rw [laws_FnExactBucketBytes.f]) ?_)
  obtain ⟨r, e, b⟩ := szBucket a0 a1 a2 l3 l4 1048576 ⟨g3.1, fun x hx => (g3.2 x hx).2.1⟩ ⟨g4.1, fun x hx => ⟨(g4.2 x hx).1, (g4.2 x hx).2.2.2.1⟩⟩ (by omega) (by omega)
  refine Ev.bind e ?_
  by_cases hn : r < 0
  · exact Ev.pos hn (Ev.now _)
  · refine Ev.neg hn ?_
    obtain ⟨_, ⟨h3, _⟩, ⟨h4, _⟩⟩ := b (by omega)
    have m3 : (l3.map lifeRuleOf).length ≤ 1048576 := by simpa using h3
    have m4 : (l4.map versionOf).length ≤ 1048576 := by simpa using h4
    exact Ev.bind (toBucket a0 a1 a2 l3 l4 h3 h4) (Ev.bind (spec_bucketBytes _ _ _ _ _ m4) (Ev.bind (toBucket a0 a1 a2 l3 l4 h3 h4) (Ev.bind (impl_bucketBytes _ _ _ _ _ m4) (Ev.pos rfl (Ev.bind (toBucket a0 a1 a2 l3 l4 h3 h4) (Ev.bind (eqBucket _ _ _ _ _ m3 m4) (Ev.pos rfl (Ev.now _))))))))

end Go.Proofs.Ytimfdodgecehgaa.Pure
