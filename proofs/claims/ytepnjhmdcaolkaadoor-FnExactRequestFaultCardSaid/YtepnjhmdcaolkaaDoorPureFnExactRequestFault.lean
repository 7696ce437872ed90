/- The statement FnExactRequestFault over numbers and lists alone: the program's RequestFault and the reference's answer alike, and the argument is as it was. No condition. -/
import Derived.Test.YtepnjhmdcaolkaaDoorQFnExactRequestFaultx7
import Derived.Laws.BitsAllLaws
import Derived.Laws.Bits64
import Derived.Test.YtepnjhmdcaolkaaDoorGoodFnExactRequestFault
set_option linter.all false
namespace Go.Proofs.YtepnjhmdcaolkaaDoor.Pure
open Go.RowKit Go.Proofs.YtepnjhmdcaolkaaDoor.QFnExactRequestFault Go.Proofs.YtepnjhmdcaolkaaDoorW.PrintWords Go.Proofs.YtepnjhmdcaolkaaDoorW.PrintLast Go.Proofs.YtepnjhmdcaolkaaDoorW.PrintMore

/-! Small lemmas on wraps, rounds and lists. -/
theorem wrap64_id {x : Int} (h0 : -9223372036854775808 ≤ x) (h1 : x < 9223372036854775808) : wrap64 x = x := by unfold wrap64; omega
theorem u64_id {x : Int} (h0 : 0 ≤ x) (h1 : x < 18446744073709551616) : IntKind.u64.wrap x = x := by rw [IntKind.wrap_u64]; omega
theorem Ev.pos {α : Type} {c : Prop} [Decidable c] {f g : Nat → Option α} {r : α} (h : c) (e : Ev f r) : Ev (fun k => if c then f k else g k) r := by simpa [h] using e
theorem Ev.neg {α : Type} {c : Prop} [Decidable c] {f g : Nat → Option α} {r : α} (h : ¬ c) (e : Ev g r) : Ev (fun k => if c then f k else g k) r := by simpa [h] using e
theorem Ev.bindS {α β : Type} {g : Option α} {f : Nat → α → Option β} {a : α} {r : β} (h : g = some a) (e : Ev (fun k => f k a) r) : Ev (fun k => g.bind (f k)) r := by subst h; simpa using e
theorem Ev.give {α : Type} {r s : α} (h : s = r) : Ev (fun _ => some s) r := by subst h; exact Ev.now _
theorem bt_drop (s : ByteArray) (i : Nat) (h : i < s.size) : ∃ c : UInt8, s.data.toList.drop i = c :: s.data.toList.drop (i + 1) ∧ bt s (i : Int) = (c.toNat : Int) := by
  have hl : i < s.data.toList.length := by simpa using h
  refine ⟨s.data.toList[i], List.drop_eq_getElem_cons hl, ?_⟩
  unfold bt
  rw [dif_pos (by simpa using h)]
  simp [ByteArray.getElem_eq_getElem_data]
theorem drop_end (s : ByteArray) (i : Nat) (h : s.size ≤ i) : s.data.toList.drop i = [] := List.drop_eq_nil_of_le (by simpa using h)
theorem size_strOfNums (l : List Int) : (strOfNums l).size = l.length := by
  show (strOfNums l).data.size = l.length
  simp [strOfNums]
theorem i64_range {n : Int} (h : (Lit.int .i64 n).wf = true) : -9223372036854775808 ≤ n ∧ n < 9223372036854775808 := by
  simp only [Lit.wf, IntKind.min, IntKind.max, IntKind.signed, IntKind.bits, Bool.and_eq_true, decide_eq_true_eq, if_true] at h; omega
theorem byte_eq_int (c d : UInt8) : ((c.toNat : Int) = (d.toNat : Int)) ↔ c = d := by
  constructor
  · intro h; exact UInt8.toNat_inj.1 (by omega)
  · rintro rfl; rfl
theorem byte_eq_lit (c : UInt8) (n : Nat) (hn : n < 256) : ((c.toNat : Int) = (n : Int)) ↔ c = UInt8.ofNat n := by
  rw [← byte_eq_int]
  have : (UInt8.ofNat n).toNat = n := by simp [UInt8.toNat_ofNat']; omega
  rw [this]
theorem bt_get (s : ByteArray) (i : Nat) (h : i < s.size) : ∃ c : UInt8, s.data.toList[i]? = some c ∧ bt s (i : Int) = (c.toNat : Int) := by
  obtain ⟨c, e, hb⟩ := bt_drop s i h
  refine ⟨c, ?_, hb⟩
  have : (s.data.toList.drop i)[0]? = some c := by rw [e]; rfl
  simpa using this

theorem set_prefix {α β : Type} (f : α → β) (z : β) (l : List α) (i : Nat) (h : i < l.length) (x : α) (hx : l[i]? = some x) :
    ((l.take i).map f ++ List.replicate (l.length - i) z).set i (f x) = (l.take (i + 1)).map f ++ List.replicate (l.length - (i + 1)) z := by
  have h1 : ((l.take i).map f).length = i := by simp; omega
  rw [List.set_append_right _ _ (by omega), h1, Nat.sub_self]
  have h2 : List.replicate (l.length - i) z = z :: List.replicate (l.length - (i + 1)) z := by
    rw [show l.length - i = (l.length - (i + 1)) + 1 by omega]; rfl
  rw [h2, List.set_cons_zero, List.take_add_one, hx, List.map_append]
  simp

theorem ba_toList (s : ByteArray) : s.toList = s.data.toList := by
  obtain ⟨⟨l⟩⟩ := s
  rw [show (ByteArray.mk { toList := l }) = ByteArray.mk l.toArray from rfl, ByteArray.toList_mk]
theorem ba_toList_inj {a b : ByteArray} : a.toList = b.toList ↔ a = b := by
  constructor
  · intro h; rw [ba_toList, ba_toList] at h; exact ByteArray.ext (Array.toList_inj.1 h)
  · rintro rfl; rfl

/-! A law's copies of a list of pairs: sizes, copies, comparisons. -/
def pairOf (x : S71) : S45 := ⟨x.f0, x.f1⟩
theorem rdl_Pair (l : List S71) (i : Nat) (h : i < l.length) : rd_T71 l (i : Int) = l[i] := by
  unfold rd_T71; rw [Int.toNat_natCast, List.getD_eq_getElem?_getD, List.getElem?_eq_getElem h]; rfl
theorem rdi_Pair (l : List S45) (i : Nat) (h : i < l.length) : rd_T45 l (i : Int) = l[i] := by
  unfold rd_T45; rw [Int.toNat_natCast, List.getD_eq_getElem?_getD, List.getElem?_eq_getElem h]; rfl
theorem sz_Pair (x : S71) (left : Int) (h0 : 0 ≤ left) (h1 : left ≤ 1048576) (g0 : x.f0.size ≤ 9223372036854775807) (g1 : x.f1.size ≤ 9223372036854775807) : ∃ r, laws_szPair.f x.f0 x.f1 left = some r ∧ (0 ≤ r → r ≤ left ∧ x.f0.size ≤ 1048576 ∧ x.f1.size ≤ 1048576) := by
  unfold laws_szPair.f
  rw [(wrap64_id (x := left - (x.f0.size : Int)) (by omega) (by omega))]
  by_cases c0 : left - (x.f0.size : Int) < 0
  · rw [if_pos c0]; exact ⟨_, rfl, fun h => by omega⟩
  · rw [if_neg c0, (wrap64_id (x := left - (x.f0.size : Int) - (x.f1.size : Int)) (by omega) (by omega))]
    by_cases c1 : left - (x.f0.size : Int) - (x.f1.size : Int) < 0
    · rw [if_pos c1]; exact ⟨_, rfl, fun h => by omega⟩
    · rw [if_neg c1]
      exact ⟨_, rfl, fun h => by omega⟩
theorem toPairS_l0 (l : List S71) (hl : l.length ≤ 1048576) : ∀ (d i : Nat), l.length - i = d → i ≤ l.length →
    Ev (fun k => laws_toPairS.l0 k l ((l.take i).map pairOf ++ List.replicate (l.length - i) z45) (i : Int)) (l.map pairOf) := by
  intro d
  induction d with
  | zero =>
    intro i hd hi
    have : i = l.length := by omega
    subst this
    refine Ev.step (fun k => by rw [laws_toPairS.l0, if_neg (by omega)]) (Ev.give ?_)
    simp
  | succ d ih =>
    intro i hd hi
    have hlt : i < l.length := by omega
    have hx : l[i]? = some l[i] := List.getElem?_eq_getElem hlt
    have hr := rdl_Pair l i hlt
    have hw : wrap64 ((i : Int) + 1) = ((i + 1 : Nat) : Int) := by rw [wrap64_id (by omega) (by omega)]; rfl
    have hs := set_prefix pairOf z45 l i hlt l[i] hx
    refine Ev.step (fun k => by rw [laws_toPairS.l0, if_pos (by omega), if_pos (by omega), hr, show laws_toPair.f l[i].f0 l[i].f1 = some (l[i].f0, l[i].f1) from rfl, Option.bind_some, if_pos (by simp; omega), Int.toNat_natCast, hw, show (⟨(l[i].f0, l[i].f1).1, (l[i].f0, l[i].f1).2⟩ : S45) = pairOf l[i] from rfl, hs]) ?_
    exact ih (i + 1) (by omega) (by omega)
theorem toPairS (l : List S71) (hl : l.length ≤ 1048576) : Ev (fun k => laws_toPairS.f k l) (l.map pairOf) := by
  refine Ev.congr (fun k => by rw [laws_toPairS.f, if_pos (by omega), if_pos (by omega), Int.toNat_natCast]) ?_
  have := toPairS_l0 l hl l.length 0 rfl (by omega)
  simpa using this
theorem eqPair_self (a0 a1 : ByteArray) : laws_eqPair.f a0 a1 a0 a1 = some true := by unfold laws_eqPair.f; simp
theorem eqPairS_l0 (l : List S45) (hl : l.length ≤ 1048576) : ∀ (d i : Nat), l.length - i = d → i ≤ l.length → Ev (fun k => laws_eqPairS.l0 k l l (i : Int)) true := by
  intro d
  induction d with
  | zero =>
    intro i hd hi
    exact Ev.step (fun k => by rw [laws_eqPairS.l0, if_neg (by omega)]) (Ev.now _)
  | succ d ih =>
    intro i hd hi
    have hw : wrap64 ((i : Int) + 1) = ((i + 1 : Nat) : Int) := by rw [wrap64_id (by omega) (by omega)]; rfl
    refine Ev.step (fun k => by rw [laws_eqPairS.l0, if_pos (by omega), if_pos (by omega), if_pos (by omega), eqPair_self, Option.bind_some, if_pos rfl, hw]) ?_
    exact ih (i + 1) (by omega) (by omega)
theorem eqPairS (l : List S45) (hl : l.length ≤ 1048576) : Ev (fun k => laws_eqPairS.f k l l) true := by
  refine Ev.congr (fun k => by rw [laws_eqPairS.f, if_pos rfl]) ?_
  exact eqPairS_l0 l hl l.length 0 rfl (by omega)
theorem szPairS_l0 (l : List S71) (hl : l.length ≤ 1048576) (hg : ∀ x ∈ l, x.f0.size ≤ 9223372036854775807 ∧ x.f1.size ≤ 9223372036854775807) : ∀ (d i : Nat) (left : Int), 0 ≤ left → left ≤ 1048576 → l.length - i = d → i ≤ l.length →
    ∃ r, Ev (fun k => laws_szPairS.l0 k l left (i : Int)) r ∧ (0 ≤ r → r ≤ left ∧ ∀ x ∈ l.drop i, x.f0.size ≤ 1048576 ∧ x.f1.size ≤ 1048576) := by
  intro d
  induction d with
  | zero =>
    intro i left h0 h1 hd hi
    exact ⟨left, Ev.step (fun k => by rw [laws_szPairS.l0, if_neg (by omega)]) (Ev.now _), fun _ => ⟨by omega, by rw [List.drop_eq_nil_of_le (by omega)]; simp⟩⟩
  | succ d ih =>
    intro i left h0 h1 hd hi
    have hlt : i < l.length := by omega
    have hr := rdl_Pair l i hlt
    have hw : wrap64 ((i : Int) + 1) = ((i + 1 : Nat) : Int) := by rw [wrap64_id (by omega) (by omega)]; rfl
    have g := hg l[i] (List.getElem_mem hlt)
    obtain ⟨r1, e1, b1⟩ := sz_Pair l[i] left h0 h1 g.1 g.2
    by_cases hn : r1 < 0
    · refine ⟨-1, Ev.step (fun k => by rw [laws_szPairS.l0, if_pos (by omega), if_pos (by omega), hr, e1, Option.bind_some, if_pos hn]) (Ev.now _), fun h => by omega⟩
    · obtain ⟨r2, e2, b2⟩ := ih (i + 1) r1 (by omega) (by have := b1 (by omega); omega) (by omega) (by omega)
      refine ⟨r2, Ev.step (fun k => by rw [laws_szPairS.l0, if_pos (by omega), if_pos (by omega), hr, e1, Option.bind_some, if_neg hn, hw]) e2, fun h => ?_⟩
      have q1 := b1 (by omega)
      have q2 := b2 h
      refine ⟨by omega, fun x hx => ?_⟩
      rw [List.drop_eq_getElem_cons hlt, List.mem_cons] at hx
      rcases hx with rfl | hx
      · exact q1.2
      · exact q2.2 x hx
theorem szPairS (l : List S71) (left : Int) (hl : l.length ≤ 9223372036854775807) (hg : ∀ x ∈ l, x.f0.size ≤ 9223372036854775807 ∧ x.f1.size ≤ 9223372036854775807) (h0 : 0 ≤ left) (h1 : left ≤ 1048576) :
    ∃ r, Ev (fun k => laws_szPairS.f k l left) r ∧ (0 ≤ r → r ≤ left ∧ l.length ≤ 1048576 ∧ ∀ x ∈ l, x.f0.size ≤ 1048576 ∧ x.f1.size ≤ 1048576) := by
  have hw : wrap64 (left - (l.length : Int)) = left - (l.length : Int) := wrap64_id (by omega) (by omega)
  by_cases hn : left - (l.length : Int) < 0
  · exact ⟨-1, Ev.congr (fun k => by rw [laws_szPairS.f, hw, if_pos hn]) (Ev.now _), fun h => by omega⟩
  · obtain ⟨r, e, b⟩ := szPairS_l0 l (by omega) hg l.length 0 (left - (l.length : Int)) (by omega) (by omega) rfl (by omega)
    refine ⟨r, Ev.congr (fun k => by rw [laws_szPairS.f, hw, if_neg hn]; rfl) e, fun h => ?_⟩
    have q := b h
    exact ⟨by omega, by omega, by simpa using q.2⟩

/-! What is right of a request: of its parts alone. -/
def capP (c : Int) : Bool := decide (65 ≤ c) && decide (c ≤ 90)
def plainP (c : Int) : Bool := (decide (97 ≤ c) && decide (c ≤ 122)) || (decide (48 ≤ c) && decide (c ≤ 57))
def hdrP (c : Int) : Bool := plainP c || decide (c = 45)
def prtP (c : Int) : Bool := decide (32 ≤ c) && decide (c ≤ 126)
def allL (p : Int → Bool) (l : List UInt8) : Bool := l.all fun c => p (c.toNat : Int)
def madeOk (p : Int → Bool) (a b : Nat) (s : ByteArray) : Bool := decide (a ≤ s.size) && (decide (s.size ≤ b) && allL p s.data.toList)
def noBlank (s : ByteArray) : Bool := decide (s.data.toList = []) || (!decide (s.data.toList.head? = some 32) && !decide (s.data.toList.getLast? = some 32))
def lengthWord : ByteArray := ⟨#[108, 101, 110, 103, 116, 104]⟩
def methodOk (s : ByteArray) : Bool := madeOk capP 1 10 s
def nameOk (s : ByteArray) : Bool := madeOk hdrP 1 60 s && !decide (s = lengthWord)
def valueOk (s : ByteArray) : Bool := madeOk prtP 0 1000 s && noBlank s
def pathOk (s : ByteArray) : Bool := decide (s.size ≤ 1000) && decide (s.data.toList.head? = some 47)
def queryOk (x : S45) : Bool := decide (1 ≤ x.f0.size) && (decide (x.f0.size ≤ 100) && decide (x.f1.size ≤ 1000))
def headerOk (x : S45) : Bool := nameOk x.f0 && valueOk x.f1
/-- No name stands twice, none of a list stands at all. -/
def freshIn : List ByteArray → List ByteArray → Bool
  | _, [] => true
  | seen, x :: r => !decide (x ∈ seen) && freshIn (seen ++ [x]) r
def diffOk (l : List S45) : Bool := freshIn [] (l.map (·.f0))
def pairsOk (p : S45 → Bool) (l : List S45) : Bool := decide (l.length ≤ 30) && (diffOk l && l.all p)
def reqOk (m p : ByteArray) (q h : List S45) (b : ByteArray) : Bool := methodOk m && (pathOk p && (pairsOk queryOk q && (pairsOk headerOk h && decide (b.size ≤ 100000))))
def reqFault (m p : ByteArray) (q h : List S45) (b : ByteArray) : Int := if reqOk m p q h b = true then 0 else 1
/-! The program's. -/
theorem f_cap (c : Int) : impl_isCapital.f c = some (capP c) := by
  unfold impl_isCapital.f capP
  by_cases h : c ≥ 65
  · rw [if_pos h, decide_eq_true (show 65 ≤ c from h)]; rfl
  · rw [if_neg h, decide_eq_false (show ¬ 65 ≤ c from h)]; rfl
theorem f_prt (c : Int) : impl_isPrinted.f c = some (prtP c) := by
  unfold impl_isPrinted.f prtP
  by_cases h : c ≥ 32
  · rw [if_pos h, decide_eq_true (show 32 ≤ c from h)]; rfl
  · rw [if_neg h, decide_eq_false (show ¬ 32 ≤ c from h)]; rfl
theorem f_plain (c : Int) : impl_isPlainLetter.f c = some (plainP c) := by
  unfold impl_isPlainLetter.f plainP
  by_cases h : c ≥ 97
  · rw [if_pos h, decide_eq_true (show 97 ≤ c from h)]
    by_cases h2 : c ≤ 122
    · rw [if_pos h2, decide_eq_true h2]; rfl
    · rw [if_neg h2, decide_eq_false h2, if_pos (by omega), decide_eq_true (show 48 ≤ c by omega)]; rfl
  · rw [if_neg h, decide_eq_false (show ¬ 97 ≤ c from h)]
    by_cases h2 : c ≥ 48
    · rw [if_pos h2, decide_eq_true (show 48 ≤ c from h2)]; rfl
    · rw [if_neg h2, decide_eq_false (show ¬ 48 ≤ c from h2)]; rfl
theorem f_hdr (c : Int) : impl_isHeaderLetter.f c = some (hdrP c) := by
  unfold impl_isHeaderLetter.f hdrP
  rw [f_plain, Option.bind_some]
  cases plainP c with
  | true => rw [if_pos rfl]; rfl
  | false => rw [if_neg (by decide)]; rfl
theorem madeP_cap (c : Int) : madeP 46 c = some (capP c) := by unfold madeP; rw [if_pos rfl]; exact f_cap c
theorem madeP_hdr (c : Int) : madeP 48 c = some (hdrP c) := by unfold madeP; rw [if_neg (by decide), if_pos rfl]; exact f_hdr c
theorem madeP_prt (c : Int) : madeP 71 c = some (prtP c) := by unfold madeP; rw [if_neg (by decide), if_neg (by decide), if_pos rfl]; exact f_prt c
theorem made_l0 (s : ByteArray) (hs : s.size ≤ 1048576) (n : Int) (p : Int → Bool) (hp : ∀ c, madeP n c = some (p c)) : ∀ (d i : Nat), s.size - i = d → i ≤ s.size → Ev (fun k => impl_made.l0 k s n (i : Int)) (allL p (s.data.toList.drop i)) := by
  intro d
  induction d with
  | zero =>
    intro i hd hi
    rw [drop_end s i (by omega)]
    exact Ev.step (fun k => by rw [impl_made.l0, if_neg (by omega)]; rfl) (Ev.now _)
  | succ d ih =>
    intro i hd hi
    obtain ⟨c, e, hb⟩ := bt_drop s i (by omega)
    have hw : wrap64 ((i : Int) + 1) = ((i + 1 : Nat) : Int) := by rw [wrap64_id (by omega) (by omega)]; rfl
    have hn := ih (i + 1) (by omega) (by omega)
    rw [e]
    refine Ev.step (fun k => by rw [impl_made.l0, if_pos (by omega), if_pos (by omega), hb, hp, Option.bind_some, hw]) ?_
    unfold allL
    rw [List.all_cons]
    cases p (c.toNat : Int) with
    | true => exact Ev.pos rfl hn
    | false => exact Ev.neg (by decide) (Ev.now _)
theorem made_f (s : ByteArray) (hs : s.size ≤ 1048576) (n : Int) (p : Int → Bool) (hp : ∀ c, madeP n c = some (p c)) (a b : Nat) : Ev (fun k => impl_made.f k s (a : Int) (b : Int) n) (madeOk p a b s) := by
  refine Ev.congr (fun k => by rw [impl_made.f]) ?_
  unfold madeOk
  by_cases h1 : (s.size : Int) < (a : Int)
  · exact Ev.pos h1 (Ev.give (by rw [decide_eq_false (show ¬ a ≤ s.size by omega)]; rfl))
  · refine Ev.neg h1 ?_
    rw [decide_eq_true (show a ≤ s.size by omega)]
    by_cases h2 : (s.size : Int) > (b : Int)
    · exact Ev.pos h2 (Ev.give (by rw [decide_eq_false (show ¬ s.size ≤ b by omega)]; rfl))
    · refine Ev.neg h2 ?_
      rw [decide_eq_true (show s.size ≤ b by omega)]
      have := made_l0 s hs n p hp s.size 0 rfl (by omega)
      simpa using this
theorem i_method (s : ByteArray) (hs : s.size ≤ 1048576) : Ev (fun k => impl_isMethod.f k s) (methodOk s) := by
  refine Ev.congr (fun k => by rw [impl_isMethod.f]) ?_
  exact Ev.bind (made_f s hs _ _ madeP_cap 1 10) (Ev.now _)
theorem head_bt (s : ByteArray) (h : 0 < s.size) : ∃ c : UInt8, s.data.toList.head? = some c ∧ bt s 0 = (c.toNat : Int) := by
  obtain ⟨c, e, hb⟩ := bt_drop s 0 h
  exact ⟨c, by rw [List.drop_zero] at e; rw [e]; rfl, hb⟩
theorem i_path (s : ByteArray) : impl_isPath.f s = some (pathOk s) := by
  unfold impl_isPath.f pathOk
  by_cases h : (s.size : Int) ≤ 1000
  · rw [if_pos h, decide_eq_true (show s.size ≤ 1000 by omega)]
    unfold strings_HasPrefix.f stringslite_HasPrefix.f
    have z : (((⟨#[47]⟩ : ByteArray).size : Nat) : Int) = 1 := rfl
    rw [z]
    by_cases h2 : (s.size : Int) ≥ 1
    · rw [if_pos h2, if_pos (by omega), if_pos h2]
      obtain ⟨c, e, _⟩ := bt_drop s 0 (by omega)
      rw [List.drop_zero] at e
      have e2 : (s.extract 0 ((1 : Int)).toNat).toList = [c] := by
        rw [ba_toList, ByteArray.data_extract, Array.toList_extract, List.extract_eq_take_drop]
        rw [e]; rfl
      have e3 : (⟨#[47]⟩ : ByteArray).toList = [47] := by rw [ba_toList]
      rw [e2, e3, e]
      simp only [Option.bind_some, Bool.true_and, List.head?_cons, Option.some.injEq]
      by_cases hc : c = 47
      · subst hc; rfl
      · rw [decide_eq_false hc]; simp [hc]
    · rw [if_neg h2]
      have e : s.data.toList = [] := List.length_eq_zero_iff.1 (by rw [data_length]; omega)
      rw [e]; rfl
  · rw [if_neg h, decide_eq_false (show ¬ s.size ≤ 1000 by omega)]; rfl
theorem i_query (x : S45) : impl_isQuery.f x.f0 x.f1 = some (queryOk x) := by
  unfold impl_isQuery.f queryOk
  by_cases h1 : (x.f0.size : Int) ≥ 1
  · rw [if_pos h1, decide_eq_true (show 1 ≤ x.f0.size by omega)]
    by_cases h2 : (x.f0.size : Int) ≤ 100
    · rw [if_pos h2, decide_eq_true (show x.f0.size ≤ 100 by omega)]
      by_cases h3 : (x.f1.size : Int) ≤ 1000
      · rw [decide_eq_true h3, decide_eq_true (show x.f1.size ≤ 1000 by omega)]; rfl
      · rw [decide_eq_false h3, decide_eq_false (show ¬ x.f1.size ≤ 1000 by omega)]; rfl
    · rw [if_neg h2, decide_eq_false (show ¬ x.f0.size ≤ 100 by omega)]; rfl
  · rw [if_neg h1, decide_eq_false (show ¬ 1 ≤ x.f0.size by omega)]; rfl
/-! Blanks at the ends. -/
theorem dropW_eq (l : List UInt8) (c : UInt8) : (l.dropWhile (· == c) = l) ↔ ¬ l.head? = some c := by
  cases l with
  | nil => simp
  | cons x r =>
    rw [List.dropWhile_cons]
    by_cases h : x = c
    · subst h
      simp only [beq_self_eq_true, if_true, List.head?_cons, not_true, iff_false]
      intro e
      have := (List.dropWhile_suffix (· == x) (l := r)).length_le
      rw [e] at this
      simp at this
      omega
    · simp [h]
theorem trim_same (l : List UInt8) (c : UInt8) : Lib.trimB l c = l ↔ (l = [] ∨ (¬ l.head? = some c ∧ ¬ l.getLast? = some c)) := by
  unfold Lib.trimB Lib.trimLeftB Lib.trimRightB
  have hr : (l.reverse.dropWhile (· == c)).reverse = l ↔ ¬ l.getLast? = some c := by
    rw [← List.head?_reverse, ← dropW_eq l.reverse c]
    constructor
    · intro h; rw [← List.reverse_inj]; simpa using h
    · intro h; rw [h]; simp
  have len : ((l.reverse.dropWhile (· == c)).reverse).length ≤ l.length := by
    have := (List.dropWhile_suffix (· == c) (l := l.reverse)).length_le
    simpa using this
  have len2 : (((l.reverse.dropWhile (· == c)).reverse).dropWhile (· == c)).length ≤ ((l.reverse.dropWhile (· == c)).reverse).length := (List.dropWhile_suffix (· == c)).length_le
  have hp : (l.reverse.dropWhile (· == c)).reverse <+: l := by
    have := List.dropWhile_suffix (· == c) (l := l.reverse)
    have := List.reverse_prefix.2 this
    simpa using this
  constructor
  · intro h
    by_cases hn : l = []
    · exact Or.inl hn
    · right
      have e1 : (l.reverse.dropWhile (· == c)).reverse = l := hp.eq_of_length (by rw [h] at len2; omega)
      rw [e1] at h
      exact ⟨(dropW_eq l c).1 h, hr.1 e1⟩
  · rintro (h | ⟨h1, h2⟩)
    · subst h; rfl
    · rw [hr.2 h2]; exact (dropW_eq l c).2 h1
theorem i_value (s : ByteArray) (hs : s.size ≤ 1048576) : Ev (fun k => impl_headerValue.f k s) (valueOk s) := by
  refine Ev.congr (fun k => by rw [impl_headerValue.f]) ?_
  refine Ev.bind (made_f s hs _ _ madeP_prt 0 1000) ?_
  unfold valueOk
  cases madeOk prtP 0 1000 s with
  | false => exact Ev.neg (by decide) (Ev.now _)
  | true =>
    refine Ev.pos rfl ?_
    have e : strings_Trim.f s (⟨#[32]⟩ : ByteArray) = some (trimOf s) := by unfold strings_Trim.f; rw [if_pos ⟨rfl, by omega⟩]
    refine Ev.bindS e (Ev.give ?_)
    have e2 : (trimOf s).toList = Lib.trimB s.data.toList 32 := by rw [ba_toList]; rfl
    rw [e2, ba_toList, Bool.true_and]
    have key := trim_same s.data.toList 32
    unfold noBlank
    by_cases h0 : s.data.toList = []
    · rw [h0]; rfl
    · rw [decide_eq_false h0, Bool.false_or]
      by_cases h1 : s.data.toList.head? = some 32
      · rw [decide_eq_true h1, beq_eq_false_iff_ne.2 (fun h => ((key.1 h).resolve_left h0).1 h1)]; rfl
      · by_cases h2 : s.data.toList.getLast? = some 32
        · rw [decide_eq_true h2, beq_eq_false_iff_ne.2 (fun h => ((key.1 h).resolve_left h0).2 h2), decide_eq_false h1]; rfl
        · rw [decide_eq_false h1, decide_eq_false h2, beq_iff_eq.2 (key.2 (Or.inr ⟨h1, h2⟩))]; rfl
theorem i_header (x : S45) (h0 : x.f0.size ≤ 1048576) (h1 : x.f1.size ≤ 1048576) : Ev (fun k => impl_isHeader.f k x.f0 x.f1) (headerOk x) := by
  refine Ev.congr (fun k => by rw [impl_isHeader.f]) ?_
  refine Ev.bind (made_f x.f0 h0 _ _ madeP_hdr 1 60) ?_
  unfold headerOk nameOk
  cases madeOk hdrP 1 60 x.f0 with
  | false => exact Ev.neg (by decide) (Ev.now _)
  | true =>
    refine Ev.pos rfl ?_
    have e : (x.f0.toList = ([108, 101, 110, 103, 116, 104] : List UInt8)) ↔ x.f0 = lengthWord := by
      rw [← ba_toList_inj, show lengthWord.toList = [108, 101, 110, 103, 116, 104] by rw [ba_toList]; rfl]
    by_cases h : x.f0 = lengthWord
    · rw [decide_eq_true h]
      exact Ev.pos (e.2 h) (Ev.now _)
    · rw [decide_eq_false h]
      refine Ev.neg (fun h' => h (e.1 h')) (Ev.bind (i_value x.f1 h1) (Ev.give ?_))
      rfl
def sizesOk (l : List S45) : Prop := l.length ≤ 1048576 ∧ ∀ x ∈ l, x.f0.size ≤ 1048576 ∧ x.f1.size ≤ 1048576
theorem pairP_query (k : Nat) (a b : ByteArray) : pairP k 27 a b = impl_isQuery.f a b := by unfold pairP; rw [if_pos rfl]
theorem pairP_header (k : Nat) (a b : ByteArray) : pairP k 28 a b = impl_isHeader.f k a b := by unfold pairP; rw [if_neg (by decide), if_pos rfl]
theorem fresh_and (p : S45 → Bool) (x : S45) (r : List S45) (seen : List ByteArray) (g : Bool) :
    (freshIn seen ((x :: r).map (·.f0)) && ((x :: r).all p && g)) = if p x = true then (if x.f0 ∈ seen then false else (freshIn (seen ++ [x.f0]) (r.map (·.f0)) && (r.all p && g))) else false := by
  rw [List.map_cons, freshIn, List.all_cons]
  cases p x with
  | false => rw [if_neg (by decide)]; simp
  | true =>
    rw [if_pos rfl]
    by_cases h : x.f0 ∈ seen
    · rw [if_pos h, decide_eq_true h]; rfl
    · rw [if_neg h, decide_eq_false h]; simp
theorem pairs_l0 (l : List S45) (hl : sizesOk l) (n : Int) (p : S45 → Bool) (hp : ∀ x ∈ l, Ev (fun k => pairP k n x.f0 x.f1) (p x)) : ∀ (d i : Nat) (seen : List ByteArray), l.length - i = d → i ≤ l.length → seen.length ≤ i →
    Ev (fun k => impl_pairsRight.l0 k l n seen (i : Int)) (freshIn seen ((l.drop i).map (·.f0)) && ((l.drop i).all p && decide (l.length ≤ 30))) := by
  intro d
  induction d with
  | zero =>
    intro i seen hd hi hs
    rw [List.drop_eq_nil_of_le (by omega)]
    refine Ev.step (fun k => by rw [impl_pairsRight.l0, if_neg (by omega)]) (Ev.give ?_)
    by_cases h : l.length ≤ 30
    · rw [decide_eq_true h, decide_eq_true (show (l.length : Int) ≤ 30 by omega)]; rfl
    · rw [decide_eq_false h, decide_eq_false (show ¬ (l.length : Int) ≤ 30 by omega)]; rfl
  | succ d ih =>
    intro i seen hd hi hs
    have hlt : i < l.length := by omega
    have hr := rdi_Pair l i hlt
    have hw : wrap64 ((i : Int) + 1) = ((i + 1 : Nat) : Int) := by rw [wrap64_id (by have := hl.1; omega) (by have := hl.1; omega)]; rfl
    have hm := List.getElem_mem hlt
    have hz := (hl.2 _ hm).1
    have hL := hl.1
    have m1 : l[i].f0.size ≤ maxLen := by unfold maxLen; omega
    have m2 : seen.length < maxLen := by unfold maxLen; omega
    have hn := ih (i + 1) (seen ++ [l[i].f0]) (by omega) (by omega) (by simp; omega)
    rw [List.drop_eq_getElem_cons hlt, fresh_and]
    refine Ev.step (fun k => by rw [impl_pairsRight.l0, if_pos (by omega), if_pos (by omega), hr, hw]) (Ev.bind (hp _ hm) ?_)
    cases p l[i] with
    | false => exact Ev.neg (by decide) (Ev.now _)
    | true =>
      rw [if_pos rfl]
      refine Ev.pos rfl (Ev.pos m1 (Ev.pos m2 ?_))
      by_cases h : l[i].f0 ∈ seen
      · rw [if_pos h]; exact Ev.pos h (Ev.now _)
      · rw [if_neg h]; exact Ev.neg h hn
theorem pairs_f (l : List S45) (hl : sizesOk l) (n : Int) (p : S45 → Bool) (hp : ∀ x ∈ l, Ev (fun k => pairP k n x.f0 x.f1) (p x)) : Ev (fun k => impl_pairsRight.f k l n) (pairsOk p l) := by
  have := pairs_l0 l hl n p hp l.length 0 [] rfl (by omega) (by simp)
  rw [List.drop_zero] at this
  unfold pairsOk diffOk
  have e : (decide (l.length ≤ 30) && (freshIn [] (l.map (·.f0)) && l.all p)) = (freshIn [] (l.map (·.f0)) && (l.all p && decide (l.length ≤ 30))) := by
    cases decide (l.length ≤ 30) <;> cases freshIn [] (l.map (·.f0)) <;> cases l.all p <;> rfl
  rw [e]
  exact this
theorem i_pairsQ (l : List S45) (hl : sizesOk l) : Ev (fun k => impl_pairsRight.f k l 27) (pairsOk queryOk l) :=
  pairs_f l hl _ _ (fun x _ => Ev.congr (fun k => by rw [pairP_query, i_query]) (Ev.now _))
theorem i_pairsH (l : List S45) (hl : sizesOk l) : Ev (fun k => impl_pairsRight.f k l 28) (pairsOk headerOk l) :=
  pairs_f l hl _ _ (fun x hx => Ev.congr (fun k => by rw [pairP_header]) (i_header x (hl.2 x hx).1 (hl.2 x hx).2))
theorem i_fault (m p : ByteArray) (q h : List S45) (b : ByteArray) (hm : m.size ≤ 1048576) (hq : sizesOk q) (hh : sizesOk h) : Ev (fun k => impl_RequestFault.f k m p q h b) (reqFault m p q h b) := by
  refine Ev.congr (fun k => by rw [impl_RequestFault.f]) ?_
  unfold reqFault reqOk
  refine Ev.bind (i_method m hm) ?_
  cases methodOk m with
  | false => exact Ev.neg (by decide) (Ev.now _)
  | true =>
    refine Ev.pos rfl (Ev.bindS (i_path p) ?_)
    cases pathOk p with
    | false => exact Ev.neg (by decide) (Ev.now _)
    | true =>
      refine Ev.pos rfl (Ev.bind (i_pairsQ q hq) ?_)
      cases pairsOk queryOk q with
      | false => exact Ev.neg (by decide) (Ev.now _)
      | true =>
        refine Ev.pos rfl (Ev.bind (i_pairsH h hh) ?_)
        cases pairsOk headerOk h with
        | false => exact Ev.neg (by decide) (Ev.now _)
        | true =>
          refine Ev.pos rfl ?_
          by_cases hb : (b.size : Int) > 100000
          · exact Ev.pos hb (Ev.give (by rw [decide_eq_false (show ¬ b.size ≤ 100000 by omega)]; rfl))
          · exact Ev.neg hb (Ev.give (by rw [decide_eq_true (show b.size ≤ 100000 by omega)]; rfl))

/-! The reference's. -/
theorem smeth_l0 (s : ByteArray) (hs : s.size ≤ 1048576) : ∀ (d i : Nat), s.size - i = d → i ≤ s.size → Ev (fun k => spec_l10Method.l0 k s (i : Int)) (allL capP (s.data.toList.drop i) && (decide (1 ≤ s.size) && decide (s.size ≤ 10))) := by
  intro d
  induction d with
  | zero =>
    intro i hd hi
    rw [drop_end s i (by omega)]
    refine Ev.step (fun k => by rw [spec_l10Method.l0, if_neg (by omega)]) ?_
    by_cases h : (s.size : Int) ≥ 1
    · refine Ev.pos h (Ev.give ?_)
      rw [decide_eq_true (show 1 ≤ s.size by omega)]
      by_cases h2 : s.size ≤ 10
      · rw [decide_eq_true h2, decide_eq_true (show (s.size : Int) ≤ 10 by omega)]; rfl
      · rw [decide_eq_false h2, decide_eq_false (show ¬ (s.size : Int) ≤ 10 by omega)]; rfl
    · refine Ev.neg h (Ev.give ?_)
      rw [decide_eq_false (show ¬ 1 ≤ s.size by omega)]; rfl
  | succ d ih =>
    intro i hd hi
    obtain ⟨c, e, hb⟩ := bt_drop s i (by omega)
    have hw : wrap64 ((i : Int) + 1) = ((i + 1 : Nat) : Int) := by rw [wrap64_id (by omega) (by omega)]; rfl
    have hn := ih (i + 1) (by omega) (by omega)
    rw [e]
    refine Ev.step (fun k => by rw [spec_l10Method.l0, if_pos (by omega), if_pos (by omega), hb, hw]) ?_
    unfold allL capP at hn ⊢
    rw [List.all_cons]
    by_cases h1 : (c.toNat : Int) < 65
    · exact Ev.pos h1 (Ev.give (by rw [decide_eq_false (show ¬ 65 ≤ (c.toNat : Int) by omega)]; rfl))
    · refine Ev.neg h1 ?_
      rw [decide_eq_true (show 65 ≤ (c.toNat : Int) by omega)]
      by_cases h2 : (c.toNat : Int) > 90
      · exact Ev.pos h2 (Ev.give (by rw [decide_eq_false (show ¬ (c.toNat : Int) ≤ 90 by omega)]; rfl))
      · refine Ev.neg h2 ?_
        rw [decide_eq_true (show (c.toNat : Int) ≤ 90 by omega)]
        exact hn
theorem s_method (s : ByteArray) (hs : s.size ≤ 1048576) : Ev (fun k => spec_l10Method.f k s) (methodOk s) := by
  have := smeth_l0 s hs s.size 0 rfl (by omega)
  rw [List.drop_zero] at this
  have e : methodOk s = (allL capP s.data.toList && (decide (1 ≤ s.size) && decide (s.size ≤ 10))) := by
    unfold methodOk madeOk
    cases allL capP s.data.toList <;> cases decide (1 ≤ s.size) <;> cases decide (s.size ≤ 10) <;> rfl
  rw [e]
  exact this
theorem sname_l0 (s : ByteArray) (hs : s.size ≤ 1048576) : ∀ (d i : Nat), s.size - i = d → i ≤ s.size → Ev (fun k => spec_l10Name.l0 k s (i : Int)) (allL hdrP (s.data.toList.drop i) && (decide (1 ≤ s.size) && (decide (s.size ≤ 60) && !decide (s = lengthWord)))) := by
  intro d
  induction d with
  | zero =>
    intro i hd hi
    rw [drop_end s i (by omega)]
    refine Ev.step (fun k => by rw [spec_l10Name.l0, if_neg (by omega)]) ?_
    by_cases h : (s.size : Int) ≥ 1
    · refine Ev.pos h ?_
      rw [decide_eq_true (show 1 ≤ s.size by omega)]
      by_cases h2 : (s.size : Int) ≤ 60
      · refine Ev.pos h2 (Ev.give ?_)
        rw [decide_eq_true (show s.size ≤ 60 by omega)]
        have e : (s.toList = ([108, 101, 110, 103, 116, 104] : List UInt8)) ↔ s = lengthWord := by
          rw [← ba_toList_inj, show lengthWord.toList = [108, 101, 110, 103, 116, 104] by rw [ba_toList]; rfl]
        by_cases h3 : s = lengthWord
        · rw [decide_eq_true h3, e.2 h3]; rfl
        · rw [decide_eq_false h3, bne_iff_ne.2 (fun h => h3 (e.1 h))]; rfl
      · refine Ev.neg h2 (Ev.give ?_)
        rw [decide_eq_false (show ¬ s.size ≤ 60 by omega)]; rfl
    · refine Ev.neg h (Ev.give ?_)
      rw [decide_eq_false (show ¬ 1 ≤ s.size by omega)]; rfl
  | succ d ih =>
    intro i hd hi
    obtain ⟨c, e, hb⟩ := bt_drop s i (by omega)
    have hw : wrap64 ((i : Int) + 1) = ((i + 1 : Nat) : Int) := by rw [wrap64_id (by omega) (by omega)]; rfl
    have hn := ih (i + 1) (by omega) (by omega)
    rw [e]
    refine Ev.step (fun k => by rw [spec_l10Name.l0, if_pos (by omega), if_pos (by omega), hb, hw]) ?_
    unfold allL at hn ⊢
    rw [List.all_cons]
    have hT : hdrP (c.toNat : Int) = true → Ev (fun k => spec_l10Name.l0 k s ((i + 1 : Nat) : Int)) ((hdrP (c.toNat : Int) && (s.data.toList.drop (i + 1)).all fun c => hdrP (c.toNat : Int)) && (decide (1 ≤ s.size) && (decide (s.size ≤ 60) && !decide (s = lengthWord)))) := fun h => by rw [h]; exact hn
    have hF : hdrP (c.toNat : Int) = false → Ev (fun _ => some false) ((hdrP (c.toNat : Int) && (s.data.toList.drop (i + 1)).all fun c => hdrP (c.toNat : Int)) && (decide (1 ≤ s.size) && (decide (s.size ≤ 60) && !decide (s = lengthWord)))) := fun h => by rw [h]; exact Ev.now _
    have p1 : hdrP (c.toNat : Int) = ((decide (97 ≤ (c.toNat : Int)) && decide ((c.toNat : Int) ≤ 122)) || (decide (48 ≤ (c.toNat : Int)) && decide ((c.toNat : Int) ≤ 57)) || decide ((c.toNat : Int) = 45)) := rfl
    by_cases h1 : (c.toNat : Int) ≥ 97
    · refine Ev.pos h1 ?_
      by_cases h2 : (c.toNat : Int) ≤ 122
      · exact Ev.pos h2 (hT (by rw [p1, decide_eq_true (show 97 ≤ (c.toNat : Int) from h1), decide_eq_true h2]; rfl))
      · refine Ev.neg h2 (Ev.pos (show (c.toNat : Int) ≥ 48 by omega) (Ev.neg (show ¬ (c.toNat : Int) ≤ 57 by omega) (Ev.neg (show ¬ (c.toNat : Int) = 45 by omega) (hF ?_))))
        rw [p1, decide_eq_false h2, decide_eq_false (show ¬ (c.toNat : Int) ≤ 57 by omega), decide_eq_false (show ¬ (c.toNat : Int) = 45 by omega)]; simp
    · refine Ev.neg h1 ?_
      by_cases h2 : (c.toNat : Int) ≥ 48
      · refine Ev.pos h2 ?_
        by_cases h3 : (c.toNat : Int) ≤ 57
        · exact Ev.pos h3 (hT (by rw [p1, decide_eq_true (show 48 ≤ (c.toNat : Int) from h2), decide_eq_true h3]; simp))
        · refine Ev.neg h3 (Ev.neg (show ¬ (c.toNat : Int) = 45 by omega) (hF ?_))
          rw [p1, decide_eq_false (show ¬ 97 ≤ (c.toNat : Int) from h1), decide_eq_false h3, decide_eq_false (show ¬ (c.toNat : Int) = 45 by omega)]; simp
      · refine Ev.neg h2 ?_
        by_cases h3 : (c.toNat : Int) = 45
        · exact Ev.pos h3 (hT (by rw [p1, decide_eq_true h3]; simp))
        · refine Ev.neg h3 (hF ?_)
          rw [p1, decide_eq_false (show ¬ 97 ≤ (c.toNat : Int) from h1), decide_eq_false (show ¬ 48 ≤ (c.toNat : Int) from h2), decide_eq_false h3]; rfl
theorem s_name (s : ByteArray) (hs : s.size ≤ 1048576) : Ev (fun k => spec_l10Name.f k s) (nameOk s) := by
  have := sname_l0 s hs s.size 0 rfl (by omega)
  rw [List.drop_zero] at this
  have e : nameOk s = (allL hdrP s.data.toList && (decide (1 ≤ s.size) && (decide (s.size ≤ 60) && !decide (s = lengthWord)))) := by
    unfold nameOk madeOk
    cases allL hdrP s.data.toList <;> cases decide (1 ≤ s.size) <;> cases decide (s.size ≤ 60) <;> simp
  rw [e]
  exact this
theorem last_bt (s : ByteArray) (h : 0 < s.size) : ∃ c : UInt8, s.data.toList.getLast? = some c ∧ bt s ((s.size : Int) - 1) = (c.toNat : Int) := by
  obtain ⟨c, e, hb⟩ := bt_get s (s.size - 1) (by omega)
  refine ⟨c, by rw [List.getLast?_eq_getElem?, data_length]; exact e, ?_⟩
  rw [← hb]; congr 1; omega
theorem svalue_l0 (s : ByteArray) (hs : s.size ≤ 1048576) : ∀ (d i : Nat), s.size - i = d → i ≤ s.size → Ev (fun k => spec_l10Value.l0 k s (i : Int)) (allL prtP (s.data.toList.drop i) && (decide (s.size ≤ 1000) && noBlank s)) := by
  intro d
  induction d with
  | zero =>
    intro i hd hi
    rw [drop_end s i (by omega)]
    refine Ev.step (fun k => by rw [spec_l10Value.l0, if_neg (by omega)]) ?_
    by_cases h : (s.size : Int) ≤ 1000
    · refine Ev.pos h ?_
      rw [decide_eq_true (show s.size ≤ 1000 by omega)]
      by_cases h0 : s.data.toList = []
      · refine Ev.pos (by rw [ba_toList]; exact h0) (Ev.give ?_)
        unfold noBlank; rw [decide_eq_true h0]; rfl
      · have hp : 0 < s.size := by
          rw [← data_length]; exact List.length_pos_iff.2 h0
        obtain ⟨c, e1, b1⟩ := head_bt s hp
        obtain ⟨z, e2, b2⟩ := last_bt s hp
        have hw : wrap64 ((s.size : Int) - 1) = (s.size : Int) - 1 := wrap64_id (by omega) (by omega)
        refine Ev.neg (by rw [ba_toList]; exact h0) (Ev.pos (by omega) ?_)
        rw [hw, b1, b2]
        have nb : noBlank s = (!decide (c = 32) && !decide (z = 32)) := by
          unfold noBlank; rw [decide_eq_false h0, e1, e2, Bool.false_or]
          simp only [Option.some.injEq]
        have k1 : ((c.toNat : Int) = 32) ↔ c = 32 := byte_eq_lit c 32 (by omega)
        have k2 : ((z.toNat : Int) = 32) ↔ z = 32 := byte_eq_lit z 32 (by omega)
        by_cases h1 : (c.toNat : Int) = 32
        · refine Ev.pos h1 (Ev.give ?_)
          rw [nb, decide_eq_true (k1.1 h1)]; rfl
        · refine Ev.neg h1 (Ev.pos (by omega) (Ev.pos (by omega) (Ev.give ?_)))
          rw [nb, decide_eq_false (fun h => h1 (k1.2 h))]
          by_cases h2 : (z.toNat : Int) = 32
          · rw [decide_eq_true (k2.1 h2), h2]; rfl
          · rw [decide_eq_false (fun h => h2 (k2.2 h)), bne_iff_ne.2 h2]; rfl
    · refine Ev.neg h (Ev.give ?_)
      rw [decide_eq_false (show ¬ s.size ≤ 1000 by omega)]; rfl
  | succ d ih =>
    intro i hd hi
    obtain ⟨c, e, hb⟩ := bt_drop s i (by omega)
    have hw : wrap64 ((i : Int) + 1) = ((i + 1 : Nat) : Int) := by rw [wrap64_id (by omega) (by omega)]; rfl
    have hn := ih (i + 1) (by omega) (by omega)
    rw [e]
    refine Ev.step (fun k => by rw [spec_l10Value.l0, if_pos (by omega), if_pos (by omega), hb, hw]) ?_
    unfold allL prtP at hn ⊢
    rw [List.all_cons]
    by_cases h1 : (c.toNat : Int) < 32
    · exact Ev.pos h1 (Ev.give (by rw [decide_eq_false (show ¬ 32 ≤ (c.toNat : Int) by omega)]; rfl))
    · refine Ev.neg h1 ?_
      rw [decide_eq_true (show 32 ≤ (c.toNat : Int) by omega)]
      by_cases h2 : (c.toNat : Int) > 126
      · exact Ev.pos h2 (Ev.give (by rw [decide_eq_false (show ¬ (c.toNat : Int) ≤ 126 by omega)]; rfl))
      · refine Ev.neg h2 ?_
        rw [decide_eq_true (show (c.toNat : Int) ≤ 126 by omega)]
        exact hn
theorem s_value (s : ByteArray) (hs : s.size ≤ 1048576) : Ev (fun k => spec_l10Value.f k s) (valueOk s) := by
  have := svalue_l0 s hs s.size 0 rfl (by omega)
  rw [List.drop_zero] at this
  have e : valueOk s = (allL prtP s.data.toList && (decide (s.size ≤ 1000) && noBlank s)) := by
    unfold valueOk madeOk
    cases allL prtP s.data.toList <;> cases decide (s.size ≤ 1000) <;> simp
  rw [e]
  exact this
/-- The names before the i-th, from the k-th on, are not its own. -/
def apartFrom (l : List S45) (x : ByteArray) (j : Nat) (i : Nat) : Bool := !decide (x ∈ ((l.take i).map (·.f0)).drop j)
theorem freshIn_at (l : List S45) (i : Nat) (h : i < l.length) : freshIn ((l.take i).map (·.f0)) ((l.drop i).map (·.f0)) = (apartFrom l l[i].f0 0 i && freshIn ((l.take (i + 1)).map (·.f0)) ((l.drop (i + 1)).map (·.f0))) := by
  rw [List.drop_eq_getElem_cons h, List.map_cons, freshIn]
  unfold apartFrom
  rw [List.drop_zero]
  congr 2
  rw [List.take_add_one, List.getElem?_eq_getElem h, List.map_append]
  rfl
theorem sdiff_l1 (l : List S45) (hl : l.length ≤ 1048576) (i : Nat) (hi : i < l.length) (b : Bool) (hr : Ev (fun k => spec_l10Different.l0 k l ((i + 1 : Nat) : Int)) b) : ∀ (d j : Nat), i - j = d → j ≤ i →
    Ev (fun k => spec_l10Different.l1 k l (i : Int) (j : Int)) (apartFrom l l[i].f0 j i && b) := by
  intro d
  induction d with
  | zero =>
    intro j hd hj
    have hw : wrap64 ((i : Int) + 1) = ((i + 1 : Nat) : Int) := by rw [wrap64_id (by omega) (by omega)]; rfl
    have e : apartFrom l l[i].f0 j i = true := by
      unfold apartFrom
      rw [List.drop_eq_nil_of_le (by simp; omega)]; rfl
    rw [e]
    exact Ev.step (fun k => by rw [spec_l10Different.l1, if_neg (by omega), hw]) hr
  | succ d ih =>
    intro j hd hj
    have hlj : j < l.length := by omega
    have hw : wrap64 ((j : Int) + 1) = ((j + 1 : Nat) : Int) := by rw [wrap64_id (by omega) (by omega)]; rfl
    have r1 := rdi_Pair l i hi
    have r2 := rdi_Pair l j hlj
    have hn := ih (j + 1) (by omega) (by omega)
    have e : ((l.take i).map (·.f0)).drop j = l[j].f0 :: ((l.take i).map (·.f0)).drop (j + 1) := by
      rw [List.drop_eq_getElem_cons (by simp; omega)]; simp
    refine Ev.step (fun k => by rw [spec_l10Different.l1, if_pos (by omega), if_pos (by omega), if_pos (by omega), if_pos (by omega), if_pos (by omega), r1, r2, hw]) ?_
    have e2 : apartFrom l l[i].f0 j i = (!decide (l[i].f0 = l[j].f0) && apartFrom l l[i].f0 (j + 1) i) := by
      unfold apartFrom; rw [e]
      by_cases h : l[i].f0 = l[j].f0
      · rw [decide_eq_true (List.mem_cons.2 (Or.inl h)), decide_eq_true h]; rfl
      · by_cases h2 : l[i].f0 ∈ ((l.take i).map (·.f0)).drop (j + 1)
        · rw [decide_eq_true (List.mem_cons.2 (Or.inr h2)), decide_eq_true h2]; simp
        · rw [decide_eq_false (fun h' => (List.mem_cons.1 h').elim h h2), decide_eq_false h, decide_eq_false h2]; rfl
    rw [e2]
    by_cases h : l[i].f0 = l[j].f0
    · exact Ev.pos (ba_toList_inj.2 h) (Ev.give (by rw [decide_eq_true h]; rfl))
    · refine Ev.neg (fun h' => h (ba_toList_inj.1 h')) ?_
      rw [decide_eq_false h]
      exact hn
theorem sdiff_l0 (l : List S45) (hl : l.length ≤ 1048576) : ∀ (d i : Nat), l.length - i = d → i ≤ l.length → Ev (fun k => spec_l10Different.l0 k l (i : Int)) (freshIn ((l.take i).map (·.f0)) ((l.drop i).map (·.f0)) && decide (l.length ≤ 30)) := by
  intro d
  induction d with
  | zero =>
    intro i hd hi
    rw [List.drop_eq_nil_of_le (by omega)]
    refine Ev.step (fun k => by rw [spec_l10Different.l0, if_neg (by omega)]) (Ev.give ?_)
    by_cases h : l.length ≤ 30
    · rw [decide_eq_true h, decide_eq_true (show (l.length : Int) ≤ 30 by omega)]; rfl
    · rw [decide_eq_false h, decide_eq_false (show ¬ (l.length : Int) ≤ 30 by omega)]; simp
  | succ d ih =>
    intro i hd hi
    have hlt : i < l.length := by omega
    rw [freshIn_at l i hlt, Bool.and_assoc]
    exact Ev.step (fun k => by rw [spec_l10Different.l0, if_pos (by omega)]; rfl) (sdiff_l1 l hl i hlt _ (ih (i + 1) (by omega) (by omega)) i 0 rfl (by omega))
theorem s_diff (l : List S45) (hl : l.length ≤ 1048576) : Ev (fun k => spec_l10Different.f k l) (diffOk l && decide (l.length ≤ 30)) := by
  have := sdiff_l0 l hl l.length 0 rfl (by omega)
  rw [List.drop_zero, List.take_zero] at this
  exact this
theorem sfault_l1 (q h : List S45) (m p b : ByteArray) (hh : sizesOk h) : ∀ (d i : Nat), h.length - i = d → i ≤ h.length → Ev (fun k => spec_RequestFault.l1 k (i : Int) m p q h b) (if (h.drop i).all headerOk = true then (0 : Int) else 1) := by
  intro d
  induction d with
  | zero =>
    intro i hd hi
    rw [List.drop_eq_nil_of_le (by omega)]
    exact Ev.step (fun k => by rw [spec_RequestFault.l1, if_neg (by omega)]; rfl) (Ev.now _)
  | succ d ih =>
    intro i hd hi
    have hlt : i < h.length := by omega
    have hr := rdi_Pair h i hlt
    have hw : wrap64 ((i : Int) + 1) = ((i + 1 : Nat) : Int) := by rw [wrap64_id (by have := hh.1; omega) (by have := hh.1; omega)]; rfl
    have hz := hh.2 _ (List.getElem_mem hlt)
    have hn := ih (i + 1) (by omega) (by omega)
    rw [List.drop_eq_getElem_cons hlt, List.all_cons]
    refine Ev.step (fun k => by rw [spec_RequestFault.l1, if_pos (by omega), if_pos (by omega), hr, hw]) (Ev.bind (s_name _ hz.1) ?_)
    unfold headerOk at hn ⊢
    cases nameOk h[i].f0 with
    | false => exact Ev.neg (by decide) (Ev.now _)
    | true =>
      refine Ev.pos rfl (Ev.bind (s_value _ hz.2) ?_)
      cases valueOk h[i].f1 with
      | false => exact Ev.neg (by decide) (Ev.now _)
      | true => exact Ev.pos rfl hn
theorem sfault_l0 (q h : List S45) (m p b : ByteArray) (hq : q.length ≤ 1048576) (hh : sizesOk h) : ∀ (d i : Nat), q.length - i = d → i ≤ q.length → Ev (fun k => spec_RequestFault.l0 k (i : Int) m p q h b) (if ((q.drop i).all queryOk && h.all headerOk) = true then (0 : Int) else 1) := by
  intro d
  induction d with
  | zero =>
    intro i hd hi
    rw [List.drop_eq_nil_of_le (by omega)]
    exact Ev.step (fun k => by rw [spec_RequestFault.l0, if_neg (by omega)]; rfl) (sfault_l1 q h m p b hh h.length 0 rfl (by omega))
  | succ d ih =>
    intro i hd hi
    have hlt : i < q.length := by omega
    have hr := rdi_Pair q i hlt
    have hw : wrap64 ((i : Int) + 1) = ((i + 1 : Nat) : Int) := by rw [wrap64_id (by omega) (by omega)]; rfl
    have hn := ih (i + 1) (by omega) (by omega)
    rw [List.drop_eq_getElem_cons hlt, List.all_cons]
    refine Ev.step (fun k => by rw [spec_RequestFault.l0, if_pos (by omega), if_pos (by omega), hr, hw]) ?_
    unfold queryOk at hn ⊢
    by_cases h1 : (q[i].f0.size : Int) < 1
    · exact Ev.pos h1 (Ev.give (by rw [decide_eq_false (show ¬ 1 ≤ q[i].f0.size by omega)]; rfl))
    · refine Ev.neg h1 ?_
      rw [decide_eq_true (show 1 ≤ q[i].f0.size by omega)]
      by_cases h2 : (q[i].f0.size : Int) > 100
      · exact Ev.pos h2 (Ev.give (by rw [decide_eq_false (show ¬ q[i].f0.size ≤ 100 by omega)]; rfl))
      · refine Ev.neg h2 ?_
        rw [decide_eq_true (show q[i].f0.size ≤ 100 by omega)]
        by_cases h3 : (q[i].f1.size : Int) > 1000
        · exact Ev.pos h3 (Ev.give (by rw [decide_eq_false (show ¬ q[i].f1.size ≤ 1000 by omega)]; rfl))
        · refine Ev.neg h3 ?_
          rw [decide_eq_true (show q[i].f1.size ≤ 1000 by omega)]
          exact hn
theorem s_fault (m p : ByteArray) (q h : List S45) (b : ByteArray) (hm : m.size ≤ 1048576) (hq : sizesOk q) (hh : sizesOk h) : Ev (fun k => spec_RequestFault.f k m p q h b) (reqFault m p q h b) := by
  have J : Ev (fun k => spec_RequestFault.j0 k true m p q h b) 1 := Ev.step (fun k => by rw [spec_RequestFault.j0, if_pos rfl]) (Ev.now _)
  refine Ev.congr (fun k => by rw [spec_RequestFault.f]) ?_
  unfold reqFault reqOk
  refine Ev.bind (s_method m hm) ?_
  cases methodOk m with
  | false => exact Ev.neg (by decide) J
  | true =>
    refine Ev.pos rfl ?_
    unfold pathOk
    by_cases p1 : (p.size : Int) < 1
    · refine Ev.pos p1 ?_
      have e : p.data.toList = [] := List.length_eq_zero_iff.1 (by rw [data_length]; omega)
      rw [e, show decide ((([] : List UInt8).head?) = some 47) = false from rfl, Bool.and_false]
      exact J
    · refine Ev.neg p1 ?_
      by_cases p2 : (p.size : Int) > 1000
      · refine Ev.pos p2 ?_
        rw [decide_eq_false (show ¬ p.size ≤ 1000 by omega)]
        exact J
      · refine Ev.neg p2 ?_
        rw [decide_eq_true (show p.size ≤ 1000 by omega)]
        obtain ⟨c, e1, b1⟩ := head_bt p (by omega)
        refine Ev.pos (by omega) ?_
        rw [b1, e1]
        have k1 : ((c.toNat : Int) = 47) ↔ c = 47 := byte_eq_lit c 47 (by omega)
        by_cases hc : (c.toNat : Int) = 47
        · refine Ev.pos hc ?_
          rw [k1.1 hc, show decide ((some 47 : Option UInt8) = some 47) = true from rfl]
          unfold pairsOk
          by_cases q1 : (q.length : Int) > 30
          · refine Ev.pos q1 ?_
            rw [decide_eq_false (show ¬ q.length ≤ 30 by omega)]; exact J
          · refine Ev.neg q1 ?_
            rw [decide_eq_true (show q.length ≤ 30 by omega)]
            by_cases h1 : (h.length : Int) > 30
            · refine Ev.pos h1 ?_
              rw [decide_eq_false (show ¬ h.length ≤ 30 by omega)]
              cases diffOk q <;> cases q.all queryOk <;> exact J
            · refine Ev.neg h1 ?_
              rw [decide_eq_true (show h.length ≤ 30 by omega)]
              refine Ev.bind (s_diff q hq.1) ?_
              rw [decide_eq_true (show q.length ≤ 30 by omega), Bool.and_true]
              cases diffOk q with
              | false => exact Ev.neg (by decide) J
              | true =>
                refine Ev.pos rfl (Ev.bind (s_diff h hh.1) ?_)
                rw [decide_eq_true (show h.length ≤ 30 by omega), Bool.and_true]
                cases diffOk h with
                | false =>
                  refine Ev.neg (by decide) ?_
                  cases q.all queryOk <;> exact J
                | true =>
                  refine Ev.pos rfl ?_
                  by_cases hb : (b.size : Int) > 100000
                  · rw [decide_eq_true hb, decide_eq_false (show ¬ b.size ≤ 100000 by omega)]
                    cases q.all queryOk <;> cases h.all headerOk <;> exact J
                  · rw [decide_eq_false hb, decide_eq_true (show b.size ≤ 100000 by omega)]
                    refine Ev.step (fun k => by rw [spec_RequestFault.j0, if_neg (by decide)]) ?_
                    have := sfault_l0 q h m p b hq.1 hh q.length 0 rfl (by omega)
                    rw [List.drop_zero] at this
                    simp only [Bool.true_and, Bool.and_true]
                    exact this
        · refine Ev.neg hc ?_
          rw [show decide ((some c : Option UInt8) = some 47) = false from decide_eq_false (fun h => hc (k1.2 (Option.some.inj h))), Bool.and_false]
          exact J

theorem sz_req (m p : ByteArray) (q h : List S71) (b : ByteArray) (g0 : good9 m) (g1 : good9 p) (g2 : good22 q) (g3 : good22 h) (g4 : good9 b) :
    ∃ r, Ev (fun k => laws_szRequest.f k m p q h b 1048576) r ∧ (0 ≤ r → m.size ≤ 1048576 ∧ p.size ≤ 1048576 ∧ (q.length ≤ 1048576 ∧ ∀ x ∈ q, x.f0.size ≤ 1048576 ∧ x.f1.size ≤ 1048576) ∧ (h.length ≤ 1048576 ∧ ∀ x ∈ h, x.f0.size ≤ 1048576 ∧ x.f1.size ≤ 1048576) ∧ b.size ≤ 1048576) := by
  unfold good9 at g0 g1 g4
  have w1 : wrap64 (1048576 - (m.size : Int)) = 1048576 - (m.size : Int) := wrap64_id (by omega) (by omega)
  by_cases c1 : (1048576 : Int) - (m.size : Int) < 0
  · exact ⟨-1, Ev.congr (fun k => by rw [laws_szRequest.f, w1, if_pos c1]) (Ev.now _), fun h => by omega⟩
  have w2 : wrap64 (1048576 - (m.size : Int) - (p.size : Int)) = 1048576 - (m.size : Int) - (p.size : Int) := wrap64_id (by omega) (by omega)
  by_cases c2 : (1048576 : Int) - (m.size : Int) - (p.size : Int) < 0
  · exact ⟨-1, Ev.congr (fun k => by rw [laws_szRequest.f, w1, if_neg c1, w2, if_pos c2]) (Ev.now _), fun h => by omega⟩
  obtain ⟨r1, e1, b1⟩ := szPairS q (1048576 - (m.size : Int) - (p.size : Int)) g2.1 (fun x hx => ⟨(g2.2 x hx).1, (g2.2 x hx).2⟩) (by omega) (by omega)
  by_cases c3 : r1 < 0
  · exact ⟨-1, Ev.congr (fun k => by rw [laws_szRequest.f, w1, if_neg c1, w2, if_neg c2]) (Ev.bind e1 (Ev.pos c3 (Ev.now _))), fun h => by omega⟩
  have q1 := b1 (by omega)
  obtain ⟨r2, e2, b2⟩ := szPairS h r1 g3.1 (fun x hx => ⟨(g3.2 x hx).1, (g3.2 x hx).2⟩) (by omega) (by omega)
  by_cases c4 : r2 < 0
  · exact ⟨-1, Ev.congr (fun k => by rw [laws_szRequest.f, w1, if_neg c1, w2, if_neg c2]) (Ev.bind e1 (Ev.neg c3 (Ev.bind e2 (Ev.pos c4 (Ev.now _))))), fun h => by omega⟩
  have q2 := b2 (by omega)
  have w3 : wrap64 (r2 - (b.size : Int)) = r2 - (b.size : Int) := wrap64_id (by omega) (by omega)
  by_cases c5 : r2 - (b.size : Int) < 0
  · exact ⟨-1, Ev.congr (fun k => by rw [laws_szRequest.f, w1, if_neg c1, w2, if_neg c2]) (Ev.bind e1 (Ev.neg c3 (Ev.bind e2 (Ev.neg c4 (Ev.pos (show wrap64 (r2 - (b.size : Int)) < 0 by rw [w3]; exact c5) (Ev.now _)))))), fun h => by omega⟩
  · exact ⟨r2 - (b.size : Int), Ev.congr (fun k => by rw [laws_szRequest.f, w1, if_neg c1, w2, if_neg c2]) (Ev.bind e1 (Ev.neg c3 (Ev.bind e2 (Ev.neg c4 (Ev.neg (show ¬ wrap64 (r2 - (b.size : Int)) < 0 by rw [w3]; exact c5) (Ev.give w3)))))), fun _ => ⟨by omega, by omega, q1.2, q2.2, by omega⟩⟩
theorem to_req (m p : ByteArray) (q h : List S71) (b : ByteArray) (hq : q.length ≤ 1048576) (hh : h.length ≤ 1048576) : Ev (fun k => laws_toRequest.f k m p q h b) (m, p, q.map pairOf, h.map pairOf, b) := by
  refine Ev.congr (fun k => by rw [laws_toRequest.f]) ?_
  exact Ev.bind (toPairS q hq) (Ev.bind (toPairS h hh) (Ev.now _))
theorem sizes_of (l : List S71) (h : l.length ≤ 1048576 ∧ ∀ x ∈ l, x.f0.size ≤ 1048576 ∧ x.f1.size ≤ 1048576) : sizesOk (l.map pairOf) :=
  ⟨by simpa using h.1, fun x hx => by obtain ⟨y, hy, rfl⟩ := List.mem_map.1 hx; exact h.2 y hy⟩
theorem eq_req (m p : ByteArray) (q h : List S45) (b : ByteArray) (hq : sizesOk q) (hh : sizesOk h) : Ev (fun k => laws_eqRequest.f k m p q h b m p q h b) true := by
  refine Ev.congr (fun k => by rw [laws_eqRequest.f, if_pos rfl, if_pos rfl]) ?_
  exact Ev.bind (eqPairS q hq.1) (Ev.pos rfl (Ev.bind (eqPairS h hh.1) (Ev.pos rfl (Ev.congr (fun k => by rw [if_pos rfl]) (Ev.now _)))))
theorem FnExactRequestFault : laws_FnExactRequestFault.Wants := by
  intro m p q h b g0 g1 g2 g3 g4
  refine Ev.rounds (Ev.congr (fun k => by rw [laws_FnExactRequestFault.f]) ?_)
  obtain ⟨r, e, bd⟩ := sz_req m p q h b g0 g1 g2 g3 g4
  refine Ev.bind e ?_
  by_cases hn : r < 0
  · exact Ev.pos hn (Ev.now _)
  · refine Ev.neg hn ?_
    obtain ⟨b0, b1, b2, b3, b4⟩ := bd (by omega)
    have sq := sizes_of q b2
    have sh := sizes_of h b3
    exact Ev.bind (to_req m p q h b b2.1 b3.1) (Ev.bind (s_fault m p _ _ b b0 sq sh) (Ev.bind (to_req m p q h b b2.1 b3.1) (Ev.bind (i_fault m p _ _ b b0 sq sh) (Ev.pos rfl (Ev.bind (to_req m p q h b b2.1 b3.1) (Ev.bind (eq_req m p _ _ b sq sh) (Ev.pos rfl (Ev.now _))))))))

end Go.Proofs.YtepnjhmdcaolkaaDoor.Pure
