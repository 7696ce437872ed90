/- The statement FnExactUnEscape over numbers and lists alone: the program's UnEscape and the reference's answer the same, field by field. No condition. -/
import Derived.Test.YtnailhkgnccloaaQFnExactUnEscapex5
import Derived.Laws.BitsAllLaws
import Derived.Laws.Bits64
import Derived.Laws.Strings
set_option linter.all false
namespace Go.Proofs.Ytnailhkgnccloaa.Pure
open Go.RowKit Go.Proofs.Ytnailhkgnccloaa.QFnExactUnEscape Go.Proofs.YtnailhkgnccloaaW.PrintWords Go.Proofs.YtnailhkgnccloaaW.PrintLast Go.Proofs.YtnailhkgnccloaaW.PrintMore

/-! Small lemmas on wraps, rounds and lists. -/
theorem wrap64_id {x : Int} (h0 : -9223372036854775808 ≤ x) (h1 : x < 9223372036854775808) : wrap64 x = x := by unfold wrap64; omega
theorem u64_id {x : Int} (h0 : 0 ≤ x) (h1 : x < 18446744073709551616) : IntKind.u64.wrap x = x := by rw [IntKind.wrap_u64]; omega
theorem Ev.pos {α : Type} {c : Prop} [Decidable c] {f g : Nat → Option α} {r : α} (h : c) (e : Ev f r) : Ev (fun k => if c then f k else g k) r := by simpa [h] using e
theorem Ev.neg {α : Type} {c : Prop} [Decidable c] {f g : Nat → Option α} {r : α} (h : ¬ c) (e : Ev g r) : Ev (fun k => if c then f k else g k) r := by simpa [h] using e
theorem Ev.bindS {α β : Type} {g : Option α} {f : Nat → α → Option β} {a : α} {r : β} (h : g = some a) (e : Ev (fun k => f k a) r) : Ev (fun k => g.bind (f k)) r := by subst h; simpa using e
theorem Ev.give {α : Type} {r s : α} (h : s = r) : Ev (fun _ => some s) r := by subst h; exact Ev.now _
theorem bt_drop (s : ByteArray) (i : Nat) (h : i < s.size) : ∃ c : UInt8, s.data.toList.drop i = c :: s.data.toList.drop (i + 1) ∧ bt s (i : Int) = (c.toNat : Int) := by
  have hl : i < s.data.toList.length := by simpa using h
  refine ⟨s.data.toList[i], List.drop_eq_getElem_cons hl, ?_⟩
  unfold bt
  rw [dif_pos (by simpa using h)]
  simp [ByteArray.getElem_eq_getElem_data]
theorem drop_end (s : ByteArray) (i : Nat) (h : s.size ≤ i) : s.data.toList.drop i = [] := List.drop_eq_nil_of_le (by simpa using h)
theorem size_strOfNums (l : List Int) : (strOfNums l).size = l.length := by
  show (strOfNums l).data.size = l.length
  simp [strOfNums]
theorem i64_range {n : Int} (h : (Lit.int .i64 n).wf = true) : -9223372036854775808 ≤ n ∧ n < 9223372036854775808 := by
  simp only [Lit.wf, IntKind.min, IntKind.max, IntKind.signed, IntKind.bits, Bool.and_eq_true, decide_eq_true_eq, if_true] at h; omega
theorem byte_eq_int (c d : UInt8) : ((c.toNat : Int) = (d.toNat : Int)) ↔ c = d := by
  constructor
  · intro h; exact UInt8.toNat_inj.1 (by omega)
  · rintro rfl; rfl
theorem byte_eq_lit (c : UInt8) (n : Nat) (hn : n < 256) : ((c.toNat : Int) = (n : Int)) ↔ c = UInt8.ofNat n := by
  rw [← byte_eq_int]
  have : (UInt8.ofNat n).toNat = n := by simp [UInt8.toNat_ofNat']; omega
  rw [this]
theorem bt_get (s : ByteArray) (i : Nat) (h : i < s.size) : ∃ c : UInt8, s.data.toList[i]? = some c ∧ bt s (i : Int) = (c.toNat : Int) := by
  obtain ⟨c, e, hb⟩ := bt_drop s i h
  refine ⟨c, ?_, hb⟩
  have : (s.data.toList.drop i)[0]? = some c := by rw [e]; rfl
  simpa using this

/-! Bytes as the program's numbers, and as texts. -/
def bI (o : List UInt8) : List Int := o.map fun c => (c.toNat : Int)
def mkB (o : List UInt8) : ByteArray := ⟨o.toArray⟩
theorem strOf_bI (o : List UInt8) : strOfNums (bI o) = mkB o := by
  unfold strOfNums bI mkB
  congr 1
  rw [List.map_map]
  congr 1
  conv => rhs; rw [← List.map_id o]
  apply List.map_congr_left
  intro c _
  simp
theorem bI_snoc (o : List UInt8) (c : UInt8) : bI o ++ [(c.toNat : Int)] = bI (o ++ [c]) := by simp [bI]
theorem bI_app (o p : List UInt8) : bI o ++ bI p = bI (o ++ p) := by simp [bI]
theorem bI_length (o : List UInt8) : (bI o).length = o.length := by simp [bI]
theorem mkB_list (o : List UInt8) : (mkB o).data.toList = o := rfl
theorem mkB_toList (o : List UInt8) : (mkB o).toList = o := by rw [ByteArray.toList_eq]; rfl
theorem mkB_size (o : List UInt8) : (mkB o).size = o.length := by show o.toArray.size = _; simp
theorem mkB_data (s : ByteArray) : mkB s.data.toList = s := by unfold mkB; simp
theorem data_len (s : ByteArray) : s.data.toList.length = s.size := by simp
/-- Two bytes on, where there are. -/
theorem bt_next (s : ByteArray) (i : Nat) (h : i < s.size) : ∃ c : UInt8, s.data.toList.drop i = c :: s.data.toList.drop (i + 1) ∧ bt s (i : Int) = (c.toNat : Int) := bt_drop s i h

/-! Escaped texts: what is not safe stands as % and two digits. -/
def safeB (c : UInt8) : Bool := (97 ≤ c.toNat && c.toNat ≤ 122) || (65 ≤ c.toNat && c.toNat ≤ 90) || (48 ≤ c.toNat && c.toNat ≤ 57) || c.toNat == 45 || c.toNat == 95 || c.toNat == 46 || c.toNat == 47
/-- The digit of a number below 16, in capitals. -/
def upD (n : Nat) : UInt8 := UInt8.ofNat (if n < 10 then 48 + n else 55 + n)
/-- The number of a digit, or none. -/
def unD (c : UInt8) : Option Nat := if 48 ≤ c.toNat ∧ c.toNat ≤ 57 then some (c.toNat - 48) else if 65 ≤ c.toNat ∧ c.toNat ≤ 70 then some (c.toNat - 55) else none
def esc1 (c : UInt8) : List UInt8 := if safeB c = true then [c] else [37, upD (c.toNat / 16), upD (c.toNat % 16)]
def escL : List UInt8 → List UInt8
  | [] => []
  | c :: r => esc1 c ++ escL r
theorem unD_lt {c : UInt8} {n : Nat} (h : unD c = some n) : n < 16 := by
  unfold unD at h
  split at h
  · cases h; omega
  · split at h
    · cases h; omega
    · cases h
theorem unD_up {c : UInt8} {n : Nat} (h : unD c = some n) : upD n = c := by
  unfold unD at h
  unfold upD
  apply UInt8.toNat_inj.1
  have hc := c.toNat_lt
  split at h
  · cases h; rw [if_pos (by omega), UInt8.toNat_ofNat']; omega
  · split at h
    · cases h; rw [if_neg (by omega), UInt8.toNat_ofNat']; omega
    · cases h
theorem upD_un (n : Nat) (h : n < 16) : unD (upD n) = some n := by
  have key : ∀ m : Fin 16, unD (upD m.val) = some m.val := by decide
  exact key ⟨n, h⟩
theorem safe37 : safeB 37 = false := by decide
theorem nib (a b : Nat) (ha : a < 16) (hb : b < 16) : (UInt8.ofNat (a * 16 + b)).toNat = a * 16 + b := by rw [UInt8.toNat_ofNat']; omega
/-- Read loosely. -/
def decL : List UInt8 → List UInt8
  | [] => []
  | [c] => [c]
  | [c, d] => [c, d]
  | c :: a :: b :: r =>
    if c = 37 then
      match unD a, unD b with
      | some x, some y => UInt8.ofNat (x * 16 + y) :: decL r
      | _, _ => c :: decL (a :: b :: r)
    else c :: decL (a :: b :: r)
/-- Read strictly. -/
def unescL : List UInt8 → Option (List UInt8)
  | [] => some []
  | [c] => if safeB c = true then some [c] else none
  | [c, d] => if safeB c = true then (if safeB d = true then some [c, d] else none) else none
  | c :: a :: b :: r =>
    if safeB c = true then (unescL (a :: b :: r)).map (c :: ·)
    else if c = 37 then
      match unD a, unD b with
      | some x, some y => if safeB (UInt8.ofNat (x * 16 + y)) = true then none else (unescL r).map (UInt8.ofNat (x * 16 + y) :: ·)
      | _, _ => none
    else none
theorem unescL_safe {c : UInt8} (h : safeB c = true) (r : List UInt8) : unescL (c :: r) = (unescL r).map (c :: ·) := by
  match r with
  | [] => show (if safeB c = true then some [c] else none) = _; rw [if_pos h]; rfl
  | [d] =>
    rw [unescL, unescL, if_pos h]
    by_cases hd : safeB d = true
    · rw [if_pos hd, if_pos hd]; rfl
    · rw [if_neg hd, if_neg hd]; rfl
  | a :: b :: r => rw [unescL, if_pos h]
theorem unescL_odd {c : UInt8} (h : ¬ safeB c = true) (h37 : ¬ c = 37) (r : List UInt8) : unescL (c :: r) = none := by
  match r with
  | [] => rw [unescL, if_neg h]
  | [d] => rw [unescL, if_neg h]
  | a :: b :: r => rw [unescL, if_neg h, if_neg h37]
theorem decL_plain {c : UInt8} (h37 : ¬ c = 37) (r : List UInt8) : decL (c :: r) = c :: decL r := by
  match r with
  | [] => rfl
  | [d] => rfl
  | a :: b :: r => rw [decL, if_neg h37]
theorem not37 {c : UInt8} (h : safeB c = true) : ¬ c = 37 := fun e => by rw [e, safe37] at h; cases h
theorem esc1_nib {x y : Nat} (hx : x < 16) (hy : y < 16) (h : safeB (UInt8.ofNat (x * 16 + y)) = false) : esc1 (UInt8.ofNat (x * 16 + y)) = [37, upD x, upD y] := by
  unfold esc1
  rw [if_neg (by rw [h]; decide), nib x y hx hy]
  rw [show (x * 16 + y) / 16 = x by omega, show (x * 16 + y) % 16 = y by omega]
/-- What is read strictly is what is read loosely, and its escaped form is the text. -/
theorem unescL_some : ∀ (n : Nat) (t o : List UInt8), t.length ≤ n → unescL t = some o → decL t = o ∧ escL o = t := by
  intro n
  induction n with
  | zero =>
    intro t o hn h
    have : t = [] := List.eq_nil_of_length_eq_zero (by omega)
    subst this
    simp only [unescL, Option.some.injEq] at h
    subst h
    exact ⟨rfl, rfl⟩
  | succ n ih =>
    intro t o hn h
    match t, h with
    | [], h =>
      simp only [unescL, Option.some.injEq] at h
      subst h
      exact ⟨rfl, rfl⟩
    | c :: r, h =>
      by_cases hs : safeB c = true
      · rw [unescL_safe hs] at h
        obtain ⟨o', ho', rfl⟩ := Option.map_eq_some_iff.1 h
        obtain ⟨h1, h2⟩ := ih r o' (by simp at hn; omega) ho'
        refine ⟨by rw [decL_plain (not37 hs), h1], ?_⟩
        rw [escL, h2]; unfold esc1; rw [if_pos hs]; rfl
      · by_cases hc : c = 37
        · subst hc
          match r, h, hn with
          | [], h, _ => rw [unescL, if_neg hs] at h; cases h
          | [a], h, _ => rw [unescL, if_neg hs] at h; cases h
          | a :: b :: r', h, hn =>
            rw [unescL, if_neg hs, if_pos rfl] at h
            match ha : unD a, hb : unD b with
            | none, none => rw [ha, hb] at h; cases h
            | none, some _ => rw [ha, hb] at h; cases h
            | some _, none => rw [ha, hb] at h; cases h
            | some x, some y =>
              rw [ha, hb] at h
              simp only at h
              by_cases hv : safeB (UInt8.ofNat (x * 16 + y)) = true
              · rw [if_pos hv] at h; cases h
              · rw [if_neg hv] at h
                obtain ⟨o', ho', rfl⟩ := Option.map_eq_some_iff.1 h
                obtain ⟨h1, h2⟩ := ih r' o' (by simp at hn; omega) ho'
                refine ⟨?_, ?_⟩
                · rw [decL, if_pos rfl, ha, hb]; simp only; rw [h1]
                · rw [escL, h2, esc1_nib (unD_lt ha) (unD_lt hb) (Bool.eq_false_iff.2 hv), unD_up ha, unD_up hb]; rfl
        · rw [unescL_odd hs hc] at h; cases h
/-- Where the loose reading's escaped form is the text, the strict reading reads it. -/
theorem unescL_of : ∀ (n : Nat) (t : List UInt8), t.length ≤ n → escL (decL t) = t → unescL t = some (decL t) := by
  intro n
  induction n with
  | zero =>
    intro t hn h
    have : t = [] := List.eq_nil_of_length_eq_zero (by omega)
    subst this; rfl
  | succ n ih =>
    intro t hn h
    -- the first byte stays as it is
    have plain : ∀ (c : UInt8) (r : List UInt8), t = c :: r → decL t = c :: decL r → (c = 37 → ∀ a b r', r = a :: b :: r' → ¬ ((unD a).isSome ∧ (unD b).isSome)) → unescL t = some (decL t) := by
      intro c r ht hd hno
      rw [hd, ht] at h
      rw [escL] at h
      by_cases hs : safeB c = true
      · unfold esc1 at h
        rw [if_pos hs] at h
        have h' : escL (decL r) = r := by simpa using h
        rw [hd, ht, unescL_safe hs, ih r (by rw [ht] at hn; simp at hn; omega) h']
        rfl
      · unfold esc1 at h
        rw [if_neg hs] at h
        simp only [List.cons_append, List.nil_append, List.cons.injEq] at h
        obtain ⟨h1, h2⟩ := h
        exact absurd ⟨by rw [upD_un _ (by have := c.toNat_lt; omega)]; rfl, by rw [upD_un _ (by omega)]; rfl⟩ (hno h1.symm _ _ _ h2.symm)
    match t, h, hn, plain with
    | [], h, hn, plain => rfl
    | [c], h, hn, plain => exact plain c [] rfl rfl (fun _ a b r' h => by simp at h)
    | [c, d], h, hn, plain => exact plain c [d] rfl rfl (fun _ a b r' h => by simp at h)
    | c :: a :: b :: r, h, hn, plain =>
      by_cases hc : c = 37
      · match ha : unD a, hb : unD b with
        | none, none => exact plain c (a :: b :: r) rfl (by rw [decL, if_pos hc, ha, hb]) (fun _ a' b' r' e => by simp at e; obtain ⟨rfl, rfl, _⟩ := e; simp [ha])
        | none, some _ => exact plain c (a :: b :: r) rfl (by rw [decL, if_pos hc, ha, hb]) (fun _ a' b' r' e => by simp at e; obtain ⟨rfl, rfl, _⟩ := e; simp [ha])
        | some _, none => exact plain c (a :: b :: r) rfl (by rw [decL, if_pos hc, ha, hb]) (fun _ a' b' r' e => by simp at e; obtain ⟨rfl, rfl, _⟩ := e; simp [hb])
        | some x, some y =>
          have hd : decL (c :: a :: b :: r) = UInt8.ofNat (x * 16 + y) :: decL r := by rw [decL, if_pos hc, ha, hb]
          rw [hd] at h ⊢
          rw [escL] at h
          have hx := unD_lt ha
          have hy := unD_lt hb
          by_cases hv : safeB (UInt8.ofNat (x * 16 + y)) = true
          · exfalso
            unfold esc1 at h
            rw [if_pos hv] at h
            simp only [List.cons_append, List.nil_append, List.cons.injEq] at h
            rw [h.1, hc, safe37] at hv
            cases hv
          · have hv' : safeB (UInt8.ofNat (x * 16 + y)) = false := Bool.eq_false_iff.2 hv
            rw [esc1_nib hx hy hv', unD_up ha, unD_up hb] at h
            simp only [List.cons_append, List.nil_append, List.cons.injEq, true_and] at h
            have h' : escL (decL r) = r := h.2
            have := ih r (by simp at hn; omega) h'
            rw [unescL, if_neg (by rw [hc, safe37]; decide), if_pos hc, ha, hb]
            simp only
            rw [if_neg hv, this]
            rfl
      · exact plain c (a :: b :: r) rfl (by rw [decL, if_neg hc]) (fun e => absurd e hc)
theorem decL_len : ∀ (n : Nat) (t : List UInt8), t.length ≤ n → (decL t).length ≤ t.length := by
  intro n
  induction n with
  | zero =>
    intro t hn
    have : t = [] := List.eq_nil_of_length_eq_zero (by omega)
    subst this; simp [decL]
  | succ n ih =>
    intro t hn
    match t, hn with
    | [], _ => simp [decL]
    | [c], _ => simp [decL]
    | [c, d], _ => simp [decL]
    | c :: a :: b :: r, hn =>
      rw [decL]
      have h1 := ih (a :: b :: r) (by simp at hn ⊢; omega)
      have h2 := ih r (by simp at hn ⊢; omega)
      simp at h1 h2
      split
      · split
        · simp; omega
        · simp; omega
      · simp; omega

theorem spec_plain (c : UInt8) : spec_l10Plain.f (c.toNat : Int) = some (safeB c) := by
  have key : ∀ m : Fin 256, spec_l10Plain.f (m.val : Int) = some (safeB (UInt8.ofNat m.val)) := by decide +kernel
  have := key ⟨c.toNat, c.toNat_lt⟩
  simpa using this
def digOr (c : UInt8) : Int := match unD c with
  | some n => (n : Int)
  | none => -1
theorem digOr_some {c : UInt8} {n : Nat} (h : unD c = some n) : digOr c = (n : Int) := by unfold digOr; rw [h]
theorem digOr_none {c : UInt8} (h : unD c = none) : digOr c = -1 := by unfold digOr; rw [h]
theorem spec_upper (c : UInt8) : Ev (fun k => spec_l10Upper.f k (c.toNat : Int)) (digOr c) := by
  have key : ∀ m : Fin 256, spec_l10Upper.f 1 (m.val : Int) = some (digOr (UInt8.ofNat m.val)) := by decide +kernel
  have h := key ⟨c.toNat, c.toNat_lt⟩
  simp only [UInt8.ofNat_toNat] at h
  exact Ev.of (fun k => spec_l10Upper.mono _ k) h
def digs : ByteArray := ⟨#[48, 49, 50, 51, 52, 53, 54, 55, 56, 57, 65, 66, 67, 68, 69, 70]⟩
theorem digs_hi (c : UInt8) : bt digs ((Int.tdiv (c.toNat : Int) 16) % 256) = ((upD (c.toNat / 16)).toNat : Int) := by
  have key : ∀ m : Fin 256, bt digs ((Int.tdiv (m.val : Int) 16) % 256) = ((upD (m.val / 16)).toNat : Int) := by decide +kernel
  exact key ⟨c.toNat, c.toNat_lt⟩
theorem digs_lo (c : UInt8) : bt digs (Int.tmod (c.toNat : Int) 16) = ((upD (c.toNat % 16)).toNat : Int) := by
  have key : ∀ m : Fin 256, bt digs (Int.tmod (m.val : Int) 16) = ((upD (m.val % 16)).toNat : Int) := by decide +kernel
  exact key ⟨c.toNat, c.toNat_lt⟩
theorem spec_escape_l0 (s : ByteArray) (hs : s.size ≤ 140737488351232) : ∀ (d i : Nat) (o : List UInt8), s.size - i = d → i ≤ s.size → o.length + 3 * d < 140737488355328 →
    Ev (fun k => spec_Escape.l0 k s (bI o) (i : Int)) (mkB (o ++ escL (s.data.toList.drop i))) := by
  intro d
  induction d with
  | zero =>
    intro i o hd hi hl
    rw [drop_end s i (by omega)]
    refine Ev.step (fun k => by rw [spec_Escape.l0, if_neg (by omega)]) (Ev.give ?_)
    rw [strOf_bI, escL, List.append_nil]
  | succ d ih =>
    intro i o hd hi hl
    obtain ⟨c, e, hb⟩ := bt_drop s i (by omega)
    rw [e, escL]
    have hw : wrap64 ((i : Int) + 1) = ((i + 1 : Nat) : Int) := by rw [wrap64_id (by omega) (by omega)]; rfl
    have hc := c.toNat_lt
    by_cases hsf : safeB c = true
    · have hes : esc1 c = [c] := by unfold esc1; rw [if_pos hsf]
      refine Ev.step (fun k => by rw [spec_Escape.l0, if_pos (by omega), if_pos (by omega), hb, spec_plain, Option.bind_some, if_pos hsf, if_pos (by rw [bI_length]; omega), bI_snoc, hw]) ?_
      have := ih (i + 1) (o ++ [c]) (by omega) (by omega) (by simp; omega)
      rw [hes]
      simpa using this
    · have hes : esc1 c = [37, upD (c.toNat / 16), upD (c.toNat % 16)] := by unfold esc1; rw [if_neg hsf]
      have ht : Int.tdiv (c.toNat : Int) 16 = ((c.toNat / 16 : Nat) : Int) := by rw [Int.tdiv_eq_ediv_of_nonneg (by omega)]; rfl
      have hm : Int.tmod (c.toNat : Int) 16 = ((c.toNat % 16 : Nat) : Int) := by rw [Int.tmod_eq_emod_of_nonneg (by omega)]; rfl
      have h3 : ([37, bt (⟨#[48, 49, 50, 51, 52, 53, 54, 55, 56, 57, 65, 66, 67, 68, 69, 70]⟩ : ByteArray) ((Int.tdiv (c.toNat : Int) 16) % 256), bt (⟨#[48, 49, 50, 51, 52, 53, 54, 55, 56, 57, 65, 66, 67, 68, 69, 70]⟩ : ByteArray) (Int.tmod (c.toNat : Int) 16)] : List Int) = bI [37, upD (c.toNat / 16), upD (c.toNat % 16)] := by
        show [37, bt digs _, bt digs _] = _
        rw [digs_hi, digs_lo]; rfl
      refine Ev.step (fun k => by rw [spec_Escape.l0, if_pos (by omega), if_pos (by omega), hb, spec_plain, Option.bind_some, if_neg hsf, h3, if_pos (by rw [ht]; omega), if_pos (by rw [ht]; omega), if_pos (by rw [hm]; omega), if_pos (by rw [hm]; omega), Option.bind_some, if_pos (by rw [bI_length, bI_length]; simp; omega), bI_app, hw]) ?_
      have := ih (i + 1) (o ++ [37, upD (c.toNat / 16), upD (c.toNat % 16)]) (by omega) (by omega) (by simp; omega)
      rw [hes]
      simpa using this
/-- What Escape writes. -/
def escOf (s : ByteArray) : ByteArray := if (s.size : Int) > 100000 then ⟨#[]⟩ else mkB (escL s.data.toList)
theorem spec_escape (s : ByteArray) (hs : s.size ≤ 140737488351232) : Ev (fun k => spec_Escape.f k s) (escOf s) := by
  unfold escOf
  by_cases h0 : (s.size : Int) > 100000
  · rw [if_pos h0]; exact Ev.congr (fun k => by rw [spec_Escape.f, if_pos h0]) (Ev.now _)
  · rw [if_neg h0]
    refine Ev.congr (fun k => by rw [spec_Escape.f, if_neg h0]) ?_
    exact spec_escape_l0 s hs s.size 0 [] (by omega) (by omega) (by simp; omega)

theorem impl_safe (c : UInt8) : impl_safe.f (c.toNat : Int) = some (safeB c) := by
  have key : ∀ m : Fin 256, impl_safe.f (m.val : Int) = some (safeB (UInt8.ofNat m.val)) := by decide +kernel
  have := key ⟨c.toNat, c.toNat_lt⟩
  simpa using this
theorem impl_hexUp (c : UInt8) : Ev (fun k => impl_hexDigit.f k (c.toNat : Int) 65) (digOr c) := by
  have key : ∀ m : Fin 256, impl_hexDigit.f 1 (m.val : Int) 65 = some (digOr (UInt8.ofNat m.val)) := by decide +kernel
  have h := key ⟨c.toNat, c.toNat_lt⟩
  simp only [UInt8.ofNat_toNat] at h
  exact Ev.of (fun k => impl_hexDigit.mono _ _ k) h
/-- What UnEscape answers: good, the text, the place behind it. -/
def unRes (t : ByteArray) (r : Option (List UInt8)) : Bool × ByteArray × Int := match r with
  | some o => (true, mkB o, (t.size : Int))
  | none => (false, ⟨#[]⟩, 0)
def unescOf (t : ByteArray) : Bool × ByteArray × Int := if (t.size : Int) > 100000 then (false, ⟨#[]⟩, 0) else unRes t (unescL t.data.toList)
theorem digOr_nib {a b : UInt8} {x y : Nat} (ha : unD a = some x) (hb : unD b = some y) : (wrap64 ((wrap64 ((digOr a) * 16)) + digOr b)) % 256 = ((UInt8.ofNat (x * 16 + y)).toNat : Int) := by
  have hx := unD_lt ha
  have hy := unD_lt hb
  rw [digOr_some ha, digOr_some hb, wrap64_id (x := (x : Int) * 16) (by omega) (by omega), wrap64_id (by omega) (by omega), nib x y hx hy]
  omega
theorem digOr_or {a b : UInt8} {x y : Nat} (ha : unD a = some x) (hb : unD b = some y) : (Go.bits .or .i64 (wrap64 ((digOr a) * 16)) (digOr b)) % 256 = ((UInt8.ofNat (x * 16 + y)).toNat : Int) := by
  have hx := unD_lt ha
  have hy := unD_lt hb
  rw [digOr_some ha, digOr_some hb, nib x y hx hy]
  have key : ∀ m n : Fin 16, (Go.bits .or .i64 (wrap64 ((m.val : Int) * 16)) (n.val : Int)) % 256 = ((m.val * 16 + n.val : Nat) : Int) := by decide +kernel
  exact key ⟨x, hx⟩ ⟨y, hy⟩
theorem spec_unesc_l0 (t : ByteArray) (ht : t.size ≤ 100000) : ∀ (d i : Nat) (o : List UInt8), t.size - i ≤ d → i ≤ t.size → o.length + (t.size - i) ≤ t.size →
    Ev (fun k => spec_UnEscape.l0 k t (bI o) (i : Int)) (if escL (o ++ decL (t.data.toList.drop i)) = t.data.toList then (true, mkB (o ++ decL (t.data.toList.drop i)), (t.size : Int)) else (false, (⟨#[]⟩ : ByteArray), 0)) := by
  have hend : ∀ (i : Nat) (o : List UInt8), i = t.size → o.length + (t.size - i) ≤ t.size → Ev (fun k => spec_UnEscape.l0 k t (bI o) (i : Int)) (if escL (o ++ decL (t.data.toList.drop i)) = t.data.toList then (true, mkB (o ++ decL (t.data.toList.drop i)), (t.size : Int)) else (false, (⟨#[]⟩ : ByteArray), 0)) := by
    intro i o hi hl
    rw [drop_end t i (by omega), decL, List.append_nil]
    refine Ev.step (fun k => by rw [spec_UnEscape.l0, if_neg (by omega), strOf_bI]) ?_
    have he := spec_escape (mkB o) (by rw [mkB_size]; omega)
    unfold escOf at he
    rw [if_neg (by rw [mkB_size]; omega), mkB_list] at he
    refine Ev.bind he ?_
    by_cases h : escL o = t.data.toList
    · rw [if_pos h]
      exact Ev.pos (by rw [mkB_toList, ByteArray.toList_eq, h]) (Ev.now _)
    · rw [if_neg h]
      exact Ev.neg (by rw [mkB_toList, ByteArray.toList_eq]; exact h) (Ev.now _)
  intro d
  induction d with
  | zero => intro i o hd hi hl; exact hend i o (by omega) hl
  | succ d ih =>
    intro i o hd hi hl
    by_cases hlt : i < t.size
    · obtain ⟨c, e, hb⟩ := bt_drop t i hlt
      have hw1 : wrap64 ((i : Int) + 1) = ((i + 1 : Nat) : Int) := by rw [wrap64_id (by omega) (by omega)]; rfl
      have hw2 : wrap64 ((i : Int) + 2) = ((i + 2 : Nat) : Int) := by rw [wrap64_id (by omega) (by omega)]; rfl
      have hw3 : wrap64 (((i + 2 : Nat) : Int) + 1) = ((i + 3 : Nat) : Int) := by rw [wrap64_id (by omega) (by omega)]; rfl
      -- the byte stays as it is
      have stay : decL (t.data.toList.drop i) = c :: decL (t.data.toList.drop (i + 1)) → Ev (fun k => spec_UnEscape.j1 k t (bI o) (i : Int) false) (if escL (o ++ decL (t.data.toList.drop i)) = t.data.toList then (true, mkB (o ++ decL (t.data.toList.drop i)), (t.size : Int)) else (false, (⟨#[]⟩ : ByteArray), 0)) := by
        intro hd'
        have := ih (i + 1) (o ++ [c]) (by omega) (by omega) (by simp; omega)
        rw [hd']
        refine Ev.step (fun k => by rw [spec_UnEscape.j1, if_neg (by decide), if_pos (by omega), if_pos (by omega), if_pos (by rw [bI_length]; omega), hb, bI_snoc, hw1]) ?_
        simpa using this
      by_cases h37 : c = 37
      · have h37' : bt t (i : Int) = 37 := by rw [hb, h37]; rfl
        by_cases h2 : i + 2 < t.size
        · obtain ⟨a, ea, hba⟩ := bt_drop t (i + 1) (by omega)
          obtain ⟨b, eb, hbb⟩ := bt_drop t (i + 2) (by omega)
          have hdr : t.data.toList.drop i = c :: a :: b :: t.data.toList.drop (i + 3) := by rw [e, ea, eb]
          have hdr1 : t.data.toList.drop (i + 1) = a :: b :: t.data.toList.drop (i + 3) := by rw [ea, eb]
          refine Ev.step (fun k => by rw [spec_UnEscape.l0, if_pos (by omega), if_pos (by omega), if_pos h37', hw2, if_pos (by omega), hw1, if_pos (by omega), if_pos (by omega), hba, if_pos (by omega), hbb]) ?_
          refine Ev.bind (spec_upper a) ?_
          cases ha : unD a with
          | none =>
            rw [digOr_none ha]
            exact Ev.neg (by decide) (stay (by rw [hdr, hdr1, decL, if_pos h37, ha]))
          | some x =>
            refine Ev.pos (by rw [digOr_some ha]; omega) (Ev.bind (spec_upper b) ?_)
            cases hb' : unD b with
            | none =>
              rw [digOr_none hb']
              exact stay (by rw [hdr, hdr1, decL, if_pos h37, ha, hb'])
            | some y =>
              rw [show decide (digOr b ≥ 0) = true by rw [digOr_some hb']; simp]
              have hdd : decL (t.data.toList.drop i) = UInt8.ofNat (x * 16 + y) :: decL (t.data.toList.drop (i + 3)) := by rw [hdr, decL, if_pos h37, ha, hb']
              rw [hdd]
              have := ih (i + 3) (o ++ [UInt8.ofNat (x * 16 + y)]) (by omega) (by omega) (by simp; omega)
              refine Ev.step (fun k => by rw [spec_UnEscape.j1, if_pos rfl, hw1, if_pos (by omega), if_pos (by omega), hba, hw2, hw3]) ?_
              refine Ev.bind (spec_upper a) (Ev.pos (by omega) (Ev.pos (by omega) ?_))
              rw [hbb]
              refine Ev.bind (spec_upper b) (Ev.pos (by rw [bI_length]; omega) ?_)
              rw [digOr_nib ha hb', bI_snoc]
              simpa using this
        · refine Ev.step (fun k => by rw [spec_UnEscape.l0, if_pos (by omega), if_pos (by omega), if_pos h37', hw2, if_neg (by omega)]) (stay ?_)
          have hl2 : (t.data.toList.drop (i + 1)).length ≤ 1 := by rw [List.length_drop, data_len]; omega
          rw [e]
          match hr : t.data.toList.drop (i + 1), hl2 with
          | [], _ => rfl
          | [q], _ => rfl
      · have h37' : ¬ bt t (i : Int) = 37 := by rw [hb]; exact fun h => h37 ((byte_eq_lit c 37 (by omega)).1 h)
        exact Ev.step (fun k => by rw [spec_UnEscape.l0, if_pos (by omega), if_pos (by omega), if_neg h37']) (stay (by rw [e, decL_plain h37]))
    · exact hend i o (by omega) hl
theorem spec_unescape (t : ByteArray) : Ev (fun k => spec_UnEscape.f k t) (unescOf t) := by
  unfold unescOf
  by_cases h0 : (t.size : Int) > 100000
  · rw [if_pos h0]; exact Ev.congr (fun k => by rw [spec_UnEscape.f, if_pos h0]) (Ev.now _)
  · rw [if_neg h0]
    refine Ev.congr (fun k => by rw [spec_UnEscape.f, if_neg h0]) ?_
    have := spec_unesc_l0 t (by omega) t.size 0 [] (by omega) (by omega) (by simp)
    simp only [List.nil_append, List.drop_zero] at this
    have hu : unRes t (unescL t.data.toList) = (if escL (decL t.data.toList) = t.data.toList then (true, mkB (decL t.data.toList), (t.size : Int)) else (false, (⟨#[]⟩ : ByteArray), 0)) := by
      by_cases h : escL (decL t.data.toList) = t.data.toList
      · rw [if_pos h, unescL_of _ _ (Nat.le_refl _) h]; rfl
      · rw [if_neg h]
        cases hn : unescL t.data.toList with
        | none => rfl
        | some o =>
          obtain ⟨h1, h2⟩ := unescL_some _ _ _ (Nat.le_refl _) hn
          rw [h1] at h
          exact absurd h2 h
    rw [hu]
    exact this
/-- What unescaped answers. -/
def unRes2 (o : List UInt8) (r : Option (List UInt8)) : ByteArray × Bool := match r with
  | some p => (mkB (o ++ p), true)
  | none => (⟨#[]⟩, false)
theorem impl_unesc_l0 (t : ByteArray) (ht : t.size ≤ 140737488351232) : ∀ (d i : Nat) (o : List UInt8), t.size - i ≤ d → i ≤ t.size → o.length + (t.size - i) ≤ t.size →
    Ev (fun k => impl_unescaped.l0 k t (bI o) (i : Int)) (unRes2 o (unescL (t.data.toList.drop i))) := by
  have hend : ∀ (i : Nat) (o : List UInt8), i = t.size → Ev (fun k => impl_unescaped.l0 k t (bI o) (i : Int)) (unRes2 o (unescL (t.data.toList.drop i))) := by
    intro i o hi
    rw [drop_end t i (by omega), unescL]
    refine Ev.step (fun k => by rw [impl_unescaped.l0, if_neg (by omega), strOf_bI]) (Ev.give ?_)
    simp [unRes2]
  intro d
  induction d with
  | zero => intro i o hd hi hl; exact hend i o (by omega)
  | succ d ih =>
    intro i o hd hi hl
    by_cases hlt : i < t.size
    · obtain ⟨c, e, hb⟩ := bt_drop t i hlt
      have hw1 : wrap64 ((i : Int) + 1) = ((i + 1 : Nat) : Int) := by rw [wrap64_id (by omega) (by omega)]; rfl
      have hw2 : wrap64 ((i : Int) + 2) = ((i + 2 : Nat) : Int) := by rw [wrap64_id (by omega) (by omega)]; rfl
      have hw3 : wrap64 (((i + 2 : Nat) : Int) + 1) = ((i + 3 : Nat) : Int) := by rw [wrap64_id (by omega) (by omega)]; rfl
      have snocMap : ∀ (v : UInt8) (r : Option (List UInt8)), unRes2 o (r.map (v :: ·)) = unRes2 (o ++ [v]) r := by
        intro v r
        cases r with
        | none => rfl
        | some p => simp [unRes2]
      by_cases hs : safeB c = true
      · rw [e, unescL_safe hs, snocMap]
        refine Ev.step (fun k => by rw [impl_unescaped.l0, if_pos (by omega), if_pos (by omega), hb, impl_safe, Option.bind_some, if_pos hs, if_pos (by rw [bI_length]; omega), bI_snoc, hw1]) ?_
        exact ih (i + 1) (o ++ [c]) (by omega) (by omega) (by simp; omega)
      · have fail : ∀ r, r = none → Ev (fun k => impl_unescaped.j1 k t (bI o) (i : Int) true) (unRes2 o r) := by
          rintro r rfl
          refine Ev.step (fun k => by rw [impl_unescaped.j1, if_pos rfl]) (Ev.give ?_)
          rfl
        by_cases h37 : c = 37
        · have h37' : bt t (i : Int) = 37 := by rw [hb, h37]; rfl
          refine Ev.step (fun k => by rw [impl_unescaped.l0, if_pos (by omega), if_pos (by omega), hb, impl_safe, Option.bind_some, if_neg hs, if_pos (by rw [h37]; rfl), hw2]) ?_
          by_cases h2 : i + 2 < t.size
          · rw [show decide (((i + 2 : Nat) : Int) ≥ (t.size : Int)) = false by simp; omega]
            obtain ⟨a, ea, hba⟩ := bt_drop t (i + 1) (by omega)
            obtain ⟨b, eb, hbb⟩ := bt_drop t (i + 2) (by omega)
            have hdr : t.data.toList.drop i = c :: a :: b :: t.data.toList.drop (i + 3) := by rw [e, ea, eb]
            rw [hdr, unescL, if_neg hs, if_pos h37]
            refine Ev.step (fun k => by rw [impl_unescaped.j1, if_neg (by decide), hw1, if_pos (by omega), if_pos (by omega), hba, hw2, hw3]) ?_
            refine Ev.bind (impl_hexUp a) (Ev.pos (by omega) (Ev.pos (by omega) ?_))
            rw [hbb]
            refine Ev.bind (impl_hexUp b) ?_
            cases ha : unD a with
            | none =>
              rw [digOr_none ha]
              exact Ev.pos (by decide) (Ev.now _)
            | some x =>
              refine Ev.neg (by rw [digOr_some ha]; omega) ?_
              cases hb' : unD b with
              | none =>
                rw [digOr_none hb']
                exact Ev.pos (by decide) (Ev.now _)
              | some y =>
                refine Ev.neg (by rw [digOr_some hb']; omega) ?_
                rw [digOr_or ha hb']
                refine Ev.bindS (impl_safe _) ?_
                simp only
                by_cases hv : safeB (UInt8.ofNat (x * 16 + y)) = true
                · rw [if_pos hv]
                  exact Ev.pos hv (Ev.now _)
                · rw [if_neg hv, snocMap]
                  refine Ev.neg hv (Ev.pos (by rw [bI_length]; omega) ?_)
                  rw [bI_snoc]
                  exact ih (i + 3) (o ++ [UInt8.ofNat (x * 16 + y)]) (by omega) (by omega) (by simp; omega)
          · rw [show decide (((i + 2 : Nat) : Int) ≥ (t.size : Int)) = true by simp; omega]
            refine fail _ ?_
            have hl2 : (t.data.toList.drop (i + 1)).length ≤ 1 := by rw [List.length_drop, data_len]; omega
            rw [e]
            match hr : t.data.toList.drop (i + 1), hl2 with
            | [], _ => rw [unescL, if_neg hs]
            | [q], _ => rw [unescL, if_neg hs]
        · have h37' : ¬ (c.toNat : Int) = 37 := fun h => h37 ((byte_eq_lit c 37 (by omega)).1 h)
          refine Ev.step (fun k => by rw [impl_unescaped.l0, if_pos (by omega), if_pos (by omega), hb, impl_safe, Option.bind_some, if_neg hs, if_neg h37']) (fail _ (by rw [e, unescL_odd hs h37]))
    · exact hend i o (by omega)
theorem impl_unescaped_ok (t : ByteArray) (ht : t.size ≤ 140737488351232) : Ev (fun k => impl_unescaped.f k t) (unRes2 [] (unescL t.data.toList)) :=
  Ev.congr (fun k => by rw [impl_unescaped.f]; rfl) (impl_unesc_l0 t ht t.size 0 [] (by omega) (by omega) (by simp))
theorem impl_unescape (t : ByteArray) : Ev (fun k => impl_UnEscape.f k t) (unescOf t) := by
  unfold unescOf
  by_cases h0 : (t.size : Int) > 100000
  · rw [if_pos h0]; exact Ev.congr (fun k => by rw [impl_UnEscape.f, if_pos h0]) (Ev.now _)
  · rw [if_neg h0]
    refine Ev.congr (fun k => by rw [impl_UnEscape.f, if_neg h0]) ?_
    refine Ev.bind (impl_unescaped_ok t (by omega)) ?_
    cases unescL t.data.toList with
    | none => exact Ev.neg (by decide) (Ev.now _)
    | some o => exact Ev.pos rfl (Ev.give (by simp [unRes, unRes2]))

theorem eqTextRead_self (a : Bool × ByteArray × Int) : laws_eqTextRead.f a.1 a.2.1 a.2.2 a.1 a.2.1 a.2.2 = some true := by
  unfold laws_eqTextRead.f
  simp
theorem FnExactUnEscape : laws_FnExactUnEscape.Pure := by
  intro t ht
  refine Ev.rounds (Ev.congr (fun k => by rw [laws_FnExactUnEscape.f]) ?_)
  by_cases h0 : (t.size : Int) > 1048576
  · exact Ev.pos h0 (Ev.now _)
  · refine Ev.neg h0 ?_
    refine Ev.bind (spec_unescape t) (Ev.bind (impl_unescape t) (Ev.bindS (eqTextRead_self _) (Ev.pos rfl (Ev.now _))))

end Go.Proofs.Ytnailhkgnccloaa.Pure
