/- The statement FnExactUnHex over numbers and lists alone: the program's UnHex and the reference's answer the same. No condition. -/
import Derived.Test.YtnailhkgnccloaaQFnExactUnHexx2
import Derived.Laws.BitsAllLaws
import Derived.Laws.Bits64
set_option linter.all false
namespace Go.Proofs.Ytnailhkgnccloaa.Pure
open Go.RowKit Go.Proofs.Ytnailhkgnccloaa.QFnExactUnHex Go.Proofs.YtnailhkgnccloaaW.PrintWords Go.Proofs.YtnailhkgnccloaaW.PrintLast Go.Proofs.YtnailhkgnccloaaW.PrintMore

/-! Small lemmas on wraps, rounds and lists. -/
theorem wrap64_id {x : Int} (h0 : -9223372036854775808 ≤ x) (h1 : x < 9223372036854775808) : wrap64 x = x := by unfold wrap64; omega
theorem u64_id {x : Int} (h0 : 0 ≤ x) (h1 : x < 18446744073709551616) : IntKind.u64.wrap x = x := by rw [IntKind.wrap_u64]; omega
theorem Ev.pos {α : Type} {c : Prop} [Decidable c] {f g : Nat → Option α} {r : α} (h : c) (e : Ev f r) : Ev (fun k => if c then f k else g k) r := by simpa [h] using e
theorem Ev.neg {α : Type} {c : Prop} [Decidable c] {f g : Nat → Option α} {r : α} (h : ¬ c) (e : Ev g r) : Ev (fun k => if c then f k else g k) r := by simpa [h] using e
theorem Ev.bindS {α β : Type} {g : Option α} {f : Nat → α → Option β} {a : α} {r : β} (h : g = some a) (e : Ev (fun k => f k a) r) : Ev (fun k => g.bind (f k)) r := by subst h; simpa using e
theorem Ev.give {α : Type} {r s : α} (h : s = r) : Ev (fun _ => some s) r := by subst h; exact Ev.now _
theorem bt_drop (s : ByteArray) (i : Nat) (h : i < s.size) : ∃ c : UInt8, s.data.toList.drop i = c :: s.data.toList.drop (i + 1) ∧ bt s (i : Int) = (c.toNat : Int) := by
  have hl : i < s.data.toList.length := by simpa using h
  refine ⟨s.data.toList[i], List.drop_eq_getElem_cons hl, ?_⟩
  unfold bt
  rw [dif_pos (by simpa using h)]
  simp [ByteArray.getElem_eq_getElem_data]
theorem drop_end (s : ByteArray) (i : Nat) (h : s.size ≤ i) : s.data.toList.drop i = [] := List.drop_eq_nil_of_le (by simpa using h)
theorem size_strOfNums (l : List Int) : (strOfNums l).size = l.length := by
  show (strOfNums l).data.size = l.length
  simp [strOfNums]
theorem i64_range {n : Int} (h : (Lit.int .i64 n).wf = true) : -9223372036854775808 ≤ n ∧ n < 9223372036854775808 := by
  simp only [Lit.wf, IntKind.min, IntKind.max, IntKind.signed, IntKind.bits, Bool.and_eq_true, decide_eq_true_eq, if_true] at h; omega
theorem byte_eq_int (c d : UInt8) : ((c.toNat : Int) = (d.toNat : Int)) ↔ c = d := by
  constructor
  · intro h; exact UInt8.toNat_inj.1 (by omega)
  · rintro rfl; rfl
theorem byte_eq_lit (c : UInt8) (n : Nat) (hn : n < 256) : ((c.toNat : Int) = (n : Int)) ↔ c = UInt8.ofNat n := by
  rw [← byte_eq_int]
  have : (UInt8.ofNat n).toNat = n := by simp [UInt8.toNat_ofNat']; omega
  rw [this]
theorem bt_get (s : ByteArray) (i : Nat) (h : i < s.size) : ∃ c : UInt8, s.data.toList[i]? = some c ∧ bt s (i : Int) = (c.toNat : Int) := by
  obtain ⟨c, e, hb⟩ := bt_drop s i h
  refine ⟨c, ?_, hb⟩
  have : (s.data.toList.drop i)[0]? = some c := by rw [e]; rfl
  simpa using this

/-- A digit's value, or -1. -/
def digLow (c : UInt8) : Int := if 48 ≤ c.toNat ∧ c.toNat ≤ 57 then (c.toNat : Int) - 48 else if 97 ≤ c.toNat ∧ c.toNat ≤ 102 then (c.toNat : Int) - 87 else -1
theorem spec_low (c : UInt8) : Ev (fun k => spec_l01Hex.f k (c.toNat : Int)) (digLow c) := by
  have key : ∀ m : Fin 256, spec_l01Hex.f 1 (m.val : Int) = some (digLow (UInt8.ofNat m.val)) := by decide +kernel
  have h := key ⟨c.toNat, c.toNat_lt⟩
  simp only [UInt8.ofNat_toNat] at h
  exact Ev.of (fun k => spec_l01Hex.mono _ k) h
theorem impl_low (c : UInt8) : Ev (fun k => impl_hexDigit.f k (c.toNat : Int) 97) (digLow c) := by
  have key : ∀ m : Fin 256, impl_hexDigit.f 1 (m.val : Int) 97 = some (digLow (UInt8.ofNat m.val)) := by decide +kernel
  have h := key ⟨c.toNat, c.toNat_lt⟩
  simp only [UInt8.ofNat_toNat] at h
  exact Ev.of (fun k => impl_hexDigit.mono _ _ k) h
theorem digLow_lt (c : UInt8) : digLow c < 16 := by unfold digLow; split <;> (try split) <;> omega
theorem pair_add (x y : Int) (hx : 0 ≤ x) (hx1 : x < 16) (hy : 0 ≤ y) (hy1 : y < 16) : (wrap64 ((wrap64 (x * 16)) + y)) % 256 = x * 16 + y := by
  rw [wrap64_id (x := x * 16) (by omega) (by omega), wrap64_id (by omega) (by omega)]; omega
theorem pair_or (x y : Int) (hx : 0 ≤ x) (hx1 : x < 16) (hy : 0 ≤ y) (hy1 : y < 16) : (Go.bits .or .i64 (wrap64 (x * 16)) y) % 256 = x * 16 + y := by
  obtain ⟨m, rfl⟩ := Int.eq_ofNat_of_zero_le hx
  obtain ⟨n, rfl⟩ := Int.eq_ofNat_of_zero_le hy
  have key : ∀ m n : Fin 16, (Go.bits .or .i64 (wrap64 ((m.val : Int) * 16)) (n.val : Int)) % 256 = (m.val : Int) * 16 + (n.val : Int) := by decide +kernel
  exact key ⟨m, by omega⟩ ⟨n, by omega⟩
theorem wrap_small1 (i : Nat) (h : i ≤ 1000000) : wrap64 ((i : Int) + 1) = ((i + 1 : Nat) : Int) := by rw [wrap64_id (by omega) (by omega)]; rfl
theorem wrap_small2 (i : Nat) (h : i ≤ 1000000) : wrap64 ((i : Int) + 2) = ((i + 2 : Nat) : Int) := by rw [wrap64_id (by omega) (by omega)]; rfl
/-- The bytes of pairs of digits. -/
def unhexL : List UInt8 → Option (List Int)
  | [] => some []
  | [_] => none
  | a :: b :: l => if digLow a < 0 then none else if digLow b < 0 then none else (unhexL l).map fun o => (digLow a * 16 + digLow b) :: o
def unhexRes (t : ByteArray) (acc : List Int) (r : Option (List Int)) : Bool × ByteArray × Int := match r with
  | some o => (true, strOfNums (acc ++ o), (t.size : Int))
  | none => (false, ⟨#[]⟩, 0)
theorem unhexRes_cons (t : ByteArray) (acc : List Int) (x : Int) (r : Option (List Int)) : unhexRes t (acc ++ [x]) r = unhexRes t acc (r.map fun o => x :: o) := by
  cases r <;> simp [unhexRes]
theorem spec_unhex_l0 (t : ByteArray) (ht : t.size ≤ 100000) : ∀ (d i : Nat) (acc : List Int), t.size - i ≤ d → i ≤ t.size → (t.size - i) % 2 = 0 → acc.length ≤ i →
    Ev (fun k => spec_UnHex.l0 k t acc (i : Int)) (unhexRes t acc (unhexL (t.data.toList.drop i))) := by
  intro d
  induction d with
  | zero =>
    intro i acc hd hi hev ha
    rw [drop_end t i (by omega)]
    refine Ev.step (fun k => by rw [spec_UnHex.l0, if_neg (by omega)]) (Ev.give ?_)
    simp [unhexL, unhexRes]
  | succ d ih =>
    intro i acc hd hi hev ha
    by_cases hz : i = t.size
    · rw [drop_end t i (by omega)]
      refine Ev.step (fun k => by rw [spec_UnHex.l0, if_neg (by omega)]) (Ev.give ?_)
      simp [unhexL, unhexRes]
    · have c1 : (i : Int) < (t.size : Int) := by omega
      have c2 : (0 : Int) ≤ (i : Int) := by omega
      have c3 : (0 : Int) ≤ ((i + 1 : Nat) : Int) := by omega
      have c4 : ((i + 1 : Nat) : Int) < (t.size : Int) := by omega
      have c5 : acc.length < 140737488355328 := by omega
      have next := fun x : Int => ih (i + 2) (acc ++ [x]) (by omega) (by omega) (by omega) (by simp; omega)
      obtain ⟨a, ea, hba⟩ := bt_drop t i (by omega)
      obtain ⟨b, eb, hbb⟩ := bt_drop t (i + 1) (by omega)
      have hw := wrap_small1 i (by omega)
      have hw2 := wrap_small2 i (by clear hw hba hbb; omega)
      rw [ea, eb]
      refine Ev.step (fun k => by rw [spec_UnHex.l0, if_pos c1, if_pos c2, hba, hw, hw2, hbb]) ?_
      clear hba hbb hw hw2
      refine Ev.bind (spec_low a) (Ev.pos c3 (Ev.pos c4 (Ev.bind (spec_low b) ?_)))
      unfold unhexL
      by_cases h1 : digLow a < 0
      · rw [if_pos h1]; exact Ev.pos h1 (Ev.now _)
      · rw [if_neg h1]; refine Ev.neg h1 ?_
        by_cases h2 : digLow b < 0
        · rw [if_pos h2]; exact Ev.pos h2 (Ev.now _)
        · rw [if_neg h2]; refine Ev.neg h2 (Ev.pos c5 ?_)
          rw [pair_add _ _ (by omega) (digLow_lt a) (by omega) (digLow_lt b), ← unhexRes_cons]
          exact next _
theorem impl_unhex_l0 (t : ByteArray) (ht : t.size ≤ 100000) : ∀ (d i : Nat) (acc : List Int), t.size - i ≤ d → i ≤ t.size → (t.size - i) % 2 = 0 → acc.length ≤ i →
    Ev (fun k => impl_UnHex.l0 k t acc (i : Int)) (unhexRes t acc (unhexL (t.data.toList.drop i))) := by
  intro d
  induction d with
  | zero =>
    intro i acc hd hi hev ha
    rw [drop_end t i (by omega)]
    refine Ev.step (fun k => by rw [impl_UnHex.l0, if_neg (by omega)]) (Ev.give ?_)
    simp [unhexL, unhexRes]
  | succ d ih =>
    intro i acc hd hi hev ha
    by_cases hz : i = t.size
    · rw [drop_end t i (by omega)]
      refine Ev.step (fun k => by rw [impl_UnHex.l0, if_neg (by omega)]) (Ev.give ?_)
      simp [unhexL, unhexRes]
    · have c1 : (i : Int) < (t.size : Int) := by omega
      have c2 : (0 : Int) ≤ (i : Int) := by omega
      have c3 : (0 : Int) ≤ ((i + 1 : Nat) : Int) := by omega
      have c4 : ((i + 1 : Nat) : Int) < (t.size : Int) := by omega
      have c5 : acc.length < 140737488355328 := by omega
      have next := fun x : Int => ih (i + 2) (acc ++ [x]) (by omega) (by omega) (by omega) (by simp; omega)
      obtain ⟨a, ea, hba⟩ := bt_drop t i (by omega)
      obtain ⟨b, eb, hbb⟩ := bt_drop t (i + 1) (by omega)
      have hw := wrap_small1 i (by omega)
      have hw2 := wrap_small2 i (by clear hw hba hbb; omega)
      rw [ea, eb]
      refine Ev.step (fun k => by rw [impl_UnHex.l0, if_pos c1, if_pos c2, hba, hw, hw2, hbb]) ?_
      clear hba hbb hw hw2
      refine Ev.bind (impl_low a) (Ev.pos c3 (Ev.pos c4 (Ev.bind (impl_low b) ?_)))
      unfold unhexL
      by_cases h1 : digLow a < 0
      · rw [if_pos h1]; exact Ev.pos h1 (Ev.now _)
      · rw [if_neg h1]; refine Ev.neg h1 ?_
        by_cases h2 : digLow b < 0
        · rw [if_pos h2]; exact Ev.pos h2 (Ev.now _)
        · rw [if_neg h2]; refine Ev.neg h2 (Ev.pos c5 ?_)
          rw [pair_or _ _ (by omega) (digLow_lt a) (by omega) (digLow_lt b), ← unhexRes_cons]
          exact next _
/-- What UnHex answers. -/
def unhexOf (t : ByteArray) : Bool × ByteArray × Int := if (t.size : Int) > 100000 ∨ t.size % 2 ≠ 0 then (false, ⟨#[]⟩, 0) else unhexRes t [] (unhexL t.data.toList)
theorem spec_unhex (t : ByteArray) : Ev (fun k => spec_UnHex.f k t) (unhexOf t) := by
  unfold unhexOf
  refine Ev.congr (fun k => by rw [spec_UnHex.f]) ?_
  by_cases h2 : (t.size : Int) % 2 = 0
  · refine Ev.pos h2 ?_
    by_cases h1 : (t.size : Int) > 100000
    · rw [if_pos (.inl h1)]
      exact Ev.step (fun k => by rw [spec_UnHex.j0, if_pos (by simpa using h1)]) (Ev.now _)
    · rw [if_neg (by omega)]
      refine Ev.step (fun k => by rw [spec_UnHex.j0, if_neg (by simpa using h1)]) ?_
      have := spec_unhex_l0 t (by omega) t.size 0 [] (by omega) (by omega) (by omega) (by simp)
      simpa using this
  · rw [if_pos (.inr (by omega))]
    refine Ev.neg h2 ?_
    exact Ev.step (fun k => by rw [spec_UnHex.j0, if_pos rfl]) (Ev.now _)
theorem impl_unhex (t : ByteArray) : Ev (fun k => impl_UnHex.f k t) (unhexOf t) := by
  unfold unhexOf
  refine Ev.congr (fun k => by rw [impl_UnHex.f]) ?_
  by_cases h1 : (t.size : Int) > 100000
  · rw [if_pos (.inl h1)]
    refine Ev.pos h1 ?_
    exact Ev.step (fun k => by rw [impl_UnHex.j0, if_pos rfl]) (Ev.now _)
  · refine Ev.neg h1 ?_
    by_cases h2 : (t.size : Int) % 2 = 0
    · rw [if_neg (by omega)]
      have hw : wrap64 ((t.size : Int) / 2) = (t.size : Int) / 2 := wrap64_id (by omega) (by omega)
      refine Ev.step (fun k => by rw [impl_UnHex.j0, if_neg (by simpa using h2), hw, if_pos (by omega), if_pos (by omega)]) ?_
      have := impl_unhex_l0 t (by omega) t.size 0 [] (by omega) (by omega) (by omega) (by simp)
      simpa using this
    · rw [if_pos (.inr (by omega))]
      exact Ev.step (fun k => by rw [impl_UnHex.j0, if_pos (by simpa using h2)]) (Ev.now _)

theorem eqTextRead_self (a : Bool × ByteArray × Int) : laws_eqTextRead.f a.1 a.2.1 a.2.2 a.1 a.2.1 a.2.2 = some true := by
  unfold laws_eqTextRead.f
  simp
theorem FnExactUnHex : laws_FnExactUnHex.Pure := by
  intro t ht
  refine Ev.rounds (Ev.congr (fun k => by rw [laws_FnExactUnHex.f]) ?_)
  by_cases h0 : (t.size : Int) > 1048576
  · exact Ev.pos h0 (Ev.now _)
  · refine Ev.neg h0 ?_
    refine Ev.bind (spec_unhex t) (Ev.bind (impl_unhex t) (Ev.bindS (eqTextRead_self _) (Ev.pos rfl (Ev.now _))))

end Go.Proofs.Ytnailhkgnccloaa.Pure
