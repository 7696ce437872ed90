/- The statement FnExactRangeReads over numbers and lists alone: the program's RangeReads and the reference's tell the same pieces, and what is made is of its own memory. No condition. -/
import Derived.Test.YtcpmlelejlmpdaaQFnExactRangeReadsx4
import Derived.Laws.BitsAllLaws
import Derived.Laws.Bits64
import Derived.Test.YtcpmlelejlmpdaaGoodFnExactRangeReads
set_option linter.all false
namespace Go.Proofs.Ytcpmlelejlmpdaa.Pure
open Go.RowKit Go.Proofs.Ytcpmlelejlmpdaa.QFnExactRangeReads Go.Proofs.YtcpmlelejlmpdaaW.PrintWords Go.Proofs.YtcpmlelejlmpdaaW.PrintLast Go.Proofs.YtcpmlelejlmpdaaW.PrintMore

/-! Small lemmas on wraps, rounds and lists. -/
theorem wrap64_id {x : Int} (h0 : -9223372036854775808 ≤ x) (h1 : x < 9223372036854775808) : wrap64 x = x := by unfold wrap64; omega
theorem u64_id {x : Int} (h0 : 0 ≤ x) (h1 : x < 18446744073709551616) : IntKind.u64.wrap x = x := by rw [IntKind.wrap_u64]; omega
theorem Ev.pos {α : Type} {c : Prop} [Decidable c] {f g : Nat → Option α} {r : α} (h : c) (e : Ev f r) : Ev (fun k => if c then f k else g k) r := by simpa [h] using e
theorem Ev.neg {α : Type} {c : Prop} [Decidable c] {f g : Nat → Option α} {r : α} (h : ¬ c) (e : Ev g r) : Ev (fun k => if c then f k else g k) r := by simpa [h] using e
theorem Ev.bindS {α β : Type} {g : Option α} {f : Nat → α → Option β} {a : α} {r : β} (h : g = some a) (e : Ev (fun k => f k a) r) : Ev (fun k => g.bind (f k)) r := by subst h; simpa using e
theorem Ev.give {α : Type} {r s : α} (h : s = r) : Ev (fun _ => some s) r := by subst h; exact Ev.now _
theorem bt_drop (s : ByteArray) (i : Nat) (h : i < s.size) : ∃ c : UInt8, s.data.toList.drop i = c :: s.data.toList.drop (i + 1) ∧ bt s (i : Int) = (c.toNat : Int) := by
  have hl : i < s.data.toList.length := by simpa using h
  refine ⟨s.data.toList[i], List.drop_eq_getElem_cons hl, ?_⟩
  unfold bt
  rw [dif_pos (by simpa using h)]
  simp [ByteArray.getElem_eq_getElem_data]
theorem drop_end (s : ByteArray) (i : Nat) (h : s.size ≤ i) : s.data.toList.drop i = [] := List.drop_eq_nil_of_le (by simpa using h)
theorem size_strOfNums (l : List Int) : (strOfNums l).size = l.length := by
  show (strOfNums l).data.size = l.length
  simp [strOfNums]
theorem i64_range {n : Int} (h : (Lit.int .i64 n).wf = true) : -9223372036854775808 ≤ n ∧ n < 9223372036854775808 := by
  simp only [Lit.wf, IntKind.min, IntKind.max, IntKind.signed, IntKind.bits, Bool.and_eq_true, decide_eq_true_eq, if_true] at h; omega
theorem byte_eq_int (c d : UInt8) : ((c.toNat : Int) = (d.toNat : Int)) ↔ c = d := by
  constructor
  · intro h; exact UInt8.toNat_inj.1 (by omega)
  · rintro rfl; rfl
theorem byte_eq_lit (c : UInt8) (n : Nat) (hn : n < 256) : ((c.toNat : Int) = (n : Int)) ↔ c = UInt8.ofNat n := by
  rw [← byte_eq_int]
  have : (UInt8.ofNat n).toNat = n := by simp [UInt8.toNat_ofNat']; omega
  rw [this]
theorem bt_get (s : ByteArray) (i : Nat) (h : i < s.size) : ∃ c : UInt8, s.data.toList[i]? = some c ∧ bt s (i : Int) = (c.toNat : Int) := by
  obtain ⟨c, e, hb⟩ := bt_drop s i h
  refine ⟨c, ?_, hb⟩
  have : (s.data.toList.drop i)[0]? = some c := by rw [e]; rfl
  simpa using this

/-- What CodeFault answers. -/
def codeFaultOf (K M G : Int) : Int := if 1 ≤ K ∧ K ≤ 32 ∧ 0 ≤ M ∧ M ≤ 16 ∧ 0 ≤ G ∧ G ≤ K ∧ K + M + G ≤ 64 then 0 else 1
theorem spec_codeFault (a b c : Int) : spec_CodeFault.f a b c = some (codeFaultOf a b c) := by
  unfold spec_CodeFault.f codeFaultOf
  by_cases h1 : a < 1
  · rw [if_pos h1, if_neg (by omega)]
  · rw [if_neg h1]
    by_cases h2 : a > 32
    · rw [if_pos h2, if_neg (by omega)]
    · rw [if_neg h2]
      by_cases h3 : b < 0
      · rw [if_pos h3, if_neg (by omega)]
      · rw [if_neg h3]
        by_cases h4 : b > 16
        · rw [if_pos h4, if_neg (by omega)]
        · rw [if_neg h4]
          by_cases h5 : c < 0
          · rw [if_pos h5, if_neg (by omega)]
          · rw [if_neg h5]
            by_cases h6 : c > a
            · rw [if_pos h6, if_neg (by omega)]
            · rw [if_neg h6, wrap64_id (x := a + b) (by omega) (by omega), wrap64_id (x := a + b + c) (by omega) (by omega)]
              by_cases h7 : a + b + c > 64
              · rw [if_pos h7, if_neg (by omega)]
              · rw [if_neg h7, if_pos (by omega)]
theorem impl_codeFault (a b c : Int) : impl_CodeFault.f a b c = some (codeFaultOf a b c) := spec_codeFault a b c
theorem codeFault_zero {a b c : Int} (h : codeFaultOf a b c = 0) : 1 ≤ a ∧ a ≤ 32 ∧ 0 ≤ b ∧ b ≤ 16 ∧ 0 ≤ c ∧ c ≤ a ∧ a + b + c ≤ 64 := by
  unfold codeFaultOf at h
  by_cases hc : 1 ≤ a ∧ a ≤ 32 ∧ 0 ≤ b ∧ b ≤ 16 ∧ 0 ≤ c ∧ c ≤ a ∧ a + b + c ≤ 64
  · exact hc
  · rw [if_neg hc] at h; exact absurd h (by decide)

/-- What StripeCount answers. -/
def stripeOf (K M G unit size : Int) : Int :=
  if codeFaultOf K M G = 0 ∧ 1 ≤ unit ∧ unit ≤ 4096 ∧ 0 ≤ size ∧ size ≤ 100000 then
    (if (size + K * unit - 1) / (K * unit) > 200 then -1 else (size + K * unit - 1) / (K * unit)) else -1
theorem mul_bounds {K unit : Int} (h1 : 1 ≤ K) (h2 : K ≤ 32) (h3 : 1 ≤ unit) (h4 : unit ≤ 4096) : 1 ≤ K * unit ∧ K * unit ≤ 131072 := by
  have e1 : K * unit ≤ 32 * unit := Int.mul_le_mul_of_nonneg_right h2 (by omega)
  have e2 : 1 * unit ≤ K * unit := Int.mul_le_mul_of_nonneg_right h1 (by omega)
  omega
theorem stripe_last {K unit size : Int} (h1 : 1 ≤ K) (h2 : K ≤ 32) (h3 : 1 ≤ unit) (h4 : unit ≤ 4096) (h5 : 0 ≤ size) (h6 : size ≤ 100000) :
    wrap64 (Int.tdiv (wrap64 ((wrap64 (size + (wrap64 (K * unit)))) - 1)) (wrap64 (K * unit))) = (size + K * unit - 1) / (K * unit) := by
  obtain ⟨hb1, hb2⟩ := mul_bounds h1 h2 h3 h4
  rw [wrap64_id (x := K * unit) (by omega) (by omega), wrap64_id (x := size + K * unit) (by omega) (by omega), wrap64_id (x := size + K * unit - 1) (by omega) (by omega), Int.tdiv_eq_ediv_of_nonneg (by omega)]
  have hd : (size + K * unit - 1) / (K * unit) ≤ size + K * unit - 1 := Int.ediv_le_self _ (by omega)
  have hn : 0 ≤ (size + K * unit - 1) / (K * unit) := Int.ediv_nonneg (by omega) (by omega)
  exact wrap64_id (by omega) (by omega)
theorem spec_stripeCount (K M G unit size : Int) : Ev (fun k => spec_StripeCount.f k K M G unit size) (stripeOf K M G unit size) := by
  unfold stripeOf
  refine Ev.congr (fun k => by rw [spec_StripeCount.f, spec_codeFault, Option.bind_some]) ?_
  have bad : ∀ b : Bool, b = true → Ev (fun k => spec_StripeCount.j0 k unit size b K M G) (-1) := by
    rintro b rfl
    exact Ev.step (fun k => by rw [spec_StripeCount.j0, if_pos rfl]) (Ev.now _)
  by_cases h0 : codeFaultOf K M G = 0
  · refine Ev.pos h0 ?_
    obtain ⟨k1, k2, -, -, -, -, -⟩ := codeFault_zero h0
    by_cases h1 : unit < 1
    · rw [if_neg (by omega)]; exact Ev.pos h1 (bad _ rfl)
    · refine Ev.neg h1 ?_
      by_cases h2 : unit > 4096
      · rw [if_neg (by omega)]; exact Ev.pos h2 (bad _ rfl)
      · refine Ev.neg h2 ?_
        by_cases h3 : size < 0
        · rw [if_neg (by omega)]; exact Ev.pos h3 (bad _ rfl)
        · refine Ev.neg h3 ?_
          by_cases h4 : size > 100000
          · rw [if_neg (by omega)]; exact bad _ (by simpa using h4)
          · rw [if_pos ⟨h0, by omega, by omega, by omega, by omega⟩]
            have hl := stripe_last k1 k2 (by omega : 1 ≤ unit) (by omega) (by omega : 0 ≤ size) (by omega)
            have hb := mul_bounds k1 k2 (by omega : 1 ≤ unit) (by omega)
            have hw : wrap64 (K * unit) = K * unit := wrap64_id (by omega) (by omega)
            refine Ev.step (fun k => by rw [spec_StripeCount.j0, if_neg (by simpa using h4), hl, if_neg (by rw [hw]; omega)]) ?_
            by_cases h5 : (size + K * unit - 1) / (K * unit) > 200
            · rw [if_pos h5, if_pos h5]; exact Ev.now _
            · rw [if_neg h5, if_neg h5]; exact Ev.now _
  · rw [if_neg (fun h => h0 h.1)]
    exact Ev.neg h0 (bad _ rfl)
theorem impl_stripeCount (K M G unit size : Int) : Ev (fun k => impl_StripeCount.f k K M G unit size) (stripeOf K M G unit size) := by
  unfold stripeOf
  refine Ev.congr (fun k => by rw [impl_StripeCount.f, impl_codeFault, Option.bind_some]) ?_
  have bad : ∀ b : Bool, b = true → Ev (fun k => impl_StripeCount.j0 k unit size b K M G) (-1) := by
    rintro b rfl
    exact Ev.step (fun k => by rw [impl_StripeCount.j0, if_pos rfl]) (Ev.now _)
  by_cases h0 : codeFaultOf K M G = 0
  · refine Ev.pos h0 ?_
    obtain ⟨k1, k2, -, -, -, -, -⟩ := codeFault_zero h0
    by_cases h1 : unit < 1
    · rw [if_neg (by omega)]; exact Ev.pos h1 (bad _ rfl)
    · refine Ev.neg h1 ?_
      by_cases h2 : unit > 4096
      · rw [if_neg (by omega)]; exact Ev.pos h2 (bad _ rfl)
      · refine Ev.neg h2 ?_
        by_cases h3 : size < 0
        · rw [if_neg (by omega)]; exact Ev.pos h3 (bad _ rfl)
        · refine Ev.neg h3 ?_
          by_cases h4 : size > 100000
          · rw [if_neg (by omega)]; exact bad _ (by simpa using h4)
          · rw [if_pos ⟨h0, by omega, by omega, by omega, by omega⟩]
            have hl := stripe_last k1 k2 (by omega : 1 ≤ unit) (by omega) (by omega : 0 ≤ size) (by omega)
            have hb := mul_bounds k1 k2 (by omega : 1 ≤ unit) (by omega)
            have hw : wrap64 (K * unit) = K * unit := wrap64_id (by omega) (by omega)
            refine Ev.step (fun k => by rw [impl_StripeCount.j0, if_neg (by simpa using h4), hl, if_neg (by rw [hw]; omega)]) ?_
            by_cases h5 : (size + K * unit - 1) / (K * unit) > 200
            · rw [if_pos h5, if_pos h5]; exact Ev.now _
            · rw [if_neg h5, if_neg h5]; exact Ev.now _
  · rw [if_neg (fun h => h0 h.1)]
    exact Ev.neg h0 (bad _ rfl)

/-! Pieces of a range: held against one another, written over with rising numbers, read again; the program's and the reference's are the same. -/
theorem rdS_set (xs : List S84) (i : Nat) (v : S84) (h : i < xs.length) : rd_T84 (xs.set ((i : Int)).toNat v) (i : Int) = v := by
  unfold rd_T84
  rw [Int.toNat_natCast, List.getD_eq_getElem?_getD, List.getElem?_set_self h]
  rfl
theorem eqShardRange (x : S84) : laws_eqShardRange.f x.f0 x.f1 x.f2 x.f3 x.f0 x.f1 x.f2 x.f3 = some true := by
  unfold laws_eqShardRange.f
  rw [if_pos rfl, if_pos rfl, if_pos rfl, if_pos rfl]
theorem eqShardRangeS_l0 (l : List S84) (hl : l.length ≤ 1048576) : ∀ (d i : Nat), l.length - i = d → i ≤ l.length → Ev (fun k => laws_eqShardRangeS.l0 k l l (i : Int)) true := by
  intro d
  induction d with
  | zero =>
    intro i hd hi
    exact Ev.step (fun k => by rw [laws_eqShardRangeS.l0, if_neg (by omega)]) (Ev.now _)
  | succ d ih =>
    intro i hd hi
    have hw : wrap64 ((i : Int) + 1) = ((i + 1 : Nat) : Int) := by rw [wrap64_id (by omega) (by omega)]; rfl
    refine Ev.step (fun k => by rw [laws_eqShardRangeS.l0, if_pos (by omega), if_pos (by omega), if_pos (by omega), eqShardRange, Option.bind_some, if_pos rfl, hw]) ?_
    exact ih (i + 1) (by omega) (by omega)
theorem eqShardRangeS (l : List S84) (hl : l.length ≤ 1048576) : Ev (fun k => laws_eqShardRangeS.f k l l) true := by
  refine Ev.congr (fun k => by rw [laws_eqShardRangeS.f, if_pos rfl]) ?_
  exact eqShardRangeS_l0 l hl l.length 0 rfl (by omega)
def markR1 (a : Int) : S84 := ⟨a, a + 1, a + 1 + 1, a + 1 + 1 + 1⟩
def markR (a : Int) (n : Nat) : List S84 := (List.range n).map fun i : Nat => markR1 (a + 4 * (i : Int))
theorem markR_length (a : Int) (n : Nat) : (markR a n).length = n := by simp [markR]
theorem markR_succ (a : Int) (n : Nat) : markR a (n + 1) = markR a n ++ [markR1 (a + 4 * (n : Int))] := by unfold markR; rw [List.range_succ, List.map_append]; rfl
theorem markR_rd (a : Int) (n i : Nat) (h : i < n) : rd_T84 (markR a n) (i : Int) = markR1 (a + 4 * (i : Int)) := by
  unfold rd_T84
  rw [Int.toNat_natCast, List.getD_eq_getElem?_getD, List.getElem?_eq_getElem (by rw [markR_length]; exact h)]
  simp [markR]
theorem mark4 (xs : List S84) (i : Nat) (h : i < xs.length) (a b c d : Int) :
    ((((xs.set ((i : Int)).toNat (⟨a, (rd_T84 xs (i : Int)).f1, (rd_T84 xs (i : Int)).f2, (rd_T84 xs (i : Int)).f3⟩ : S84)).set ((i : Int)).toNat (⟨(rd_T84 (xs.set ((i : Int)).toNat (⟨a, (rd_T84 xs (i : Int)).f1, (rd_T84 xs (i : Int)).f2, (rd_T84 xs (i : Int)).f3⟩ : S84)) (i : Int)).f0, b, (rd_T84 (xs.set ((i : Int)).toNat (⟨a, (rd_T84 xs (i : Int)).f1, (rd_T84 xs (i : Int)).f2, (rd_T84 xs (i : Int)).f3⟩ : S84)) (i : Int)).f2, (rd_T84 (xs.set ((i : Int)).toNat (⟨a, (rd_T84 xs (i : Int)).f1, (rd_T84 xs (i : Int)).f2, (rd_T84 xs (i : Int)).f3⟩ : S84)) (i : Int)).f3⟩ : S84)))) = xs.set i ⟨a, b, (rd_T84 xs (i : Int)).f2, (rd_T84 xs (i : Int)).f3⟩ := by
  rw [rdS_set xs i _ h, List.set_set, Int.toNat_natCast]
theorem setS_set (xs : List S84) (i : Nat) (u v : S84) : (xs.set ((i : Int)).toNat u).set ((i : Int)).toNat v = xs.set ((i : Int)).toNat v := List.set_set ..
theorem set_drop {l : List S84} (p : List S84) (i : Nat) (hp : p.length = i) (h : i < l.length) (v : S84) : (p ++ l.drop i).set ((i : Int)).toNat v = (p ++ [v]) ++ l.drop (i + 1) := by
  rw [Int.toNat_natCast, List.set_append_right _ _ (by omega), hp, Nat.sub_self, List.drop_eq_getElem_cons h, List.set_cons_zero]
  simp
theorem markShardRangeS_l0 (l : List S84) (hl : l.length ≤ 1048576) (a : Int) (ha : 0 ≤ a ∧ a ≤ 1000000000) : ∀ (d i : Nat), l.length - i = d → i ≤ l.length →
    Ev (fun k => laws_markShardRangeS.l0 k (markR a i ++ l.drop i) (a + 4 * (i : Int)) (i : Int)) (a + 4 * (l.length : Int), markR a l.length) := by
  intro d
  induction d with
  | zero =>
    intro i hd hi
    have e : i = l.length := by omega
    subst e
    refine Ev.step (fun k => by rw [laws_markShardRangeS.l0, if_neg (by simp [markR_length])]) ?_
    refine Ev.give ?_
    simp
  | succ d ih =>
    intro i hd hi
    have hlen : (markR a i ++ l.drop i).length = l.length := by simp [markR_length]; omega
    have hw : wrap64 ((i : Int) + 1) = ((i + 1 : Nat) : Int) := by rw [wrap64_id (by omega) (by omega)]; rfl
    obtain ⟨x, hx⟩ : ∃ x, a + 4 * (i : Int) = x := ⟨_, rfl⟩
    have hw1 : wrap64 (x + 1) = x + 1 := wrap64_id (by omega) (by omega)
    have hw2 : wrap64 (x + 1 + 1) = x + 1 + 1 := wrap64_id (by omega) (by omega)
    have hw3 : wrap64 (x + 1 + 1 + 1) = x + 1 + 1 + 1 := wrap64_id (by omega) (by omega)
    have hw4 : wrap64 (x + 1 + 1 + 1 + 1) = x + 1 + 1 + 1 + 1 := wrap64_id (by omega) (by omega)
    have hf : (markR a i ++ l.drop i).set ((i : Int)).toNat ⟨x, x + 1, x + 1 + 1, x + 1 + 1 + 1⟩ = markR a (i + 1) ++ l.drop (i + 1) := by
      rw [set_drop _ _ (markR_length a i) (by omega), markR_succ, hx]
      rfl
    have hn := ih (i + 1) (by omega) (by omega)
    rw [← hf, show a + 4 * ((i + 1 : Nat) : Int) = x + 1 + 1 + 1 + 1 by omega] at hn
    rw [hx]
    clear hf ih
    generalize hxs : markR a i ++ l.drop i = xs at hn hlen
    have hi2 : i < xs.length := by omega
    refine Ev.step (fun k => by rw [laws_markShardRangeS.l0, if_pos (by omega), if_pos (by omega), Option.bind_some, Option.bind_some, Option.bind_some, hw1, hw2, hw3, hw4, hw]) ?_
    simp only [rdS_set _ i _ (show i < xs.length by omega), setS_set]
    exact hn
theorem markShardRangeS (l : List S84) (hl : l.length ≤ 1048576) (a : Int) (ha : 0 ≤ a ∧ a ≤ 1000000000) : Ev (fun k => laws_markShardRangeS.f k l a) (a + 4 * (l.length : Int), markR a l.length) := by
  refine Ev.congr (fun k => by rw [laws_markShardRangeS.f]) ?_
  have h := markShardRangeS_l0 l hl a ha l.length 0 rfl (by omega)
  simpa [markR] using h
theorem heldShardRangeS_l0 (n : Nat) (hl : n ≤ 1048576) (a : Int) (ha : 0 ≤ a ∧ a ≤ 1000000000) : ∀ (d i : Nat), n - i = d → i ≤ n →
    Ev (fun k => laws_heldShardRangeS.l0 k (markR a n) (a + 4 * (i : Int)) (i : Int)) (a + 4 * (n : Int)) := by
  intro d
  induction d with
  | zero =>
    intro i hd hi
    have e : i = n := by omega
    subst e
    exact Ev.step (fun k => by rw [laws_heldShardRangeS.l0, if_neg (by simp [markR_length])]) (Ev.now _)
  | succ d ih =>
    intro i hd hi
    have hw : wrap64 ((i : Int) + 1) = ((i + 1 : Nat) : Int) := by rw [wrap64_id (by omega) (by omega)]; rfl
    have hr := markR_rd a n i (by omega)
    have hn := ih (i + 1) (by omega) (by omega)
    have hlen := markR_length a n
    obtain ⟨x, hx⟩ : ∃ x, a + 4 * (i : Int) = x := ⟨_, rfl⟩
    have hw1 : wrap64 (x + 1) = x + 1 := wrap64_id (by omega) (by omega)
    have hw2 : wrap64 (x + 1 + 1) = x + 1 + 1 := wrap64_id (by omega) (by omega)
    have hw3 : wrap64 (x + 1 + 1 + 1) = x + 1 + 1 + 1 := wrap64_id (by omega) (by omega)
    have hw4 : wrap64 (x + 1 + 1 + 1 + 1) = x + 1 + 1 + 1 + 1 := wrap64_id (by omega) (by omega)
    rw [show a + 4 * ((i + 1 : Nat) : Int) = x + 1 + 1 + 1 + 1 by omega] at hn
    rw [hx] at hr ⊢
    refine Ev.step (fun k => by rw [laws_heldShardRangeS.l0, if_pos (by rw [hlen]; omega), if_pos (by omega), hr, hw1, hw2, hw3, hw4, hw, if_pos (show (markR1 x).f0 = x from rfl), if_pos (show (markR1 x).f1 = x + 1 from rfl), if_pos (show (markR1 x).f2 = x + 1 + 1 from rfl), if_pos (show (markR1 x).f3 = x + 1 + 1 + 1 from rfl)]) ?_
    exact hn
theorem heldShardRangeS (n : Nat) (hl : n ≤ 1048576) (a : Int) (ha : 0 ≤ a ∧ a ≤ 1000000000) : Ev (fun k => laws_heldShardRangeS.f k (markR a n) a) (a + 4 * (n : Int)) := by
  refine Ev.congr (fun k => by rw [laws_heldShardRangeS.f]) ?_
  have h := heldShardRangeS_l0 n hl a ha n 0 rfl (by omega)
  simpa using h
/-! The pieces. -/
theorem piece_shard {K u x : Int} (hK : 1 ≤ K) (hu : 1 ≤ u) (hx : 0 ≤ x) : x % (K * u) / u = x / u % K := by
  obtain ⟨n, rfl⟩ := Int.eq_ofNat_of_zero_le hx
  obtain ⟨m, rfl⟩ := Int.eq_ofNat_of_zero_le (show 0 ≤ u by omega)
  obtain ⟨q, rfl⟩ := Int.eq_ofNat_of_zero_le (show 0 ≤ K by omega)
  have h := Nat.mod_mul_right_div_self n m q
  rw [Nat.mul_comm m q] at h
  exact_mod_cast h
theorem piece_item {K u e x : Int} (hK : 1 ≤ K) (hu : 1 ≤ u) (hx : 0 ≤ x) (hw : wrap64 (K * u) = K * u) : rrItem (K * u) u e x = srItem K u e x ∧ rrCount (K * u) u e x = srCount u e x := by
  have h1 : x % (K * u) % u = x % u := Int.emod_emod_of_dvd x (Int.dvd_mul_left K u)
  have h2 : rrCount (K * u) u e x = srCount u e x := by
    unfold rrCount srCount
    rw [h1]
  refine ⟨?_, h2⟩
  unfold rrItem srItem
  rw [h2, h1, piece_shard hK hu hx, hw]
theorem pieces {K u e : Int} (hK : 1 ≤ K) (hu : 1 ≤ u) (hw : wrap64 (K * u) = K * u) : ∀ (n : Nat) (x : Int), 0 ≤ x → rrL (K * u) u e n x = srL K u e n x
  | 0, _, _ => rfl
  | n + 1, x, hx => by
    obtain ⟨h1, h2⟩ := piece_item (e := e) hK hu hx hw
    rw [rrL, srL, h1, h2]
    by_cases h : x < e
    · rw [if_pos h, if_pos h, pieces hK hu hw n]
      have := Int.emod_lt_of_pos x (show 0 < u by omega)
      unfold srCount
      split <;> omega
    · rw [if_neg h, if_neg h]
theorem pieces_all {K u size f c : Int} (hK : 1 ≤ K) (hu : 1 ≤ u) (hw : wrap64 (K * u) = K * u) (hs : 0 ≤ size) (hf : 0 ≤ f) (hc : 0 ≤ c) : srAll K u size f c = rrAll (K * u) u size f c := by
  unfold srAll rrAll
  by_cases h : f < size
  · rw [if_pos h, pieces hK hu hw _ _ hf]
    have e1 : srFrom size f = f := by unfold srFrom; rw [if_neg (by omega)]
    have e2 : f + srCnt size f c = rrEnd size f c := by unfold srCnt rrEnd; split <;> split <;> omega
    have e3 : srCnt size f c = rrEnd size f c - f := by omega
    rw [e1, e2, e3]
  · rw [if_neg h]
    have e1 : srFrom size f = size := by unfold srFrom; split <;> omega
    have e2 : srCnt size size c = 0 := by unfold srCnt; split <;> omega
    rw [e1, e2]
    rfl
theorem stripe_good {K M G unit size : Int} (h : ¬ stripeOf K M G unit size < 0) : codeFaultOf K M G = 0 ∧ 1 ≤ unit ∧ unit ≤ 4096 ∧ 0 ≤ size ∧ size ≤ 100000 := by
  unfold stripeOf at h
  split at h
  · assumption
  · omega
/-- What RangeReads answers. -/
def rangesOf (K M G u size f c : Int) : Int × List S84 := if stripeOf K M G u size < 0 ∨ f < 0 ∨ c < 0 then (1, []) else (0, rrAll (K * u) u size f c)
theorem ranges_len (K M G u size f c : Int) : (rangesOf K M G u size f c).2.length ≤ 100000 := by
  unfold rangesOf
  split
  · exact Nat.zero_le _
  · rename_i h
    obtain ⟨_, _, _, h5, h6⟩ := stripe_good (fun q => h (Or.inl q))
    unfold rrAll
    split
    · refine Nat.le_trans (rrL_len _ _ _ _ _) ?_
      unfold rrEnd
      split <;> omega
    · exact Nat.zero_le _
theorem impl_ranges (K M G u size f c : Int) : Ev (fun k => impl_RangeReads.f k K M G u size f c) (rangesOf K M G u size f c) := by
  refine Ev.congr (fun k => by rw [impl_RangeReads.f]) ?_
  refine Ev.bind (impl_stripeCount K M G u size) ?_
  unfold rangesOf
  by_cases h1 : stripeOf K M G u size < 0
  · rw [if_pos (Or.inl h1)]; exact Ev.pos h1 (Ev.now _)
  · refine Ev.neg h1 ?_
    by_cases h2 : f < 0
    · rw [if_pos (Or.inr (Or.inl h2))]; exact Ev.pos h2 (Ev.now _)
    · refine Ev.neg h2 ?_
      by_cases h3 : c < 0
      · rw [if_pos (Or.inr (Or.inr h3))]; exact Ev.pos h3 (Ev.now _)
      · refine Ev.neg h3 ?_
        rw [if_neg (show ¬ (stripeOf K M G u size < 0 ∨ f < 0 ∨ c < 0) by omega)]
        obtain ⟨h0, h4, h5, h6, h7⟩ := stripe_good h1
        obtain ⟨k1, k2, -, -, -, -, -⟩ := codeFault_zero h0
        have hb := mul_bounds k1 k2 h4 h5
        have hw : wrap64 (K * u) = K * u := wrap64_id (by omega) (by omega)
        rw [hw]
        exact Ev.pos (by omega) (Ev.now _)
theorem spec_ranges (K M G u size f c : Int) : Ev (fun k => spec_RangeReads.f k K M G u size f c) (rangesOf K M G u size f c) := by
  refine Ev.congr (fun k => by rw [spec_RangeReads.f]) ?_
  refine Ev.bind (spec_stripeCount K M G u size) ?_
  unfold rangesOf
  by_cases h1 : stripeOf K M G u size < 0
  · rw [if_pos (Or.inl h1)]; exact Ev.pos h1 (Ev.now _)
  · refine Ev.neg h1 ?_
    by_cases h2 : f < 0
    · rw [if_pos (Or.inr (Or.inl h2))]; exact Ev.pos h2 (Ev.now _)
    · refine Ev.neg h2 ?_
      by_cases h3 : c < 0
      · rw [if_pos (Or.inr (Or.inr h3))]; exact Ev.pos h3 (Ev.now _)
      · refine Ev.neg h3 ?_
        rw [if_neg (show ¬ (stripeOf K M G u size < 0 ∨ f < 0 ∨ c < 0) by omega)]
        obtain ⟨h0, h4, h5, h6, h7⟩ := stripe_good h1
        obtain ⟨k1, k2, -, -, -, -, -⟩ := codeFault_zero h0
        have hb := mul_bounds k1 k2 h4 h5
        have hw : wrap64 (K * u) = K * u := wrap64_id (by omega) (by omega)
        rw [pieces_all k1 h4 hw h6 (by omega) (by omega), hw]
        exact Ev.pos (by omega) (Ev.now _)

theorem FnExactRangeReads : laws_FnExactRangeReads.Wants := by
  intro K M G u size f c _ _ _ _ _ _ _
  refine Ev.rounds (Ev.congr (fun k => by rw [laws_FnExactRangeReads.f, show laws_toCode.f K M G = some (K, M, G) from rfl, Option.bind_some]) ?_)
  have hs := spec_ranges K M G u size f c
  have hi := impl_ranges K M G u size f c
  have hl := ranges_len K M G u size f c
  generalize rangesOf K M G u size f c = q at hs hi hl
  obtain ⟨r, l⟩ := q
  simp only at hl
  have heq : Ev (fun k => laws_eqRangeResult.f k r l r l) true := Ev.congr (fun k => by rw [laws_eqRangeResult.f, if_pos rfl]) (Ev.bind (eqShardRangeS l (by omega)) (Ev.pos rfl (Ev.now _)))
  have hmark : Ev (fun k => laws_markRangeResult.f k r l 1) (1 + 4 * (l.length : Int), markR 1 l.length) := by
    refine Ev.congr (fun k => by rw [laws_markRangeResult.f]) ?_
    exact Ev.bind (markShardRangeS l (by omega) 1 (by omega)) (Ev.now _)
  have hheld : Ev (fun k => laws_heldRangeResult.f k r (markR 1 l.length) 1) (1 + 4 * (l.length : Int)) := by
    refine Ev.congr (fun k => by rw [laws_heldRangeResult.f]) ?_
    exact Ev.bind (heldShardRangeS l.length (by omega) 1 (by omega)) (Ev.neg (by omega) (Ev.now _))
  have hto : laws_toCode.f K M G = some (K, M, G) := rfl
  refine Ev.bind hs (Ev.bindS hto (Ev.bind hi (Ev.bind heq (Ev.pos rfl (Ev.bind hmark (Ev.bind hheld (Ev.neg (by omega) (Ev.pos rfl ?_))))))))
  exact Ev.bindS hto (Ev.bind hi (Ev.bind heq (Ev.pos rfl (Ev.bind hheld (Ev.neg (by omega) (Ev.pos rfl (Ev.now true)))))))

end Go.Proofs.Ytcpmlelejlmpdaa.Pure
