/- The statement FnExactStripeCount over numbers alone: the program's StripeCount and the reference's answer the same number. No condition. -/
import Derived.Test.YtjlbhjacjjkccaaPFnExactStripeCountx1
import Derived.Laws.BitsAllLaws
import Derived.Laws.Bits64
import Derived.Test.YtjlbhjacjjkccaaGoodFnExactStripeCount
set_option linter.all false
namespace Go.Proofs.Ytjlbhjacjjkccaa.Pure
open Go.RowKit Go.Proofs.Ytjlbhjacjjkccaa.PFnExactStripeCount Go.Proofs.YtjlbhjacjjkccaaW.PrintWords Go.Proofs.YtjlbhjacjjkccaaW.PrintLast Go.Proofs.YtjlbhjacjjkccaaW.PrintMore

/-! Small lemmas on wraps, rounds and lists. -/
theorem wrap64_id {x : Int} (h0 : -9223372036854775808 ≤ x) (h1 : x < 9223372036854775808) : wrap64 x = x := by unfold wrap64; omega
theorem u64_id {x : Int} (h0 : 0 ≤ x) (h1 : x < 18446744073709551616) : IntKind.u64.wrap x = x := by rw [IntKind.wrap_u64]; omega
theorem Ev.pos {α : Type} {c : Prop} [Decidable c] {f g : Nat → Option α} {r : α} (h : c) (e : Ev f r) : Ev (fun k => if c then f k else g k) r := by simpa [h] using e
theorem Ev.neg {α : Type} {c : Prop} [Decidable c] {f g : Nat → Option α} {r : α} (h : ¬ c) (e : Ev g r) : Ev (fun k => if c then f k else g k) r := by simpa [h] using e
theorem Ev.bindS {α β : Type} {g : Option α} {f : Nat → α → Option β} {a : α} {r : β} (h : g = some a) (e : Ev (fun k => f k a) r) : Ev (fun k => g.bind (f k)) r := by subst h; simpa using e
theorem Ev.give {α : Type} {r s : α} (h : s = r) : Ev (fun _ => some s) r := by subst h; exact Ev.now _
theorem bt_drop (s : ByteArray) (i : Nat) (h : i < s.size) : ∃ c : UInt8, s.data.toList.drop i = c :: s.data.toList.drop (i + 1) ∧ bt s (i : Int) = (c.toNat : Int) := by
  have hl : i < s.data.toList.length := by simpa using h
  refine ⟨s.data.toList[i], List.drop_eq_getElem_cons hl, ?_⟩
  unfold bt
  rw [dif_pos (by simpa using h)]
  simp [ByteArray.getElem_eq_getElem_data]
theorem drop_end (s : ByteArray) (i : Nat) (h : s.size ≤ i) : s.data.toList.drop i = [] := List.drop_eq_nil_of_le (by simpa using h)
theorem size_strOfNums (l : List Int) : (strOfNums l).size = l.length := by
  show (strOfNums l).data.size = l.length
  simp [strOfNums]
theorem i64_range {n : Int} (h : (Lit.int .i64 n).wf = true) : -9223372036854775808 ≤ n ∧ n < 9223372036854775808 := by
  simp only [Lit.wf, IntKind.min, IntKind.max, IntKind.signed, IntKind.bits, Bool.and_eq_true, decide_eq_true_eq, if_true] at h; omega
theorem byte_eq_int (c d : UInt8) : ((c.toNat : Int) = (d.toNat : Int)) ↔ c = d := by
  constructor
  · intro h; exact UInt8.toNat_inj.1 (by omega)
  · rintro rfl; rfl
theorem byte_eq_lit (c : UInt8) (n : Nat) (hn : n < 256) : ((c.toNat : Int) = (n : Int)) ↔ c = UInt8.ofNat n := by
  rw [← byte_eq_int]
  have : (UInt8.ofNat n).toNat = n := by simp [UInt8.toNat_ofNat']; omega
  rw [this]
theorem bt_get (s : ByteArray) (i : Nat) (h : i < s.size) : ∃ c : UInt8, s.data.toList[i]? = some c ∧ bt s (i : Int) = (c.toNat : Int) := by
  obtain ⟨c, e, hb⟩ := bt_drop s i h
  refine ⟨c, ?_, hb⟩
  have : (s.data.toList.drop i)[0]? = some c := by rw [e]; rfl
  simpa using this

/-- What CodeFault answers. -/
def codeFaultOf (K M G : Int) : Int := if 1 ≤ K ∧ K ≤ 32 ∧ 0 ≤ M ∧ M ≤ 16 ∧ 0 ≤ G ∧ G ≤ K ∧ K + M + G ≤ 64 then 0 else 1
theorem spec_codeFault (a b c : Int) : spec_CodeFault.f a b c = some (codeFaultOf a b c) := by
  unfold spec_CodeFault.f codeFaultOf
  by_cases h1 : a < 1
  · rw [if_pos h1, if_neg (by omega)]
  · rw [if_neg h1]
    by_cases h2 : a > 32
    · rw [if_pos h2, if_neg (by omega)]
    · rw [if_neg h2]
      by_cases h3 : b < 0
      · rw [if_pos h3, if_neg (by omega)]
      · rw [if_neg h3]
        by_cases h4 : b > 16
        · rw [if_pos h4, if_neg (by omega)]
        · rw [if_neg h4]
          by_cases h5 : c < 0
          · rw [if_pos h5, if_neg (by omega)]
          · rw [if_neg h5]
            by_cases h6 : c > a
            · rw [if_pos h6, if_neg (by omega)]
            · rw [if_neg h6, wrap64_id (x := a + b) (by omega) (by omega), wrap64_id (x := a + b + c) (by omega) (by omega)]
              by_cases h7 : a + b + c > 64
              · rw [if_pos h7, if_neg (by omega)]
              · rw [if_neg h7, if_pos (by omega)]
theorem impl_codeFault (a b c : Int) : impl_CodeFault.f a b c = some (codeFaultOf a b c) := spec_codeFault a b c
theorem codeFault_zero {a b c : Int} (h : codeFaultOf a b c = 0) : 1 ≤ a ∧ a ≤ 32 ∧ 0 ≤ b ∧ b ≤ 16 ∧ 0 ≤ c ∧ c ≤ a ∧ a + b + c ≤ 64 := by
  unfold codeFaultOf at h
  by_cases hc : 1 ≤ a ∧ a ≤ 32 ∧ 0 ≤ b ∧ b ≤ 16 ∧ 0 ≤ c ∧ c ≤ a ∧ a + b + c ≤ 64
  · exact hc
  · rw [if_neg hc] at h; exact absurd h (by decide)

/-- What StripeCount answers. -/
def stripeOf (K M G unit size : Int) : Int :=
  if codeFaultOf K M G = 0 ∧ 1 ≤ unit ∧ unit ≤ 4096 ∧ 0 ≤ size ∧ size ≤ 100000 then
    (if (size + K * unit - 1) / (K * unit) > 200 then -1 else (size + K * unit - 1) / (K * unit)) else -1
theorem mul_bounds {K unit : Int} (h1 : 1 ≤ K) (h2 : K ≤ 32) (h3 : 1 ≤ unit) (h4 : unit ≤ 4096) : 1 ≤ K * unit ∧ K * unit ≤ 131072 := by
  have e1 : K * unit ≤ 32 * unit := Int.mul_le_mul_of_nonneg_right h2 (by omega)
  have e2 : 1 * unit ≤ K * unit := Int.mul_le_mul_of_nonneg_right h1 (by omega)
  omega
theorem stripe_last {K unit size : Int} (h1 : 1 ≤ K) (h2 : K ≤ 32) (h3 : 1 ≤ unit) (h4 : unit ≤ 4096) (h5 : 0 ≤ size) (h6 : size ≤ 100000) :
    wrap64 (Int.tdiv (wrap64 ((wrap64 (size + (wrap64 (K * unit)))) - 1)) (wrap64 (K * unit))) = (size + K * unit - 1) / (K * unit) := by
  obtain ⟨hb1, hb2⟩ := mul_bounds h1 h2 h3 h4
  rw [wrap64_id (x := K * unit) (by omega) (by omega), wrap64_id (x := size + K * unit) (by omega) (by omega), wrap64_id (x := size + K * unit - 1) (by omega) (by omega), Int.tdiv_eq_ediv_of_nonneg (by omega)]
  have hd : (size + K * unit - 1) / (K * unit) ≤ size + K * unit - 1 := Int.ediv_le_self _ (by omega)
  have hn : 0 ≤ (size + K * unit - 1) / (K * unit) := Int.ediv_nonneg (by omega) (by omega)
  exact wrap64_id (by omega) (by omega)
theorem spec_stripeCount (K M G unit size : Int) : Ev (fun k => spec_StripeCount.f k K M G unit size) (stripeOf K M G unit size) := by
  unfold stripeOf
  refine Ev.congr (fun k => by rw [spec_StripeCount.f, spec_codeFault, Option.bind_some]) ?_
  have bad : ∀ b : Bool, b = true → Ev (fun k => spec_StripeCount.j0 k unit size b K M G) (-1) := by
    rintro b rfl
    exact Ev.step (fun k => by rw [spec_StripeCount.j0, if_pos rfl]) (Ev.now _)
  by_cases h0 : codeFaultOf K M G = 0
  · refine Ev.pos h0 ?_
    obtain ⟨k1, k2, -, -, -, -, -⟩ := codeFault_zero h0
    by_cases h1 : unit < 1
    · rw [if_neg (by omega)]; exact Ev.pos h1 (bad _ rfl)
    · refine Ev.neg h1 ?_
      by_cases h2 : unit > 4096
      · rw [if_neg (by omega)]; exact Ev.pos h2 (bad _ rfl)
      · refine Ev.neg h2 ?_
        by_cases h3 : size < 0
        · rw [if_neg (by omega)]; exact Ev.pos h3 (bad _ rfl)
        · refine Ev.neg h3 ?_
          by_cases h4 : size > 100000
          · rw [if_neg (by omega)]; exact bad _ (by simpa using h4)
          · rw [if_pos ⟨h0, by omega, by omega, by omega, by omega⟩]
            have hl := stripe_last k1 k2 (by omega : 1 ≤ unit) (by omega) (by omega : 0 ≤ size) (by omega)
            have hb := mul_bounds k1 k2 (by omega : 1 ≤ unit) (by omega)
            have hw : wrap64 (K * unit) = K * unit := wrap64_id (by omega) (by omega)
            refine Ev.step (fun k => by rw [spec_StripeCount.j0, if_neg (by simpa using h4), hl, if_neg (by rw [hw]; omega)]) ?_
            by_cases h5 : (size + K * unit - 1) / (K * unit) > 200
            · rw [if_pos h5, if_pos h5]; exact Ev.now _
            · rw [if_neg h5, if_neg h5]; exact Ev.now _
  · rw [if_neg (fun h => h0 h.1)]
    exact Ev.neg h0 (bad _ rfl)
theorem impl_stripeCount (K M G unit size : Int) : Ev (fun k => impl_StripeCount.f k K M G unit size) (stripeOf K M G unit size) := by
  unfold stripeOf
  refine Ev.congr (fun k => by rw [impl_StripeCount.f, impl_codeFault, Option.bind_some]) ?_
  have bad : ∀ b : Bool, b = true → Ev (fun k => impl_StripeCount.j0 k unit size b K M G) (-1) := by
    rintro b rfl
    exact Ev.step (fun k => by rw [impl_StripeCount.j0, if_pos rfl]) (Ev.now _)
  by_cases h0 : codeFaultOf K M G = 0
  · refine Ev.pos h0 ?_
    obtain ⟨k1, k2, -, -, -, -, -⟩ := codeFault_zero h0
    by_cases h1 : unit < 1
    · rw [if_neg (by omega)]; exact Ev.pos h1 (bad _ rfl)
    · refine Ev.neg h1 ?_
      by_cases h2 : unit > 4096
      · rw [if_neg (by omega)]; exact Ev.pos h2 (bad _ rfl)
      · refine Ev.neg h2 ?_
        by_cases h3 : size < 0
        · rw [if_neg (by omega)]; exact Ev.pos h3 (bad _ rfl)
        · refine Ev.neg h3 ?_
          by_cases h4 : size > 100000
          · rw [if_neg (by omega)]; exact bad _ (by simpa using h4)
          · rw [if_pos ⟨h0, by omega, by omega, by omega, by omega⟩]
            have hl := stripe_last k1 k2 (by omega : 1 ≤ unit) (by omega) (by omega : 0 ≤ size) (by omega)
            have hb := mul_bounds k1 k2 (by omega : 1 ≤ unit) (by omega)
            have hw : wrap64 (K * unit) = K * unit := wrap64_id (by omega) (by omega)
            refine Ev.step (fun k => by rw [impl_StripeCount.j0, if_neg (by simpa using h4), hl, if_neg (by rw [hw]; omega)]) ?_
            by_cases h5 : (size + K * unit - 1) / (K * unit) > 200
            · rw [if_pos h5, if_pos h5]; exact Ev.now _
            · rw [if_neg h5, if_neg h5]; exact Ev.now _
  · rw [if_neg (fun h => h0 h.1)]
    exact Ev.neg h0 (bad _ rfl)

theorem FnExactStripeCount : laws_FnExactStripeCount.Wants := by
  intro K M G unit size _ _ _ _ _
  refine Ev.rounds (Ev.congr (fun k => by rw [laws_FnExactStripeCount.f, show laws_toCode.f K M G = some (K, M, G) from rfl, Option.bind_some]) ?_)
  refine Ev.bind (spec_stripeCount K M G unit size) (Ev.congr (fun k => by rw [Option.bind_some]) (Ev.bind (impl_stripeCount K M G unit size) (Ev.pos rfl (Ev.now _))))

end Go.Proofs.Ytjlbhjacjjkccaa.Pure
