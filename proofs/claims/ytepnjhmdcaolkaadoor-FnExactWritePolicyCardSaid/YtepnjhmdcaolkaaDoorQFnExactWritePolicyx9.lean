-- A text of this session, printed by a program of its own (wip/tools: xpatch.py, xprint.sh, mkq.py). No condition.
import Derived.Test.YtepnjhmdcaolkaaDoorShelf
import Derived.Shelf.Unicode.PredsPay
import Derived.Lib.AppendIntMem
import Derived.Test.YtepnjhmdcaolkaaDoorQFnExactWritePolicyx0
import Derived.Test.YtepnjhmdcaolkaaDoorQFnExactWritePolicyx8
namespace Go.Proofs.YtepnjhmdcaolkaaDoor.QFnExactWritePolicy
open Go.RowKit Go.Proofs.YtepnjhmdcaolkaaDoorW.PrintWords Go.Proofs.YtepnjhmdcaolkaaDoorW.PrintLast Go.Proofs.YtepnjhmdcaolkaaDoorW.PrintMore
attribute [local go_sem] max2_int min2_int max_two min_two max_three min_three max_four min_four   -- for this text's walks alone
set_option linter.unusedVariables false
set_option linter.unusedSimpArgs false

/-! ### strings_Join: function 36 -/
/-- The pieces with a text between them. -/
def joinOf (l : List ByteArray) (sep : ByteArray) : ByteArray := ⟨(Lib.join (l.map (·.data.toList)) sep.data.toList).toArray⟩
def strings_Join.f (l : List ByteArray) (sep : ByteArray) : Option (ByteArray) := if l.length ≤ 140737488355328 ∧ (joinOf l sep).size ≤ 140737488355328 then some (joinOf l sep) else none
theorem strings_Join.calls (A0 : Option Addr) (c0 : Nat) (l0 : List ByteArray) (a1 : ByteArray) (r : ByteArray) (w : World) (hr0 : Kd.C Kd.string w A0 l0.length l0) (hc0 : l0.length ≤ c0) (h : strings_Join.f l0 a1 = some r) :
  Calls Tryd.prog 36 #[.slice A0 l0.length c0, .string a1] w fun e w' => e = .returned (.string r) ∧ Below w.heap.size w w' := by
 unfold strings_Join.f at h
 by_cases hb : l0.length ≤ 140737488355328 ∧ (joinOf l0 a1).size ≤ 140737488355328
 rotate_left
 ·
  rw [if_neg hb] at h
  cases h
 rw [if_pos hb] at h
 obtain rfl := Option.some.inj h
 by_cases hn : 0 < l0.length
 rotate_left
 ·
  have e0 : l0 = [] := List.eq_nil_of_length_eq_zero (by omega)
  subst e0
  refine (Tryd.strings_Join_none A0 c0 a1 w).mono fun e w' h => ?_
  obtain ⟨rfl, rfl⟩ := h
  exact ⟨rfl, Below.refl _ _⟩
 obtain ⟨ad, rfl, hcell⟩ := hr0.2.2 hn
 have hcells : ∀ (j : Nat) x, l0[j]? = some x → w.cell? (ad.add j) = some (.string x) := by
  intro j x hj
  obtain ⟨c, hl, hK, hcc⟩ := hcell j x hj
  have e : c = [.string x] := hK
  subst e
  have h1 := hcc 0 _ rfl
  have h2 : Kd.string.sz = 1 := rfl
  rw [h2, Nat.mul_one, Nat.add_zero] at h1
  exact h1
 have hx0 := hcells 0 _ (List.getElem?_eq_getElem hn)
 obtain ⟨bk, o, sp⟩ := ad
 have hsp : sp = none := by
  cases sp with
  | none => rfl
  | some q =>
   exfalso
   have h0 : w.cell? ⟨bk, o, some q⟩ = some (.string l0[0]) := hx0
   unfold World.cell? at h0
   split at h0
   ·
    simp at h0
   ·
    cases h0
 subst hsp
 have hcells2 : ∀ (j : Nat) x, l0[j]? = some x → w.cell? ⟨bk, o + j, none⟩ = some (.string x) := by
  intro j x hj
  have h1 := hcells j x hj
  have h2 : (⟨bk, o, none⟩ : Addr).add j = ⟨bk, o + j, none⟩ := by
   unfold Addr.add
   split <;> simp_all
  rw [h2] at h1
  exact h1
 have hsz : (Lib.join (l0.map (·.data.toList)) a1.data.toList).length ≤ 140737488355328 := by
  have h3 := hb.2
  unfold joinOf at h3
  simpa [ByteArray.size] using h3
 exact (Tryd.strings_Join bk o c0 l0 a1 w hcells2 (World.block_lt_of_cell? w ⟨bk, o, none⟩ hx0) hb.1 hc0 hsz).mono fun e w' h => h

/-! ### strconv_FormatInt: function 61 -/
/-- The library's table of the powers of ten, as the program's text lays it. -/
def LaidAt (w : World) : Prop := Lib.TabIs Tryd.prog w "internal/strconv.uint64pow10" .u64 Lib.pow10Tab
theorem LaidAt.below {w w' : World} (h : LaidAt w) (hb : Below w.heap.size w w') : LaidAt w' := by
  cases hg : Tryd.prog.globalNamed "internal/strconv.uint64pow10" with
  | none =>
    unfold LaidAt Lib.TabIs World.var? at h
    rw [hg] at h
    cases h
  | some g => exact Go.Proofs.TabIs_below hg h hb
/-- A number's decimal digits. -/
def itoaOf (n : Int) : ByteArray := ⟨(Lib.itoa n).toArray⟩
def strconv_FormatInt.f (n b : Int) : Option (ByteArray) := if b = 10 ∧ -9223372036854775808 ≤ n ∧ n ≤ 9223372036854775807 then some (itoaOf n) else none
theorem strconv_FormatInt.calls (a0 : Int) (a1 : Int) (r : ByteArray) (w : World) (h : strconv_FormatInt.f a0 a1 = some r) (hL : LaidAt w) :
  Calls Tryd.prog 61 #[.int .i64 a0, .int .i64 a1] w fun e w' => e = .returned (.string r) ∧ Below w.heap.size w w' := by
 unfold strconv_FormatInt.f at h
 by_cases hb : a1 = 10 ∧ -9223372036854775808 ≤ a0 ∧ a0 ≤ 9223372036854775807
 rotate_left
 ·
  rw [if_neg hb] at h
  cases h
 rw [if_pos hb] at h
 obtain rfl := Option.some.inj h
 obtain ⟨rfl, h0, h1⟩ := hb
 refine (Tryd.strconv_FormatInt_10 a0 h0 h1 w hL).mono fun e w' h => ?_
 obtain ⟨rfl, k, os, rfl⟩ := h
 exact ⟨rfl, Lib.below_grow _ w (Nat.le_refl _) k os⟩

/-! ### impl_writeCondition: function 37 -/
def impl_writeCondition.f (a0_0 : Int) (a0_1 : ByteArray) (a0_2 : Int) : Option (ByteArray) := if a0_0 = 1 then (if 8 + a0_1.size ≤ 9223372036854775807 then (some ((⟨#[32, 112, 114, 101, 102, 105, 120, 32]⟩ : ByteArray) ++ a0_1)) else (none)) else (if a0_0 = 2 then ((strconv_FormatInt.f a0_2 10).bind fun t225 => (if 8 + t225.size ≤ 9223372036854775807 then (some ((⟨#[32, 98, 101, 102, 111, 114, 101, 32]⟩ : ByteArray) ++ t225)) else (none))) else (if a0_0 = 3 then ((strconv_FormatInt.f a0_2 10).bind fun t226 => (if 7 + t226.size ≤ 9223372036854775807 then (some ((⟨#[32, 97, 102, 116, 101, 114, 32]⟩ : ByteArray) ++ t226)) else (none))) else (if 6 + a0_1.size ≤ 9223372036854775807 then (some ((⟨#[32, 102, 114, 111, 109, 32]⟩ : ByteArray) ++ a0_1)) else (none))))
set_option maxHeartbeats 8000000 in
set_option maxRecDepth 100000 in
theorem impl_writeCondition.calls (a0_0 : Int) (a0_1 : ByteArray) (a0_2 : Int) (r : ByteArray) (w : World) (h : impl_writeCondition.f a0_0 a0_1 a0_2 = some r) (hL : LaidAt w) :
  Calls Tryd.prog 37 #[.agg #[.int .i64 a0_0, .string a0_1, .int .i64 a0_2]] w fun e w' => e = .returned (.string r) ∧ Below w.heap.size w w' := by
 have HL := Aside0.mk hL
 clear hL
 have hu61 := Tryd.underlying61
 have HB := Aside0.mk (Below.refl w.heap.size w)
 have H : (if a0_0 = 1 then (if 8 + a0_1.size ≤ 9223372036854775807 then (some ((⟨#[32, 112, 114, 101, 102, 105, 120, 32]⟩ : ByteArray) ++ a0_1)) else (none)) else (if a0_0 = 2 then ((strconv_FormatInt.f a0_2 10).bind fun t225 => (if 8 + t225.size ≤ 9223372036854775807 then (some ((⟨#[32, 98, 101, 102, 111, 114, 101, 32]⟩ : ByteArray) ++ t225)) else (none))) else (if a0_0 = 3 then ((strconv_FormatInt.f a0_2 10).bind fun t226 => (if 7 + t226.size ≤ 9223372036854775807 then (some ((⟨#[32, 97, 102, 116, 101, 114, 32]⟩ : ByteArray) ++ t226)) else (none))) else (if 6 + a0_1.size ≤ 9223372036854775807 then (some ((⟨#[32, 102, 114, 111, 109, 32]⟩ : ByteArray) ++ a0_1)) else (none))))) = some r := h
 clear h
 by_cases c2 : a0_0 = 1
 ·
  rw [if_pos c2] at H
  have c2b0 : (a0_0 == 1) = true := beq_iff_eq.mpr c2
  have c2b1 : (a0_0 != 1) = false := bne_eq_false_iff_eq.mpr c2
  clear c2
  by_cases c3 : 8 + a0_1.size ≤ 9223372036854775807
  rotate_left
  ·
   rw [if_neg c3] at H
   exact absurd H (by simp)
  rw [if_pos c3] at H
  have c3b0 := eq_true c3
  have c3b1 : decide (8 + a0_1.size ≤ 9223372036854775807) = true := decide_eq_true c3
  try have c3b2 : (9223372036854775807 < 8 + a0_1.size) = False := eq_false (Nat.not_lt.2 c3)
  obtain rfl := Option.some.inj H
  go_enter Tryd.func37, Tryd.ntmps37
  go_wp2_with (first | ((with_reducible refine gate_dst (N := 1) rfl ?_); refine box_event ?hg (N := 1) ?hd (cs := #[.int .i64 a0_0, .string a0_1, .int .i64 a0_2]) (t := 61) ?hr ?_; (case hd => rfl); (case hg => rfl); (case hr => first | (go_simp; done) | (go_simp; rfl)); intro gb224 hg w4 hbox hb; have n0_ := Aside0.mk (below_step (by first | exact Grow.bl HB.out | exact HB.out) hb); have n1_ := Aside0.mk (hbox); have n2_ := Aside0.mk ((by rw [hg]; exact (below_size (by first | exact Grow.bl HB.out | exact HB.out)) : w.heap.size ≤ gb224)); have n3_ := Aside0.mk ((by rw [hg]; exact (below_size (by first | exact Grow.bl HB.out | exact HB.out)) : w.heap.size ≤ gb224)); clear HB; have HB := n0_; have BK224 := n1_; have GW224 := n2_; have GE224 := n3_; clear n0_ n1_ n2_ n3_; clear hb hbox hg; have hcz5_0 : w4.cell? ⟨gb224, 0, none⟩ = some (.int .i64 a0_0) := (blk_cell BK224.out 0).trans rfl; have hcz5_1 : w4.cell? ⟨gb224, 1, none⟩ = some (.string a0_1) := (blk_cell BK224.out 1).trans rfl; have hcz5_2 : w4.cell? ⟨gb224, 2, none⟩ = some (.int .i64 a0_2) := (blk_cell BK224.out 2).trans rfl; have hfz5_0 := blk_frozen BK224.out 0; have hfz5_1 := blk_frozen BK224.out 1; have hfz5_2 := blk_frozen BK224.out 2))
  go_ret
  exact ⟨by first | rfl | (simp [errW_none, errW_some] <;> rfl) | (simp [*, errW_none, errW_some] <;> rfl), by repeat (first | (with_reducible first | exact HB.out | apply below_alloc | apply pw_below_drewN | apply below_drew1 | refine below_set ?_ GE224.out) | exact HB.out)⟩
 rw [if_neg c2] at H
 have c2b0 : (a0_0 == 1) = false := beq_eq_false_iff_ne.mpr c2
 have c2b1 : (a0_0 != 1) = true := bne_iff_ne.mpr c2
 by_cases c6 : a0_0 = 2
 ·
  rw [if_pos c6] at H
  have c6b0 : (a0_0 == 2) = true := beq_iff_eq.mpr c6
  have c6b1 : (a0_0 != 2) = false := bne_eq_false_iff_eq.mpr c6
  clear c6
  replace H := Option.bind_eq_some_iff.mp H
  obtain ⟨t225, A70, H⟩ := H
  replace H : (if 8 + t225.size ≤ 9223372036854775807 then (some ((⟨#[32, 98, 101, 102, 111, 114, 101, 32]⟩ : ByteArray) ++ t225)) else (none)) = some r := H
  have A7 := Aside0.mk A70
  clear A70
  by_cases c8 : 8 + t225.size ≤ 9223372036854775807
  rotate_left
  ·
   rw [if_neg c8] at H
   exact absurd H (by simp)
  rw [if_pos c8] at H
  have c8b0 := eq_true c8
  have c8b1 : decide (8 + t225.size ≤ 9223372036854775807) = true := decide_eq_true c8
  try have c8b2 : (9223372036854775807 < 8 + t225.size) = False := eq_false (Nat.not_lt.2 c8)
  obtain rfl := Option.some.inj H
  go_enter Tryd.func37, Tryd.ntmps37
  go_wp2_with (first | ((with_reducible refine gate_dst (N := 1) rfl ?_); refine box_event ?hg (N := 1) ?hd (cs := #[.int .i64 a0_0, .string a0_1, .int .i64 a0_2]) (t := 61) ?hr ?_; (case hd => rfl); (case hg => rfl); (case hr => first | (go_simp; done) | (go_simp; rfl)); intro gb224 hg w9 hbox hb; have n0_ := Aside0.mk (below_step (by first | exact Grow.bl HB.out | exact HB.out) hb); have n1_ := Aside0.mk (hbox); have n2_ := Aside0.mk ((by rw [hg]; exact (below_size (by first | exact Grow.bl HB.out | exact HB.out)) : w.heap.size ≤ gb224)); have n3_ := Aside0.mk ((by rw [hg]; exact (below_size (by first | exact Grow.bl HB.out | exact HB.out)) : w.heap.size ≤ gb224)); clear HB; have HB := n0_; have BK224 := n1_; have GW224 := n2_; have GE224 := n3_; clear n0_ n1_ n2_ n3_; clear hb hbox hg; have hcz10_0 : w9.cell? ⟨gb224, 0, none⟩ = some (.int .i64 a0_0) := (blk_cell BK224.out 0).trans rfl; have hcz10_1 : w9.cell? ⟨gb224, 1, none⟩ = some (.string a0_1) := (blk_cell BK224.out 1).trans rfl; have hcz10_2 : w9.cell? ⟨gb224, 2, none⟩ = some (.int .i64 a0_2) := (blk_cell BK224.out 2).trans rfl; have hfz10_0 := blk_frozen BK224.out 0; have hfz10_1 := blk_frozen BK224.out 1; have hfz10_2 := blk_frozen BK224.out 2) | ((with_reducible refine gate_callee (f := 61) rfl ?_); refine goesL_ (some 14) rfl rfl Tryd.func61 (by kernel_rfl) rfl #[.int .i64 a0_2, .int .i64 10] rfl (by (try simp only [List.map_toArray, List.map_cons, List.map_nil]); first | done | rfl | (simp only [List.length_drop, List.length_take]; rfl)) ?_; (with_reducible refine (strconv_FormatInt.calls a0_2 10 t225 _ A7.out (HL.out.below (by repeat (first | (with_reducible first | exact HB.out | apply below_alloc | apply pw_below_drewN | apply below_drew1 | refine below_set ?_ GE224.out) | exact HB.out)))).mono ?_); rintro e w11 ⟨rfl, hb⟩; refine ⟨_, rfl, ?_⟩; have n0_ := Aside0.mk (blk_below (g := gb224) (o := .cells #[.int .i64 a0_0, .string a0_1, .int .i64 a0_2] 61 (0, 0)) (by first | exact Grow.bk BK224.out | exact BK224.out) hb); have n1_ := Aside0.mk (below_step (by repeat (first | (with_reducible first | exact HB.out | apply below_alloc | apply pw_below_drewN | apply below_drew1 | refine below_set ?_ GE224.out) | exact HB.out)) hb); clear BK224; clear HB; have BK224 := n0_; have HB := n1_; clear n0_ n1_; (try clear hb); (try clear hb2); (try clear hk); (try clear hi)))
  go_ret
  exact ⟨by first | rfl | (simp [errW_none, errW_some] <;> rfl) | (simp [*, errW_none, errW_some] <;> rfl), by repeat (first | (with_reducible first | exact HB.out | apply below_alloc | apply pw_below_drewN | apply below_drew1 | refine below_set ?_ GE224.out) | exact HB.out)⟩
 rw [if_neg c6] at H
 have c6b0 : (a0_0 == 2) = false := beq_eq_false_iff_ne.mpr c6
 have c6b1 : (a0_0 != 2) = true := bne_iff_ne.mpr c6
 by_cases c12 : a0_0 = 3
 rotate_left
 ·
  rw [if_neg c12] at H
  have c12b0 : (a0_0 == 3) = false := beq_eq_false_iff_ne.mpr c12
  have c12b1 : (a0_0 != 3) = true := bne_iff_ne.mpr c12
  by_cases c18 : 6 + a0_1.size ≤ 9223372036854775807
  rotate_left
  ·
   rw [if_neg c18] at H
   exact absurd H (by simp)
  rw [if_pos c18] at H
  have c18b0 := eq_true c18
  have c18b1 : decide (6 + a0_1.size ≤ 9223372036854775807) = true := decide_eq_true c18
  try have c18b2 : (9223372036854775807 < 6 + a0_1.size) = False := eq_false (Nat.not_lt.2 c18)
  obtain rfl := Option.some.inj H
  go_enter Tryd.func37, Tryd.ntmps37
  go_wp2_with (first | ((with_reducible refine gate_dst (N := 1) rfl ?_); refine box_event ?hg (N := 1) ?hd (cs := #[.int .i64 a0_0, .string a0_1, .int .i64 a0_2]) (t := 61) ?hr ?_; (case hd => rfl); (case hg => rfl); (case hr => first | (go_simp; done) | (go_simp; rfl)); intro gb224 hg w19 hbox hb; have n0_ := Aside0.mk (below_step (by first | exact Grow.bl HB.out | exact HB.out) hb); have n1_ := Aside0.mk (hbox); have n2_ := Aside0.mk ((by rw [hg]; exact (below_size (by first | exact Grow.bl HB.out | exact HB.out)) : w.heap.size ≤ gb224)); have n3_ := Aside0.mk ((by rw [hg]; exact (below_size (by first | exact Grow.bl HB.out | exact HB.out)) : w.heap.size ≤ gb224)); clear HB; have HB := n0_; have BK224 := n1_; have GW224 := n2_; have GE224 := n3_; clear n0_ n1_ n2_ n3_; clear hb hbox hg; have hcz20_0 : w19.cell? ⟨gb224, 0, none⟩ = some (.int .i64 a0_0) := (blk_cell BK224.out 0).trans rfl; have hcz20_1 : w19.cell? ⟨gb224, 1, none⟩ = some (.string a0_1) := (blk_cell BK224.out 1).trans rfl; have hcz20_2 : w19.cell? ⟨gb224, 2, none⟩ = some (.int .i64 a0_2) := (blk_cell BK224.out 2).trans rfl; have hfz20_0 := blk_frozen BK224.out 0; have hfz20_1 := blk_frozen BK224.out 1; have hfz20_2 := blk_frozen BK224.out 2))
  go_ret
  exact ⟨by first | rfl | (simp [errW_none, errW_some] <;> rfl) | (simp [*, errW_none, errW_some] <;> rfl), by repeat (first | (with_reducible first | exact HB.out | apply below_alloc | apply pw_below_drewN | apply below_drew1 | refine below_set ?_ GE224.out) | exact HB.out)⟩
 rw [if_pos c12] at H
 have c12b0 : (a0_0 == 3) = true := beq_iff_eq.mpr c12
 have c12b1 : (a0_0 != 3) = false := bne_eq_false_iff_eq.mpr c12
 clear c12
 replace H := Option.bind_eq_some_iff.mp H
 obtain ⟨t226, A130, H⟩ := H
 replace H : (if 7 + t226.size ≤ 9223372036854775807 then (some ((⟨#[32, 97, 102, 116, 101, 114, 32]⟩ : ByteArray) ++ t226)) else (none)) = some r := H
 have A13 := Aside0.mk A130
 clear A130
 by_cases c14 : 7 + t226.size ≤ 9223372036854775807
 rotate_left
 ·
  rw [if_neg c14] at H
  exact absurd H (by simp)
 rw [if_pos c14] at H
 have c14b0 := eq_true c14
 have c14b1 : decide (7 + t226.size ≤ 9223372036854775807) = true := decide_eq_true c14
 try have c14b2 : (9223372036854775807 < 7 + t226.size) = False := eq_false (Nat.not_lt.2 c14)
 obtain rfl := Option.some.inj H
 go_enter Tryd.func37, Tryd.ntmps37
 go_wp2_with (first | ((with_reducible refine gate_dst (N := 1) rfl ?_); refine box_event ?hg (N := 1) ?hd (cs := #[.int .i64 a0_0, .string a0_1, .int .i64 a0_2]) (t := 61) ?hr ?_; (case hd => rfl); (case hg => rfl); (case hr => first | (go_simp; done) | (go_simp; rfl)); intro gb224 hg w15 hbox hb; have n0_ := Aside0.mk (below_step (by first | exact Grow.bl HB.out | exact HB.out) hb); have n1_ := Aside0.mk (hbox); have n2_ := Aside0.mk ((by rw [hg]; exact (below_size (by first | exact Grow.bl HB.out | exact HB.out)) : w.heap.size ≤ gb224)); have n3_ := Aside0.mk ((by rw [hg]; exact (below_size (by first | exact Grow.bl HB.out | exact HB.out)) : w.heap.size ≤ gb224)); clear HB; have HB := n0_; have BK224 := n1_; have GW224 := n2_; have GE224 := n3_; clear n0_ n1_ n2_ n3_; clear hb hbox hg; have hcz16_0 : w15.cell? ⟨gb224, 0, none⟩ = some (.int .i64 a0_0) := (blk_cell BK224.out 0).trans rfl; have hcz16_1 : w15.cell? ⟨gb224, 1, none⟩ = some (.string a0_1) := (blk_cell BK224.out 1).trans rfl; have hcz16_2 : w15.cell? ⟨gb224, 2, none⟩ = some (.int .i64 a0_2) := (blk_cell BK224.out 2).trans rfl; have hfz16_0 := blk_frozen BK224.out 0; have hfz16_1 := blk_frozen BK224.out 1; have hfz16_2 := blk_frozen BK224.out 2) | ((with_reducible refine gate_callee (f := 61) rfl ?_); refine goesL_ (some 20) rfl rfl Tryd.func61 (by kernel_rfl) rfl #[.int .i64 a0_2, .int .i64 10] rfl (by (try simp only [List.map_toArray, List.map_cons, List.map_nil]); first | done | rfl | (simp only [List.length_drop, List.length_take]; rfl)) ?_; (with_reducible refine (strconv_FormatInt.calls a0_2 10 t226 _ A13.out (HL.out.below (by repeat (first | (with_reducible first | exact HB.out | apply below_alloc | apply pw_below_drewN | apply below_drew1 | refine below_set ?_ GE224.out) | exact HB.out)))).mono ?_); rintro e w17 ⟨rfl, hb⟩; refine ⟨_, rfl, ?_⟩; have n0_ := Aside0.mk (blk_below (g := gb224) (o := .cells #[.int .i64 a0_0, .string a0_1, .int .i64 a0_2] 61 (0, 0)) (by first | exact Grow.bk BK224.out | exact BK224.out) hb); have n1_ := Aside0.mk (below_step (by repeat (first | (with_reducible first | exact HB.out | apply below_alloc | apply pw_below_drewN | apply below_drew1 | refine below_set ?_ GE224.out) | exact HB.out)) hb); clear BK224; clear HB; have BK224 := n0_; have HB := n1_; clear n0_ n1_; (try clear hb); (try clear hb2); (try clear hk); (try clear hi)))
 go_ret
 exact ⟨by first | rfl | (simp [errW_none, errW_some] <;> rfl) | (simp [*, errW_none, errW_some] <;> rfl), by repeat (first | (with_reducible first | exact HB.out | apply below_alloc | apply pw_below_drewN | apply below_drew1 | refine below_set ?_ GE224.out) | exact HB.out)⟩

/-! ### impl_WritePolicy: function 14 -/
mutual
def impl_WritePolicy.l0 : Nat → ByteArray → List (S58) → Int → Int → Option (ByteArray)
  | 0, _, _, _, _ => none
  | k + 1, x3, x11, x12, x13 => if x13 < x12 then (if 0 ≤ x13 then (if x13 < (x11.length : Int) then (if ((rd_T58 x11 x13).f0) = 1 then (if x3.size + 5 ≤ 9223372036854775807 then (impl_WritePolicy.j1 k (x3 ++ (⟨#[97, 108, 108, 111, 119]⟩ : ByteArray)) x11 x12 x13 ((rd_T58 x11 x13).f0) ((rd_T58 x11 x13).f1) ((rd_T58 x11 x13).f2) ((rd_T58 x11 x13).f3) ((rd_T58 x11 x13).f4)) else (none)) else (if x3.size + 4 ≤ 9223372036854775807 then (impl_WritePolicy.j1 k (x3 ++ (⟨#[100, 101, 110, 121]⟩ : ByteArray)) x11 x12 x13 ((rd_T58 x11 x13).f0) ((rd_T58 x11 x13).f1) ((rd_T58 x11 x13).f2) ((rd_T58 x11 x13).f3) ((rd_T58 x11 x13).f4)) else (none))) else (none)) else (none)) else (if (x3.size : Int) > 10000 then (some (⟨#[]⟩ : ByteArray)) else (some x3))
def impl_WritePolicy.j1 : Nat → ByteArray → List (S58) → Int → Int → Int → List ByteArray → List ByteArray → List ByteArray → List (S61) → Option (ByteArray)
  | 0, _, _, _, _, _, _, _, _, _ => none
  | k + 1, x3, x11, x12, x13, x230000, x230001, x230002, x230003, x230004 => (strings_Join.f x230001 (⟨#[44]⟩ : ByteArray)).bind fun t230 => (if 5 + t230.size ≤ 9223372036854775807 then (if ((⟨#[32, 119, 104, 111, 32]⟩ : ByteArray) ++ t230).size + 4 ≤ 9223372036854775807 then ((strings_Join.f x230002 (⟨#[44]⟩ : ByteArray)).bind fun t231 => (if (((⟨#[32, 119, 104, 111, 32]⟩ : ByteArray) ++ t230) ++ (⟨#[32, 100, 111, 32]⟩ : ByteArray)).size + t231.size ≤ 9223372036854775807 then (if ((((⟨#[32, 119, 104, 111, 32]⟩ : ByteArray) ++ t230) ++ (⟨#[32, 100, 111, 32]⟩ : ByteArray)) ++ t231).size + 4 ≤ 9223372036854775807 then ((strings_Join.f x230003 (⟨#[44]⟩ : ByteArray)).bind fun t232 => (if (((((⟨#[32, 119, 104, 111, 32]⟩ : ByteArray) ++ t230) ++ (⟨#[32, 100, 111, 32]⟩ : ByteArray)) ++ t231) ++ (⟨#[32, 111, 110, 32]⟩ : ByteArray)).size + t232.size ≤ 9223372036854775807 then (if x3.size + ((((((⟨#[32, 119, 104, 111, 32]⟩ : ByteArray) ++ t230) ++ (⟨#[32, 100, 111, 32]⟩ : ByteArray)) ++ t231) ++ (⟨#[32, 111, 110, 32]⟩ : ByteArray)) ++ t232).size ≤ 9223372036854775807 then (impl_WritePolicy.l1 k (x3 ++ ((((((⟨#[32, 119, 104, 111, 32]⟩ : ByteArray) ++ t230) ++ (⟨#[32, 100, 111, 32]⟩ : ByteArray)) ++ t231) ++ (⟨#[32, 111, 110, 32]⟩ : ByteArray)) ++ t232)) x11 x12 x13 x230004 (x230004.length : Int) 0) else (none)) else (none))) else (none)) else (none))) else (none)) else (none))
def impl_WritePolicy.l1 : Nat → ByteArray → List (S58) → Int → Int → List (S61) → Int → Int → Option (ByteArray)
  | 0, _, _, _, _, _, _, _ => none
  | k + 1, x3, x11, x12, x13, x41, x42, x43 => if x43 < x42 then (if 0 ≤ x43 then (if x43 < (x41.length : Int) then ((impl_writeCondition.f ((rd_T61 x41 x43).f0) ((rd_T61 x41 x43).f1) ((rd_T61 x41 x43).f2)).bind fun t235 => (if x3.size + t235.size ≤ 9223372036854775807 then (impl_WritePolicy.l1 k (x3 ++ t235) x11 x12 x13 x41 x42 (wrap64 (x43 + 1))) else (none))) else (none)) else (none)) else (if x3.size + 1 ≤ 9223372036854775807 then (impl_WritePolicy.l0 k (x3 ++ (⟨#[10]⟩ : ByteArray)) x11 x12 (wrap64 (x13 + 1))) else (none))
end
def impl_WritePolicy.f (k : Nat) (l0 : List (S58)) : Option (ByteArray) := (impl_PolicyFault.f k l0).bind fun t227 => (if t227 = 0 then (impl_WritePolicy.l0 k (⟨#[]⟩ : ByteArray) l0 (l0.length : Int) 0) else (some (⟨#[]⟩ : ByteArray)))
theorem impl_WritePolicy.mono_l : ∀ k, (∀ y0 y1 y2 y3, LeO (impl_WritePolicy.l0 k y0 y1 y2 y3) (impl_WritePolicy.l0 (k + 1) y0 y1 y2 y3)) ∧ (∀ y0 y1 y2 y3 y4 y5 y6 y7 y8, LeO (impl_WritePolicy.j1 k y0 y1 y2 y3 y4 y5 y6 y7 y8) (impl_WritePolicy.j1 (k + 1) y0 y1 y2 y3 y4 y5 y6 y7 y8)) ∧ (∀ y0 y1 y2 y3 y4 y5 y6, LeO (impl_WritePolicy.l1 k y0 y1 y2 y3 y4 y5 y6) (impl_WritePolicy.l1 (k + 1) y0 y1 y2 y3 y4 y5 y6))
  | 0 => ⟨fun _ _ _ _ r h => by simp [impl_WritePolicy.l0] at h, fun _ _ _ _ _ _ _ _ _ r h => by simp [impl_WritePolicy.j1] at h, fun _ _ _ _ _ _ _ r h => by simp [impl_WritePolicy.l1] at h⟩
  | k + 1 => by
    obtain ⟨ih0, ih1, ih2⟩ := impl_WritePolicy.mono_l k
    refine ⟨?_, ?_, ?_⟩
    · intro y0 y1 y2 y3
      unfold impl_WritePolicy.l0
      repeat' first
      | (with_reducible exact ih0 _ _ _ _)
      | (with_reducible exact ih1 _ _ _ _ _ _ _ _ _)
      | (with_reducible exact ih2 _ _ _ _ _ _ _)
      | (with_reducible exact impl_PolicyFault.mono _ _)
      | (with_reducible exact LeO.refl _)
      | (with_reducible exact LeO.none _)
      | (with_reducible refine LeO.ite ?_ ?_)
      | (with_reducible refine LeO.bind ?_ (fun _ => ?_))
      | exact ih0 _ _ _ _
      | exact ih1 _ _ _ _ _ _ _ _ _
      | exact ih2 _ _ _ _ _ _ _
      | exact impl_PolicyFault.mono _ _
      | exact LeO.none _
      | refine LeO.ite ?_ ?_
      | refine LeO.bind ?_ (fun _ => ?_)
    · intro y0 y1 y2 y3 y4 y5 y6 y7 y8
      unfold impl_WritePolicy.j1
      repeat' first
      | (with_reducible exact ih0 _ _ _ _)
      | (with_reducible exact ih1 _ _ _ _ _ _ _ _ _)
      | (with_reducible exact ih2 _ _ _ _ _ _ _)
      | (with_reducible exact impl_PolicyFault.mono _ _)
      | (with_reducible exact LeO.refl _)
      | (with_reducible exact LeO.none _)
      | (with_reducible refine LeO.ite ?_ ?_)
      | (with_reducible refine LeO.bind ?_ (fun _ => ?_))
      | exact ih0 _ _ _ _
      | exact ih1 _ _ _ _ _ _ _ _ _
      | exact ih2 _ _ _ _ _ _ _
      | exact impl_PolicyFault.mono _ _
      | exact LeO.none _
      | refine LeO.ite ?_ ?_
      | refine LeO.bind ?_ (fun _ => ?_)
    · intro y0 y1 y2 y3 y4 y5 y6
      unfold impl_WritePolicy.l1
      repeat' first
      | (with_reducible exact ih0 _ _ _ _)
      | (with_reducible exact ih1 _ _ _ _ _ _ _ _ _)
      | (with_reducible exact ih2 _ _ _ _ _ _ _)
      | (with_reducible exact impl_PolicyFault.mono _ _)
      | (with_reducible exact LeO.refl _)
      | (with_reducible exact LeO.none _)
      | (with_reducible refine LeO.ite ?_ ?_)
      | (with_reducible refine LeO.bind ?_ (fun _ => ?_))
      | exact ih0 _ _ _ _
      | exact ih1 _ _ _ _ _ _ _ _ _
      | exact ih2 _ _ _ _ _ _ _
      | exact impl_PolicyFault.mono _ _
      | exact LeO.none _
      | refine LeO.ite ?_ ?_
      | refine LeO.bind ?_ (fun _ => ?_)
theorem impl_WritePolicy.mono : ∀ a0 k, LeO (impl_WritePolicy.f k a0) (impl_WritePolicy.f (k + 1) a0) := by
  intro a0 k
  obtain ⟨ih0, ih1, ih2⟩ := impl_WritePolicy.mono_l k
  unfold impl_WritePolicy.f
  repeat' first
      | (with_reducible exact ih0 _ _ _ _)
      | (with_reducible exact ih1 _ _ _ _ _ _ _ _ _)
      | (with_reducible exact ih2 _ _ _ _ _ _ _)
      | (with_reducible exact impl_PolicyFault.mono _ _)
      | (with_reducible exact LeO.refl _)
      | (with_reducible exact LeO.none _)
      | (with_reducible refine LeO.ite ?_ ?_)
      | (with_reducible refine LeO.bind ?_ (fun _ => ?_))
      | exact ih0 _ _ _ _
      | exact ih1 _ _ _ _ _ _ _ _ _
      | exact ih2 _ _ _ _ _ _ _
      | exact impl_PolicyFault.mono _ _
      | exact LeO.none _
      | refine LeO.ite ?_ ?_
      | refine LeO.bind ?_ (fun _ => ?_)
def impl_WritePolicy.T10 : Bool × List (List Nat × List Nat) := (true, [([], []), ([], []), ([1], [1]), ([2], [2]), ([3], [3]), ([4], [4]), ([], []), ([6], [6]), ([7, 3], [7]), ([5, 8], [5, 8]), ([9], [9]), ([], []), ([11], [11]), ([12, 8], [12]), ([10, 13], [10, 13]), ([0, 14], [0, 14]), ([15, 13, 0, 1, 2, 3, 4, 5, 6, 7, 8, 9, 10, 11, 12, 13, 14, 15], [0, 15])])
def impl_WritePolicy.B10 : List Nat := [0, 0, 2, 6, 14, 30, 0, 64, 206, 510, 1022, 0, 2048, 6606, 16382, 32767, 65535]
theorem impl_WritePolicy.tab10 : rtab .any (opsOf Tryd.f14 10) = impl_WritePolicy.T10 := by kernel_rfl
theorem impl_WritePolicy.bits10 : waitsOk impl_WritePolicy.T10.2 impl_WritePolicy.B10 = true := by kernel_rfl
set_option maxHeartbeats 8000000 in
set_option maxRecDepth 100000 in
theorem impl_WritePolicy.calls (k : Nat) (A0 : Option Addr) (c0 : Nat) (l0 : List (S58)) (r : ByteArray) (w : World) (hr0 : Kd.C k58 w A0 l0.length l0) (hc0 : l0.length ≤ c0) (h : impl_WritePolicy.f k l0 = some r) (hL : LaidAt w) :
  Calls Tryd.prog 14 #[.slice A0 l0.length c0] w fun e w' => e = .returned (.string r) ∧ Below w.heap.size w w' := by
 have HL := Aside0.mk hL
 clear hL
 have hu58 := Tryd.underlying58
 have hu61 := Tryd.underlying61
 have HR0 := Aside0.mk hr0
 have HC0 := Aside0.mk hc0
 clear hr0 hc0
 have HB := Aside0.mk (Below.refl w.heap.size w)
 have H : ((impl_PolicyFault.f k l0).bind fun t227 => (if t227 = 0 then (impl_WritePolicy.l0 k (⟨#[]⟩ : ByteArray) l0 (l0.length : Int) 0) else (some (⟨#[]⟩ : ByteArray)))) = some r := h
 clear h
 replace H := Option.bind_eq_some_iff.mp H
 obtain ⟨t227, A20, H⟩ := H
 replace H : (if t227 = 0 then (impl_WritePolicy.l0 k (⟨#[]⟩ : ByteArray) l0 (l0.length : Int) 0) else (some (⟨#[]⟩ : ByteArray))) = some r := H
 have A2 := Aside0.mk A20
 clear A20
 by_cases c3 : t227 = 0
 rotate_left
 ·
  rw [if_neg c3] at H
  have c3b0 : (t227 == 0) = false := beq_eq_false_iff_ne.mpr c3
  have c3b1 : (t227 != 0) = true := bne_iff_ne.mpr c3
  obtain rfl := Option.some.inj H
  go_enter Tryd.func14, Tryd.ntmps14
  go_wp2_with (first | ((with_reducible refine gate_callee (f := 35) rfl ?_); refine goesL_ (some 9) rfl rfl Tryd.func35 (by kernel_rfl) rfl #[.slice A0 l0.length c0] rfl (by (try simp only [List.map_toArray, List.map_cons, List.map_nil]); first | done | rfl | (simp only [List.length_drop, List.length_take]; rfl)) ?_; (with_reducible refine (impl_PolicyFault.calls k _ _ l0 t227 _ ?side1 ?side2 A2.out).mono ?_); (case side1 => repeat (first | exact HR0.out | (with_reducible refine Kd.C_alloc ?_ _) | (with_reducible refine Kd.C_drewN ?_ _) | (with_reducible refine Kd.C_drew ?_))); (case side2 => exact HC0.out); rintro e w39 ⟨rfl, hb⟩; refine ⟨_, rfl, ?_⟩; have n0_ := Aside0.mk (below_step (by first | exact Grow.bl HB.out | exact HB.out) hb); clear HB; have HB := n0_; clear n0_; (try clear hb); (try clear hb2); (try clear hk); (try clear hi)))
  go_ret
  exact ⟨by first | rfl | (simp [errW_none, errW_some] <;> rfl) | (simp [*, errW_none, errW_some] <;> rfl), by first | exact Grow.bl HB.out | exact HB.out⟩
 rw [if_pos c3] at H
 have c3b0 : (t227 == 0) = true := beq_iff_eq.mpr c3
 have c3b1 : (t227 != 0) = false := bne_eq_false_iff_eq.mpr c3
 clear c3
 have H' := Aside0.mk H
 clear H
 go_enter Tryd.func14, Tryd.ntmps14
 go_wp2_with (first | ((with_reducible refine gate_callee (f := 35) rfl ?_); refine goesL_ (some 9) rfl rfl Tryd.func35 (by kernel_rfl) rfl #[.slice A0 l0.length c0] rfl (by (try simp only [List.map_toArray, List.map_cons, List.map_nil]); first | done | rfl | (simp only [List.length_drop, List.length_take]; rfl)) ?_; (with_reducible refine (impl_PolicyFault.calls k _ _ l0 t227 _ ?side1 ?side2 A2.out).mono ?_); (case side1 => repeat (first | exact HR0.out | (with_reducible refine Kd.C_alloc ?_ _) | (with_reducible refine Kd.C_drewN ?_ _) | (with_reducible refine Kd.C_drew ?_))); (case side2 => exact HC0.out); rintro e w4 ⟨rfl, hb⟩; refine ⟨_, rfl, ?_⟩; have n0_ := Aside0.mk (below_step (by first | exact Grow.bl HB.out | exact HB.out) hb); clear HB; have HB := n0_; clear n0_; (try clear hb); (try clear hb2); (try clear hk); (try clear hi)))
 go_loopg [3, 13] k (fun kq v3 v13 w' => ∃ (x3_1 : ByteArray) (x13_1 : Int), v3 = .string x3_1 ∧ v13 = .int .i64 x13_1 ∧ Aside0 (impl_WritePolicy.l0 kq x3_1 l0 (l0.length : Int) x13_1 = some r) ∧ Aside0 (kq ≤ k) ∧ Aside0 (Below w.heap.size w w'))
 case atStart => exact ⟨((⟨#[]⟩ : ByteArray)), (0), (by first | rfl | (simp; done) | (simp [*]; done)), (by first | rfl | (simp; done) | (simp [*]; done)), H', ⟨Nat.le_refl _⟩, ⟨by first | exact Grow.bl HB.out | exact HB.out⟩⟩
 case round =>
  clear H'
  try clear c1
  try clear p2
  try clear c3
  try clear c3b0
  try clear c3b1
  obtain ⟨x3_1, x13_1, rfl, rfl, HA, HK1, HB⟩ := hrel
  cases gk with
  | zero => exact absurd HA.out (by simp [impl_WritePolicy.l0])
  | succ k1 =>
   have H := HA.out
   clear HA
   simp only [impl_WritePolicy.l0] at H
   by_cases c5 : x13_1 < (l0.length : Int)
   rotate_left
   ·
    rw [if_neg c5] at H
    have c5b0 : decide (x13_1 < (l0.length : Int)) = false := decide_eq_false c5
    clear c5
    by_cases c38 : (x3_1.size : Int) > 10000
    ·
     rw [if_pos c38] at H
     have c38b0 : decide (10000 < (x3_1.size : Int)) = true := decide_eq_true c38
     have c38b1 : decide (10000 < x3_1.size) = true := decide_eq_true (by omega)
     clear c38
     obtain rfl := Option.some.inj H
     go_wp2
     go_ret
     exact ⟨by first | rfl | (simp [errW_none, errW_some] <;> rfl) | (simp [*, errW_none, errW_some] <;> rfl), by first | exact Grow.bl HB.out | exact HB.out⟩
    rw [if_neg c38] at H
    have c38b0 : decide (10000 < (x3_1.size : Int)) = false := decide_eq_false c38
    have c38b1 : decide (10000 < x3_1.size) = false := decide_eq_false (by omega)
    clear c38
    obtain rfl := Option.some.inj H
    go_wp2
    go_ret
    exact ⟨by first | rfl | (simp [errW_none, errW_some] <;> rfl) | (simp [*, errW_none, errW_some] <;> rfl), by first | exact Grow.bl HB.out | exact HB.out⟩
   rw [if_pos c5] at H
   have c5b0 : decide (x13_1 < (l0.length : Int)) = true := decide_eq_true c5
   clear c5
   by_cases c6 : 0 ≤ x13_1
   rotate_left
   ·
    rw [if_neg c6] at H
    exact absurd H (by simp)
   rw [if_pos c6] at H
   have c6b0 : decide (0 ≤ x13_1) = true := decide_eq_true c6
   clear c6
   by_cases c7 : x13_1 < (l0.length : Int)
   rotate_left
   ·
    rw [if_neg c7] at H
    exact absurd H (by simp)
   rw [if_pos c7] at H
   have c7b0 : decide (x13_1 < (l0.length : Int)) = true := decide_eq_true c7
   clear c7
   have HC8 := Aside0.mk H
   clear H
   have p228 : 0 ≤ (x13_1 : Int) := of_decide_eq_true (by first | (with_reducible assumption) | assumption)
   have q228 : x13_1 < (l0.length : Int) := of_decide_eq_true (by first | (with_reducible assumption) | assumption)
   obtain ⟨ad228, A228_1, c228_1, A228_2, c228_2, A228_3, c228_3, A228_4, c228_4, e228, hx228_0, hx228_1, hx228_2, hx228_3, hx228_4, hl228_1, hi228_1, hl228_2, hi228_2, hl228_3, hi228_3, hl228_4, hi228_4⟩ := at_T58 HR0.out x13_1 p228 q228
   cases e228
   replace hx228_0 := Grow.bc HB.out hx228_0
   replace hx228_1 := Grow.bc HB.out hx228_1
   replace hx228_2 := Grow.bc HB.out hx228_2
   replace hx228_3 := Grow.bc HB.out hx228_3
   replace hx228_4 := Grow.bc HB.out hx228_4
   have HR228_1 := Aside0.mk hi228_1
   have HC228_1 := Aside0.mk hl228_1
   clear hi228_1 hl228_1
   have HR228_2 := Aside0.mk hi228_2
   have HC228_2 := Aside0.mk hl228_2
   clear hi228_2 hl228_2
   have HR228_3 := Aside0.mk hi228_3
   have HC228_3 := Aside0.mk hl228_3
   clear hi228_3 hl228_3
   have HR228_4 := Aside0.mk hi228_4
   have HC228_4 := Aside0.mk hl228_4
   clear hi228_4 hl228_4
   replace p228 := eq_true p228
   replace q228 := eq_true q228
   go_upto_if 19 with (first | ((with_reducible refine gate_dst (N := 5) rfl ?_); refine box_event ?hg (N := 5) ?hd (cs := #[.int .i64 0, .slice none 0 0, .slice none 0 0, .slice none 0 0, .slice none 0 0]) (t := 58) ?hr ?_; (case hd => rfl); (case hg => rfl); (case hr => first | (go_simp; done) | (go_simp; rfl)); intro gb229 hg w9 hbox hb; have n0_ := Aside0.mk (below_step (by first | exact Grow.bl HB.out | exact HB.out) hb); have n1_ := Aside0.mk (hbox); have n2_ := Aside0.mk ((by rw [hg]; exact (below_size (by first | exact Grow.bl HB.out | exact HB.out)) : w.heap.size ≤ gb229)); have n3_ := Aside0.mk ((by rw [hg]; exact (below_size (by first | exact Grow.bl HB.out | exact HB.out)) : w.heap.size ≤ gb229)); clear HB; have HB := n0_; have BK229 := n1_; have GW229 := n2_; have GE229 := n3_; clear n0_ n1_ n2_ n3_; clear hb hbox hg; have hcz10_0 : w9.cell? ⟨gb229, 0, none⟩ = some (.int .i64 0) := (blk_cell BK229.out 0).trans rfl; have hcz10_1 : w9.cell? ⟨gb229, 1, none⟩ = some (.slice none 0 0) := (blk_cell BK229.out 1).trans rfl; have hcz10_2 : w9.cell? ⟨gb229, 2, none⟩ = some (.slice none 0 0) := (blk_cell BK229.out 2).trans rfl; have hcz10_3 : w9.cell? ⟨gb229, 3, none⟩ = some (.slice none 0 0) := (blk_cell BK229.out 3).trans rfl; have hcz10_4 : w9.cell? ⟨gb229, 4, none⟩ = some (.slice none 0 0) := (blk_cell BK229.out 4).trans rfl; have hfz10_0 := blk_frozen BK229.out 0; have hfz10_1 := blk_frozen BK229.out 1; have hfz10_2 := blk_frozen BK229.out 2; have hfz10_3 := blk_frozen BK229.out 3; have hfz10_4 := blk_frozen BK229.out 4))
   (try simp only [Act.put, List.setIfInBounds_toArray, List.set_cons_zero, List.set_cons_succ])
   go_cut [3] (fun v3 wc => ∃ (kq : Nat) (x3_7 : ByteArray), v3 = .string x3_7 ∧ Aside0 (impl_WritePolicy.j1 kq x3_7 l0 (l0.length : Int) x13_1 ((rd_T58 l0 x13_1).f0) ((rd_T58 l0 x13_1).f1) ((rd_T58 l0 x13_1).f2) ((rd_T58 l0 x13_1).f3) ((rd_T58 l0 x13_1).f4) = some r) ∧ Aside0 (kq ≤ k1) ∧ Aside0 (wc.heap[gb229]? = some (.cells #[.int .i64 ((rd_T58 l0 x13_1).f0), (.slice A228_1 ((rd_T58 l0 x13_1).f1).length c228_1), (.slice A228_2 ((rd_T58 l0 x13_1).f2).length c228_2), (.slice A228_3 ((rd_T58 l0 x13_1).f3).length c228_3), (.slice A228_4 ((rd_T58 l0 x13_1).f4).length c228_4)] 58 (0, 0))) ∧ Aside0 (Below w.heap.size w wc))
   case first =>
    have H := HC8.out
    clear HC8
    by_cases c11 : ((rd_T58 l0 x13_1).f0) = 1
    rotate_left
    ·
     rw [if_neg c11] at H
     have c11b0 : (((rd_T58 l0 x13_1).f0) == 1) = false := beq_eq_false_iff_ne.mpr c11
     have c11b1 : (((rd_T58 l0 x13_1).f0) != 1) = true := bne_iff_ne.mpr c11
     (first | rw [c11b0] | (simp only [i64_w, i32_w]; rw [c11b0]) | skip)
     by_cases c13 : x3_1.size + 4 ≤ 9223372036854775807
     rotate_left
     ·
      rw [if_neg c13] at H
      exact absurd H (by simp)
     rw [if_pos c13] at H
     have c13b0 := eq_true c13
     have c13b1 : decide (x3_1.size + 4 ≤ 9223372036854775807) = true := decide_eq_true c13
     try have c13b2 : (9223372036854775807 < x3_1.size + 4) = False := eq_false (Nat.not_lt.2 c13)
     have H' := Aside0.mk H
     clear H
     go_wp2
     go_meet
     case rel => exact ⟨_, (x3_1 ++ (⟨#[100, 101, 110, 121]⟩ : ByteArray)), (by first | rfl | (simp; done) | (simp [*]; done)), H', ⟨by have := HK1.out; first | omega | exact Nat.le_refl _⟩, ⟨by (with_reducible repeat (first | refine blk_drewN ?_ _ | refine blk_drew ?_ | refine blk_alloc ?_ _)); refine blk_put (cs := #[.int .i64 ((rd_T58 l0 x13_1).f0), .slice A228_1 ((rd_T58 l0 x13_1).f1).length c228_1, .slice A228_2 ((rd_T58 l0 x13_1).f2).length c228_2, .slice A228_3 ((rd_T58 l0 x13_1).f3).length c228_3, .slice none 0 0]) ?_ 4 _ rfl; (with_reducible repeat (first | refine blk_drewN ?_ _ | refine blk_drew ?_ | refine blk_alloc ?_ _)); refine blk_put (cs := #[.int .i64 ((rd_T58 l0 x13_1).f0), .slice A228_1 ((rd_T58 l0 x13_1).f1).length c228_1, .slice A228_2 ((rd_T58 l0 x13_1).f2).length c228_2, .slice none 0 0, .slice none 0 0]) ?_ 3 _ rfl; (with_reducible repeat (first | refine blk_drewN ?_ _ | refine blk_drew ?_ | refine blk_alloc ?_ _)); refine blk_put (cs := #[.int .i64 ((rd_T58 l0 x13_1).f0), .slice A228_1 ((rd_T58 l0 x13_1).f1).length c228_1, .slice none 0 0, .slice none 0 0, .slice none 0 0]) ?_ 2 _ rfl; (with_reducible repeat (first | refine blk_drewN ?_ _ | refine blk_drew ?_ | refine blk_alloc ?_ _)); refine blk_put (cs := #[.int .i64 ((rd_T58 l0 x13_1).f0), .slice none 0 0, .slice none 0 0, .slice none 0 0, .slice none 0 0]) ?_ 1 _ rfl; (with_reducible repeat (first | refine blk_drewN ?_ _ | refine blk_drew ?_ | refine blk_alloc ?_ _)); refine blk_put (cs := #[.int .i64 0, .slice none 0 0, .slice none 0 0, .slice none 0 0, .slice none 0 0]) ?_ 0 _ rfl; (with_reducible repeat (first | refine blk_drewN ?_ _ | refine blk_drew ?_ | refine blk_alloc ?_ _)); exact BK229.out⟩, ⟨by repeat (first | (with_reducible first | exact HB.out | apply below_alloc | apply pw_below_drewN | apply below_drew1 | refine below_set ?_ GE229.out) | exact HB.out)⟩⟩
    rw [if_pos c11] at H
    have c11b0 : (((rd_T58 l0 x13_1).f0) == 1) = true := beq_iff_eq.mpr c11
    have c11b1 : (((rd_T58 l0 x13_1).f0) != 1) = false := bne_eq_false_iff_eq.mpr c11
    clear c11
    (first | rw [c11b0] | (simp only [i64_w, i32_w]; rw [c11b0]) | skip)
    by_cases c12 : x3_1.size + 5 ≤ 9223372036854775807
    rotate_left
    ·
     rw [if_neg c12] at H
     exact absurd H (by simp)
    rw [if_pos c12] at H
    have c12b0 := eq_true c12
    have c12b1 : decide (x3_1.size + 5 ≤ 9223372036854775807) = true := decide_eq_true c12
    try have c12b2 : (9223372036854775807 < x3_1.size + 5) = False := eq_false (Nat.not_lt.2 c12)
    have H' := Aside0.mk H
    clear H
    go_wp2
    go_meet
    case rel => exact ⟨_, (x3_1 ++ (⟨#[97, 108, 108, 111, 119]⟩ : ByteArray)), (by first | rfl | (simp; done) | (simp [*]; done)), H', ⟨by have := HK1.out; first | omega | exact Nat.le_refl _⟩, ⟨by (with_reducible repeat (first | refine blk_drewN ?_ _ | refine blk_drew ?_ | refine blk_alloc ?_ _)); refine blk_put (cs := #[.int .i64 ((rd_T58 l0 x13_1).f0), .slice A228_1 ((rd_T58 l0 x13_1).f1).length c228_1, .slice A228_2 ((rd_T58 l0 x13_1).f2).length c228_2, .slice A228_3 ((rd_T58 l0 x13_1).f3).length c228_3, .slice none 0 0]) ?_ 4 _ rfl; (with_reducible repeat (first | refine blk_drewN ?_ _ | refine blk_drew ?_ | refine blk_alloc ?_ _)); refine blk_put (cs := #[.int .i64 ((rd_T58 l0 x13_1).f0), .slice A228_1 ((rd_T58 l0 x13_1).f1).length c228_1, .slice A228_2 ((rd_T58 l0 x13_1).f2).length c228_2, .slice none 0 0, .slice none 0 0]) ?_ 3 _ rfl; (with_reducible repeat (first | refine blk_drewN ?_ _ | refine blk_drew ?_ | refine blk_alloc ?_ _)); refine blk_put (cs := #[.int .i64 ((rd_T58 l0 x13_1).f0), .slice A228_1 ((rd_T58 l0 x13_1).f1).length c228_1, .slice none 0 0, .slice none 0 0, .slice none 0 0]) ?_ 2 _ rfl; (with_reducible repeat (first | refine blk_drewN ?_ _ | refine blk_drew ?_ | refine blk_alloc ?_ _)); refine blk_put (cs := #[.int .i64 ((rd_T58 l0 x13_1).f0), .slice none 0 0, .slice none 0 0, .slice none 0 0, .slice none 0 0]) ?_ 1 _ rfl; (with_reducible repeat (first | refine blk_drewN ?_ _ | refine blk_drew ?_ | refine blk_alloc ?_ _)); refine blk_put (cs := #[.int .i64 0, .slice none 0 0, .slice none 0 0, .slice none 0 0, .slice none 0 0]) ?_ 0 _ rfl; (with_reducible repeat (first | refine blk_drewN ?_ _ | refine blk_drew ?_ | refine blk_alloc ?_ _)); exact BK229.out⟩, ⟨by repeat (first | (with_reducible first | exact HB.out | apply below_alloc | apply pw_below_drewN | apply below_drew1 | refine below_set ?_ GE229.out) | exact HB.out)⟩⟩
   case rest =>
    clear HC8
    try clear c1
    try clear c2
    try clear p2
    try clear q2
    try clear hx2
    try clear c3
    try clear c3b0
    try clear c3b1
    try clear c5
    try clear c5b0
    try clear c6
    try clear c6b0
    try clear c7
    try clear c7b0
    try clear c11
    try clear c11b0
    try clear c11b1
    try clear c12
    try clear c12b0
    try clear c12b1
    try clear c12b2
    try clear c13
    try clear c13b0
    try clear c13b1
    try clear c13b2
    try clear hcz10_0
    try clear hcz10_1
    try clear hcz10_2
    try clear hcz10_3
    try clear hcz10_4
    try clear hfz10_0
    try clear hfz10_1
    try clear hfz10_2
    try clear hfz10_3
    try clear hfz10_4
    try clear hx228_0
    try clear hx228_1
    try clear hx228_2
    try clear hx228_3
    try clear hx228_4
    try clear p2
    try clear p228
    try clear q228
    obtain ⟨kq, x3_7, rfl, HA, HJ7, BK229, HB⟩ := hcut
    cases kq with
    | zero => exact absurd HA.out (by simp [impl_WritePolicy.j1])
    | succ kj7 =>
     have H := HA.out
     clear HA
     simp only [impl_WritePolicy.j1] at H
     replace H := Option.bind_eq_some_iff.mp H
     obtain ⟨t230, A140, H⟩ := H
     replace H : (if 5 + t230.size ≤ 9223372036854775807 then (if ((⟨#[32, 119, 104, 111, 32]⟩ : ByteArray) ++ t230).size + 4 ≤ 9223372036854775807 then ((strings_Join.f ((rd_T58 l0 x13_1).f2) (⟨#[44]⟩ : ByteArray)).bind fun t231 => (if (((⟨#[32, 119, 104, 111, 32]⟩ : ByteArray) ++ t230) ++ (⟨#[32, 100, 111, 32]⟩ : ByteArray)).size + t231.size ≤ 9223372036854775807 then (if ((((⟨#[32, 119, 104, 111, 32]⟩ : ByteArray) ++ t230) ++ (⟨#[32, 100, 111, 32]⟩ : ByteArray)) ++ t231).size + 4 ≤ 9223372036854775807 then ((strings_Join.f ((rd_T58 l0 x13_1).f3) (⟨#[44]⟩ : ByteArray)).bind fun t232 => (if (((((⟨#[32, 119, 104, 111, 32]⟩ : ByteArray) ++ t230) ++ (⟨#[32, 100, 111, 32]⟩ : ByteArray)) ++ t231) ++ (⟨#[32, 111, 110, 32]⟩ : ByteArray)).size + t232.size ≤ 9223372036854775807 then (if x3_7.size + ((((((⟨#[32, 119, 104, 111, 32]⟩ : ByteArray) ++ t230) ++ (⟨#[32, 100, 111, 32]⟩ : ByteArray)) ++ t231) ++ (⟨#[32, 111, 110, 32]⟩ : ByteArray)) ++ t232).size ≤ 9223372036854775807 then (impl_WritePolicy.l1 kj7 (x3_7 ++ ((((((⟨#[32, 119, 104, 111, 32]⟩ : ByteArray) ++ t230) ++ (⟨#[32, 100, 111, 32]⟩ : ByteArray)) ++ t231) ++ (⟨#[32, 111, 110, 32]⟩ : ByteArray)) ++ t232)) l0 (l0.length : Int) x13_1 ((rd_T58 l0 x13_1).f4) (((rd_T58 l0 x13_1).f4).length : Int) 0) else (none)) else (none))) else (none)) else (none))) else (none)) else (none)) = some r := H
     have A14 := Aside0.mk A140
     clear A140
     by_cases c15 : 5 + t230.size ≤ 9223372036854775807
     rotate_left
     ·
      rw [if_neg c15] at H
      exact absurd H (by simp)
     rw [if_pos c15] at H
     have c15b0 := eq_true c15
     have c15b1 : decide (5 + t230.size ≤ 9223372036854775807) = true := decide_eq_true c15
     try have c15b2 : (9223372036854775807 < 5 + t230.size) = False := eq_false (Nat.not_lt.2 c15)
     by_cases c16 : ((⟨#[32, 119, 104, 111, 32]⟩ : ByteArray) ++ t230).size + 4 ≤ 9223372036854775807
     rotate_left
     ·
      rw [if_neg c16] at H
      exact absurd H (by simp)
     rw [if_pos c16] at H
     have c16b0 := eq_true c16
     have c16z := c16
     simp only [ByteArray.size_append, show (⟨#[32, 119, 104, 111, 32]⟩ : ByteArray).size = 5 from rfl] at c16z
     have c16z0 := eq_true c16z
     have c16z1 := decide_eq_true c16z
     try have c16z2 := eq_false (Nat.not_lt.2 c16z)
     have c16b1 : decide (((⟨#[32, 119, 104, 111, 32]⟩ : ByteArray) ++ t230).size + 4 ≤ 9223372036854775807) = true := decide_eq_true c16
     try have c16b2 : (9223372036854775807 < ((⟨#[32, 119, 104, 111, 32]⟩ : ByteArray) ++ t230).size + 4) = False := eq_false (Nat.not_lt.2 c16)
     replace H := Option.bind_eq_some_iff.mp H
     obtain ⟨t231, A170, H⟩ := H
     replace H : (if (((⟨#[32, 119, 104, 111, 32]⟩ : ByteArray) ++ t230) ++ (⟨#[32, 100, 111, 32]⟩ : ByteArray)).size + t231.size ≤ 9223372036854775807 then (if ((((⟨#[32, 119, 104, 111, 32]⟩ : ByteArray) ++ t230) ++ (⟨#[32, 100, 111, 32]⟩ : ByteArray)) ++ t231).size + 4 ≤ 9223372036854775807 then ((strings_Join.f ((rd_T58 l0 x13_1).f3) (⟨#[44]⟩ : ByteArray)).bind fun t232 => (if (((((⟨#[32, 119, 104, 111, 32]⟩ : ByteArray) ++ t230) ++ (⟨#[32, 100, 111, 32]⟩ : ByteArray)) ++ t231) ++ (⟨#[32, 111, 110, 32]⟩ : ByteArray)).size + t232.size ≤ 9223372036854775807 then (if x3_7.size + ((((((⟨#[32, 119, 104, 111, 32]⟩ : ByteArray) ++ t230) ++ (⟨#[32, 100, 111, 32]⟩ : ByteArray)) ++ t231) ++ (⟨#[32, 111, 110, 32]⟩ : ByteArray)) ++ t232).size ≤ 9223372036854775807 then (impl_WritePolicy.l1 kj7 (x3_7 ++ ((((((⟨#[32, 119, 104, 111, 32]⟩ : ByteArray) ++ t230) ++ (⟨#[32, 100, 111, 32]⟩ : ByteArray)) ++ t231) ++ (⟨#[32, 111, 110, 32]⟩ : ByteArray)) ++ t232)) l0 (l0.length : Int) x13_1 ((rd_T58 l0 x13_1).f4) (((rd_T58 l0 x13_1).f4).length : Int) 0) else (none)) else (none))) else (none)) else (none)) = some r := H
     have A17 := Aside0.mk A170
     clear A170
     by_cases c18 : (((⟨#[32, 119, 104, 111, 32]⟩ : ByteArray) ++ t230) ++ (⟨#[32, 100, 111, 32]⟩ : ByteArray)).size + t231.size ≤ 9223372036854775807
     rotate_left
     ·
      rw [if_neg c18] at H
      exact absurd H (by simp)
     rw [if_pos c18] at H
     have c18b0 := eq_true c18
     have c18z := c18
     simp only [ByteArray.size_append, show (⟨#[32, 100, 111, 32]⟩ : ByteArray).size = 4 from rfl, show (⟨#[32, 119, 104, 111, 32]⟩ : ByteArray).size = 5 from rfl] at c18z
     have c18z0 := eq_true c18z
     have c18z1 := decide_eq_true c18z
     try have c18z2 := eq_false (Nat.not_lt.2 c18z)
     have c18b1 : decide ((((⟨#[32, 119, 104, 111, 32]⟩ : ByteArray) ++ t230) ++ (⟨#[32, 100, 111, 32]⟩ : ByteArray)).size + t231.size ≤ 9223372036854775807) = true := decide_eq_true c18
     try have c18b2 : (9223372036854775807 < (((⟨#[32, 119, 104, 111, 32]⟩ : ByteArray) ++ t230) ++ (⟨#[32, 100, 111, 32]⟩ : ByteArray)).size + t231.size) = False := eq_false (Nat.not_lt.2 c18)
     by_cases c19 : ((((⟨#[32, 119, 104, 111, 32]⟩ : ByteArray) ++ t230) ++ (⟨#[32, 100, 111, 32]⟩ : ByteArray)) ++ t231).size + 4 ≤ 9223372036854775807
     rotate_left
     ·
      rw [if_neg c19] at H
      exact absurd H (by simp)
     rw [if_pos c19] at H
     have c19b0 := eq_true c19
     have c19z := c19
     simp only [ByteArray.size_append, show (⟨#[32, 100, 111, 32]⟩ : ByteArray).size = 4 from rfl, show (⟨#[32, 119, 104, 111, 32]⟩ : ByteArray).size = 5 from rfl] at c19z
     have c19z0 := eq_true c19z
     have c19z1 := decide_eq_true c19z
     try have c19z2 := eq_false (Nat.not_lt.2 c19z)
     have c19b1 : decide (((((⟨#[32, 119, 104, 111, 32]⟩ : ByteArray) ++ t230) ++ (⟨#[32, 100, 111, 32]⟩ : ByteArray)) ++ t231).size + 4 ≤ 9223372036854775807) = true := decide_eq_true c19
     try have c19b2 : (9223372036854775807 < ((((⟨#[32, 119, 104, 111, 32]⟩ : ByteArray) ++ t230) ++ (⟨#[32, 100, 111, 32]⟩ : ByteArray)) ++ t231).size + 4) = False := eq_false (Nat.not_lt.2 c19)
     replace H := Option.bind_eq_some_iff.mp H
     obtain ⟨t232, A200, H⟩ := H
     replace H : (if (((((⟨#[32, 119, 104, 111, 32]⟩ : ByteArray) ++ t230) ++ (⟨#[32, 100, 111, 32]⟩ : ByteArray)) ++ t231) ++ (⟨#[32, 111, 110, 32]⟩ : ByteArray)).size + t232.size ≤ 9223372036854775807 then (if x3_7.size + ((((((⟨#[32, 119, 104, 111, 32]⟩ : ByteArray) ++ t230) ++ (⟨#[32, 100, 111, 32]⟩ : ByteArray)) ++ t231) ++ (⟨#[32, 111, 110, 32]⟩ : ByteArray)) ++ t232).size ≤ 9223372036854775807 then (impl_WritePolicy.l1 kj7 (x3_7 ++ ((((((⟨#[32, 119, 104, 111, 32]⟩ : ByteArray) ++ t230) ++ (⟨#[32, 100, 111, 32]⟩ : ByteArray)) ++ t231) ++ (⟨#[32, 111, 110, 32]⟩ : ByteArray)) ++ t232)) l0 (l0.length : Int) x13_1 ((rd_T58 l0 x13_1).f4) (((rd_T58 l0 x13_1).f4).length : Int) 0) else (none)) else (none)) = some r := H
     have A20 := Aside0.mk A200
     clear A200
     by_cases c21 : (((((⟨#[32, 119, 104, 111, 32]⟩ : ByteArray) ++ t230) ++ (⟨#[32, 100, 111, 32]⟩ : ByteArray)) ++ t231) ++ (⟨#[32, 111, 110, 32]⟩ : ByteArray)).size + t232.size ≤ 9223372036854775807
     rotate_left
     ·
      rw [if_neg c21] at H
      exact absurd H (by simp)
     rw [if_pos c21] at H
     have c21b0 := eq_true c21
     have c21z := c21
     simp only [ByteArray.size_append, show (⟨#[32, 100, 111, 32]⟩ : ByteArray).size = 4 from rfl, show (⟨#[32, 111, 110, 32]⟩ : ByteArray).size = 4 from rfl, show (⟨#[32, 119, 104, 111, 32]⟩ : ByteArray).size = 5 from rfl] at c21z
     have c21z0 := eq_true c21z
     have c21z1 := decide_eq_true c21z
     try have c21z2 := eq_false (Nat.not_lt.2 c21z)
     have c21b1 : decide ((((((⟨#[32, 119, 104, 111, 32]⟩ : ByteArray) ++ t230) ++ (⟨#[32, 100, 111, 32]⟩ : ByteArray)) ++ t231) ++ (⟨#[32, 111, 110, 32]⟩ : ByteArray)).size + t232.size ≤ 9223372036854775807) = true := decide_eq_true c21
     try have c21b2 : (9223372036854775807 < (((((⟨#[32, 119, 104, 111, 32]⟩ : ByteArray) ++ t230) ++ (⟨#[32, 100, 111, 32]⟩ : ByteArray)) ++ t231) ++ (⟨#[32, 111, 110, 32]⟩ : ByteArray)).size + t232.size) = False := eq_false (Nat.not_lt.2 c21)
     by_cases c22 : x3_7.size + ((((((⟨#[32, 119, 104, 111, 32]⟩ : ByteArray) ++ t230) ++ (⟨#[32, 100, 111, 32]⟩ : ByteArray)) ++ t231) ++ (⟨#[32, 111, 110, 32]⟩ : ByteArray)) ++ t232).size ≤ 9223372036854775807
     rotate_left
     ·
      rw [if_neg c22] at H
      exact absurd H (by simp)
     rw [if_pos c22] at H
     have c22b0 := eq_true c22
     have c22z := c22
     simp only [ByteArray.size_append, show (⟨#[32, 100, 111, 32]⟩ : ByteArray).size = 4 from rfl, show (⟨#[32, 111, 110, 32]⟩ : ByteArray).size = 4 from rfl, show (⟨#[32, 119, 104, 111, 32]⟩ : ByteArray).size = 5 from rfl] at c22z
     have c22z0 := eq_true c22z
     have c22z1 := decide_eq_true c22z
     try have c22z2 := eq_false (Nat.not_lt.2 c22z)
     have c22b1 : decide (x3_7.size + ((((((⟨#[32, 119, 104, 111, 32]⟩ : ByteArray) ++ t230) ++ (⟨#[32, 100, 111, 32]⟩ : ByteArray)) ++ t231) ++ (⟨#[32, 111, 110, 32]⟩ : ByteArray)) ++ t232).size ≤ 9223372036854775807) = true := decide_eq_true c22
     try have c22b2 : (9223372036854775807 < x3_7.size + ((((((⟨#[32, 119, 104, 111, 32]⟩ : ByteArray) ++ t230) ++ (⟨#[32, 100, 111, 32]⟩ : ByteArray)) ++ t231) ++ (⟨#[32, 111, 110, 32]⟩ : ByteArray)) ++ t232).size) = False := eq_false (Nat.not_lt.2 c22)
     have H' := Aside0.mk H
     clear H
     try go_wp2
     have n0_ := Aside0.mk (blk_drew BK229.out)
     have n1_ := Aside0.mk (below_drew1 HB.out)
     clear BK229
     clear HB
     have BK229 := n0_
     have HB := n1_
     clear n0_ n1_
     refine start_ (n := 17) (S := fun w' => w'.cell? ⟨gb229, 0, none⟩ = some (.int .i64 ((rd_T58 l0 x13_1).f0)) ∧ w'.cell? ⟨gb229, 1, none⟩ = some (.slice A228_1 ((rd_T58 l0 x13_1).f1).length c228_1) ∧ w'.cell? ⟨gb229, 2, none⟩ = some (.slice A228_2 ((rd_T58 l0 x13_1).f2).length c228_2) ∧ w'.cell? ⟨gb229, 3, none⟩ = some (.slice A228_3 ((rd_T58 l0 x13_1).f3).length c228_3) ∧ w'.cell? ⟨gb229, 4, none⟩ = some (.slice A228_4 ((rd_T58 l0 x13_1).f4).length c228_4)) (ds := []) zf70 (by kernel_rfl) rfl rfl ⟨(blk_cell BK229.out 0).trans rfl, (blk_cell BK229.out 1).trans rfl, (blk_cell BK229.out 2).trans rfl, (blk_cell BK229.out 3).trans rfl, (blk_cell BK229.out 4).trans rfl⟩ (fun hHeld => ?_); refine with_tabW impl_WritePolicy.tab10 impl_WritePolicy.bits10 (fun HT_ HW_ => ?_)
     generalize wc.drew = w23 at BK229 HB hHeld ⊢
     refine Cap.pu (v := ?_) (a' := ?_) 0 (some 24) zf71 HT_ rfl rfl (by kernel_rfl) (fun _ _ _ h => h) (Or.inl ⟨by rfl, ?_⟩) ?_ ?_; rotate_left; intro w'; go_simp; with_reducible rfl; rotate_left; simp only [Cap.pz]; rfl
     refine Cap.pu (v := ?_) (a' := ?_) 1 (some 25) zf72 HT_ rfl rfl (by kernel_rfl) (fun _ _ _ h => h) (Or.inl ⟨by rfl, ?_⟩) ?_ ?_; rotate_left; intro w'; go_simp; with_reducible rfl; rotate_left; simp only [Cap.pz]; rfl
     refine Cap.pu (v := ?_) (a' := ?_) 6 (some 30) zf73 HT_ rfl rfl (by kernel_rfl) (fun _ _ _ h => h) (Or.inl ⟨by rfl, ?_⟩) ?_ ?_; rotate_left; intro w'; go_simp; with_reducible rfl; rotate_left; simp only [Cap.pz]; rfl
     refine Cap.pu (v := ?_) (a' := ?_) 11 (some 35) zf74 HT_ rfl rfl (by kernel_rfl) (fun _ _ _ h => h) (Or.inl ⟨by rfl, ?_⟩) ?_ ?_; rotate_left; intro w'; go_simp; with_reducible rfl; rotate_left; simp only [Cap.pz]; rfl
     refine take_ (i := 2) (N := some 26) (v := ?_) (a' := ?_) zf75 rfl rfl (take_ofW HT_.out HW_.out (by kernel_rfl)) (fun _ _ _ h => h) (Or.inl ⟨by rfl, ?_⟩) hHeld ?_ ?_; rotate_left; rintro w' ⟨s0, s1, s2, s3, s4⟩; go_simp; with_reducible rfl; rotate_left; simp only [Cap.pz]; rfl
     refine take_ (i := 7) (N := some 31) (v := ?_) (a' := ?_) zf76 rfl rfl (take_ofW HT_.out HW_.out (by kernel_rfl)) (fun _ _ _ h => h) (Or.inl ⟨by rfl, ?_⟩) hHeld ?_ ?_; rotate_left; rintro w' ⟨s0, s1, s2, s3, s4⟩; go_simp; with_reducible rfl; rotate_left; simp only [Cap.pz]; rfl
     refine take_ (i := 12) (N := some 36) (v := ?_) (a' := ?_) zf77 rfl rfl (take_ofW HT_.out HW_.out (by kernel_rfl)) (fun _ _ _ h => h) (Or.inl ⟨by rfl, ?_⟩) hHeld ?_ ?_; rotate_left; rintro w' ⟨s0, s1, s2, s3, s4⟩; go_simp; with_reducible rfl; rotate_left; simp only [Cap.pz]; rfl
     refine one_ (i := 3) (N := some 27) zf78 rfl rfl (one_of HT_.out (by kernel_rfl)) (by decide) (fun K hK => ?_)
     refine goes_ Tryd.func36 (by kernel_rfl) rfl #[.slice A228_1 ((rd_T58 l0 x13_1).f1).length c228_1, .string (⟨#[44]⟩ : ByteArray)] (by rfl) rfl rfl (by (try simp only [List.map_toArray, List.map_cons, List.map_nil]); first | done | rfl | (simp only [List.length_drop, List.length_take]; rfl)) ?_
     with_reducible refine (strings_Join.calls _ _ ((rd_T58 l0 x13_1).f1) (⟨#[44]⟩ : ByteArray) t230 _ ?side1 ?side2 A14.out).mono ?_
     (case side1 => first | exact Grow.cb HR228_1.out HB.out | exact Kd.C_below HR228_1.out HB.out)
     (case side2 => exact HC228_1.out)
     rintro e w24 ⟨rfl, hb⟩
     refine ⟨_, rfl, ?_⟩
     have n0_ := Aside0.mk (blk_below (g := gb229) (o := .cells #[.int .i64 ((rd_T58 l0 x13_1).f0), .slice A228_1 ((rd_T58 l0 x13_1).f1).length c228_1, .slice A228_2 ((rd_T58 l0 x13_1).f2).length c228_2, .slice A228_3 ((rd_T58 l0 x13_1).f3).length c228_3, .slice A228_4 ((rd_T58 l0 x13_1).f4).length c228_4] 58 (0, 0)) (by first | exact Grow.bk BK229.out | exact BK229.out) hb)
     have n1_ := Aside0.mk (below_step (by repeat (first | (with_reducible first | exact HB.out | apply below_alloc | apply pw_below_drewN | apply below_drew1 | refine below_set ?_ GE229.out) | exact HB.out)) hb)
     clear BK229
     clear HB
     have BK229 := n0_
     have HB := n1_
     clear n0_ n1_
     (try clear hb)
     (try clear hb2)
     (try clear hk)
     (try clear hi)
     refine hK.out _ _ ⟨(blk_cell BK229.out 0).trans rfl, (blk_cell BK229.out 1).trans rfl, (blk_cell BK229.out 2).trans rfl, (blk_cell BK229.out 3).trans rfl, (blk_cell BK229.out 4).trans rfl⟩ (fun hHeld => ?_)
     clear hK K
     refine norm_ (a' := ?_) ?_ ?_; rotate_left; show Act.put _ (some 27) _ = _; simp only [Cap.pz]; rfl
     refine Cap.pu (v := ?_) (a' := ?_) 4 (some 28) zf79 HT_ rfl rfl (by kernel_rfl) (fun _ _ _ h => h) (Or.inl ⟨by rfl, ?_⟩) ?_ ?_; rotate_left; intro w'; go_simp; with_reducible rfl; rotate_left; simp only [Cap.pz]; rfl
     refine Cap.pu (v := ?_) (a' := ?_) 5 (some 29) zf80 HT_ rfl rfl (by kernel_rfl) (fun _ _ _ h => h) (Or.inl ⟨by rfl, ?_⟩) ?_ ?_; rotate_left; intro w'; go_simp; with_reducible rfl; rotate_left; simp only [Cap.pz]; rfl
     refine one_ (i := 8) (N := some 32) zf81 rfl rfl (one_of HT_.out (by kernel_rfl)) (by decide) (fun K hK => ?_)
     refine goes_ Tryd.func36 (by kernel_rfl) rfl #[.slice A228_2 ((rd_T58 l0 x13_1).f2).length c228_2, .string (⟨#[44]⟩ : ByteArray)] (by rfl) rfl rfl (by (try simp only [List.map_toArray, List.map_cons, List.map_nil]); first | done | rfl | (simp only [List.length_drop, List.length_take]; rfl)) ?_
     with_reducible refine (strings_Join.calls _ _ ((rd_T58 l0 x13_1).f2) (⟨#[44]⟩ : ByteArray) t231 _ ?side1 ?side2 A17.out).mono ?_
     (case side1 => first | exact Grow.cb HR228_2.out HB.out | exact Kd.C_below HR228_2.out HB.out)
     (case side2 => exact HC228_2.out)
     rintro e w25 ⟨rfl, hb⟩
     refine ⟨_, rfl, ?_⟩
     have n0_ := Aside0.mk (blk_below (g := gb229) (o := .cells #[.int .i64 ((rd_T58 l0 x13_1).f0), .slice A228_1 ((rd_T58 l0 x13_1).f1).length c228_1, .slice A228_2 ((rd_T58 l0 x13_1).f2).length c228_2, .slice A228_3 ((rd_T58 l0 x13_1).f3).length c228_3, .slice A228_4 ((rd_T58 l0 x13_1).f4).length c228_4] 58 (0, 0)) (by first | exact Grow.bk BK229.out | exact BK229.out) hb)
     have n1_ := Aside0.mk (below_step (by repeat (first | (with_reducible first | exact HB.out | apply below_alloc | apply pw_below_drewN | apply below_drew1 | refine below_set ?_ GE229.out) | exact HB.out)) hb)
     clear BK229
     clear HB
     have BK229 := n0_
     have HB := n1_
     clear n0_ n1_
     (try clear hb)
     (try clear hb2)
     (try clear hk)
     (try clear hi)
     refine hK.out _ _ ⟨(blk_cell BK229.out 0).trans rfl, (blk_cell BK229.out 1).trans rfl, (blk_cell BK229.out 2).trans rfl, (blk_cell BK229.out 3).trans rfl, (blk_cell BK229.out 4).trans rfl⟩ (fun hHeld => ?_)
     clear hK K
     refine norm_ (a' := ?_) ?_ ?_; rotate_left; show Act.put _ (some 32) _ = _; simp only [Cap.pz]; rfl
     refine Cap.pu (v := ?_) (a' := ?_) 9 (some 33) zf82 HT_ rfl rfl (by kernel_rfl) (fun _ _ _ h => h) (Or.inl ⟨by rfl, ?_⟩) ?_ ?_; rotate_left; intro w'; go_simp; with_reducible rfl; rotate_left; simp only [Cap.pz]; rfl
     refine Cap.pu (v := ?_) (a' := ?_) 10 (some 34) zf83 HT_ rfl rfl (by kernel_rfl) (fun _ _ _ h => h) (Or.inl ⟨by rfl, ?_⟩) ?_ ?_; rotate_left; intro w'; go_simp; with_reducible rfl; rotate_left; simp only [Cap.pz]; rfl
     refine one_ (i := 13) (N := some 37) zf84 rfl rfl (one_of HT_.out (by kernel_rfl)) (by decide) (fun K hK => ?_)
     refine goes_ Tryd.func36 (by kernel_rfl) rfl #[.slice A228_3 ((rd_T58 l0 x13_1).f3).length c228_3, .string (⟨#[44]⟩ : ByteArray)] (by rfl) rfl rfl (by (try simp only [List.map_toArray, List.map_cons, List.map_nil]); first | done | rfl | (simp only [List.length_drop, List.length_take]; rfl)) ?_
     with_reducible refine (strings_Join.calls _ _ ((rd_T58 l0 x13_1).f3) (⟨#[44]⟩ : ByteArray) t232 _ ?side1 ?side2 A20.out).mono ?_
     (case side1 => first | exact Grow.cb HR228_3.out HB.out | exact Kd.C_below HR228_3.out HB.out)
     (case side2 => exact HC228_3.out)
     rintro e w26 ⟨rfl, hb⟩
     refine ⟨_, rfl, ?_⟩
     have n0_ := Aside0.mk (blk_below (g := gb229) (o := .cells #[.int .i64 ((rd_T58 l0 x13_1).f0), .slice A228_1 ((rd_T58 l0 x13_1).f1).length c228_1, .slice A228_2 ((rd_T58 l0 x13_1).f2).length c228_2, .slice A228_3 ((rd_T58 l0 x13_1).f3).length c228_3, .slice A228_4 ((rd_T58 l0 x13_1).f4).length c228_4] 58 (0, 0)) (by first | exact Grow.bk BK229.out | exact BK229.out) hb)
     have n1_ := Aside0.mk (below_step (by repeat (first | (with_reducible first | exact HB.out | apply below_alloc | apply pw_below_drewN | apply below_drew1 | refine below_set ?_ GE229.out) | exact HB.out)) hb)
     clear BK229
     clear HB
     have BK229 := n0_
     have HB := n1_
     clear n0_ n1_
     (try clear hb)
     (try clear hb2)
     (try clear hk)
     (try clear hi)
     refine hK.out _ _ ⟨(blk_cell BK229.out 0).trans rfl, (blk_cell BK229.out 1).trans rfl, (blk_cell BK229.out 2).trans rfl, (blk_cell BK229.out 3).trans rfl, (blk_cell BK229.out 4).trans rfl⟩ (fun hHeld => ?_)
     clear hK K
     refine norm_ (a' := ?_) ?_ ?_; rotate_left; show Act.put _ (some 37) _ = _; simp only [Cap.pz]; rfl
     refine Cap.pu (v := ?_) (a' := ?_) 14 (some 38) zf85 HT_ rfl rfl (by kernel_rfl) (fun _ _ _ h => h) (Or.inl ⟨by rfl, ?_⟩) ?_ ?_; rotate_left; intro w'; go_simp; with_reducible rfl; rotate_left; simp only [Cap.pz]; rfl
     refine Cap.pu (v := ?_) (a' := ?_) 15 (some 39) zf86 HT_ rfl rfl (by kernel_rfl) (fun _ _ _ h => h) (Or.inl ⟨by rfl, ?_⟩) ?_ ?_; rotate_left; intro w'; go_simp; with_reducible rfl; rotate_left; simp only [Cap.pz]; rfl
     refine Cap.pu (v := ?_) (a' := ?_) 16 (some 3) zf87 HT_ rfl rfl (by kernel_rfl) (fun _ _ _ h => h) (Or.inl ⟨by rfl, ?_⟩) ?_ ?_; rotate_left; intro w'; go_simp; with_reducible rfl; rotate_left; simp only [Cap.pz]; rfl
     refine done_ (done_of HT_.out (by kernel_rfl)) ?_
     have hcz27_0 : w26.cell? ⟨gb229, 0, none⟩ = some (.int .i64 ((rd_T58 l0 x13_1).f0)) := (blk_cell BK229.out 0).trans rfl
     have hcz27_1 : w26.cell? ⟨gb229, 1, none⟩ = some (.slice A228_1 ((rd_T58 l0 x13_1).f1).length c228_1) := (blk_cell BK229.out 1).trans rfl
     have hcz27_2 : w26.cell? ⟨gb229, 2, none⟩ = some (.slice A228_2 ((rd_T58 l0 x13_1).f2).length c228_2) := (blk_cell BK229.out 2).trans rfl
     have hcz27_3 : w26.cell? ⟨gb229, 3, none⟩ = some (.slice A228_3 ((rd_T58 l0 x13_1).f3).length c228_3) := (blk_cell BK229.out 3).trans rfl
     have hcz27_4 : w26.cell? ⟨gb229, 4, none⟩ = some (.slice A228_4 ((rd_T58 l0 x13_1).f4).length c228_4) := (blk_cell BK229.out 4).trans rfl
     have hfz27_0 := blk_frozen BK229.out 0
     have hfz27_1 := blk_frozen BK229.out 1
     have hfz27_2 := blk_frozen BK229.out 2
     have hfz27_3 := blk_frozen BK229.out 3
     have hfz27_4 := blk_frozen BK229.out 4
     try go_wp2
     go_loopg [3, 43] kj7 (fun kq v3 v43 w' => ∃ (x3_3 : ByteArray) (x43_3 : Int), v3 = .string x3_3 ∧ v43 = .int .i64 x43_3 ∧ Aside0 (impl_WritePolicy.l1 kq x3_3 l0 (l0.length : Int) x13_1 ((rd_T58 l0 x13_1).f4) (((rd_T58 l0 x13_1).f4).length : Int) x43_3 = some r) ∧ Aside0 (kq ≤ kj7) ∧ Aside0 (w'.heap[gb229]? = some (.cells #[.int .i64 ((rd_T58 l0 x13_1).f0), (.slice A228_1 ((rd_T58 l0 x13_1).f1).length c228_1), (.slice A228_2 ((rd_T58 l0 x13_1).f2).length c228_2), (.slice A228_3 ((rd_T58 l0 x13_1).f3).length c228_3), (.slice A228_4 ((rd_T58 l0 x13_1).f4).length c228_4)] 58 (0, 0))) ∧ Aside0 (Below w.heap.size w w'))
     case atStart => exact ⟨(x3_7 ++ ((((((⟨#[32, 119, 104, 111, 32]⟩ : ByteArray) ++ t230) ++ (⟨#[32, 100, 111, 32]⟩ : ByteArray)) ++ t231) ++ (⟨#[32, 111, 110, 32]⟩ : ByteArray)) ++ t232)), (0), (by first | rfl | (simp; done) | (simp [*]; done)), (by first | rfl | (simp; done) | (simp [*]; done)), H', ⟨Nat.le_refl _⟩, ⟨by first | exact Grow.bk BK229.out | exact BK229.out⟩, ⟨by repeat (first | (with_reducible first | exact HB.out | apply below_alloc | apply pw_below_drewN | apply below_drew1 | refine below_set ?_ GE229.out) | exact HB.out)⟩⟩
     case round =>
      clear H'
      try clear c1
      try clear c2
      try clear p2
      try clear q2
      try clear hx2
      try clear c3
      try clear c3b0
      try clear c3b1
      try clear c5
      try clear c5b0
      try clear c6
      try clear c6b0
      try clear c7
      try clear c7b0
      try clear c11
      try clear c11b0
      try clear c11b1
      try clear c12
      try clear c12b0
      try clear c12b1
      try clear c12b2
      try clear c13
      try clear c13b0
      try clear c13b1
      try clear c13b2
      try clear c14
      try clear c15
      try clear c15b0
      try clear c15b1
      try clear c15b2
      try clear c16
      try clear c16b0
      try clear c16b1
      try clear c16b2
      try clear c18
      try clear c18b0
      try clear c18b1
      try clear c18b2
      try clear c19
      try clear c19b0
      try clear c19b1
      try clear c19b2
      try clear c21
      try clear c21b0
      try clear c21b1
      try clear c21b2
      try clear c22
      try clear c22b0
      try clear c22b1
      try clear c22b2
      try clear p22
      try clear q22
      try clear hx22
      try clear hcz10_0
      try clear hcz10_1
      try clear hcz10_2
      try clear hcz10_3
      try clear hcz10_4
      try clear hcz27_0
      try clear hcz27_1
      try clear hcz27_2
      try clear hcz27_3
      try clear hcz27_4
      try clear hfz10_0
      try clear hfz10_1
      try clear hfz10_2
      try clear hfz10_3
      try clear hfz10_4
      try clear hfz27_0
      try clear hfz27_1
      try clear hfz27_2
      try clear hfz27_3
      try clear hfz27_4
      try clear hx228_0
      try clear hx228_1
      try clear hx228_2
      try clear hx228_3
      try clear hx228_4
      try clear p2
      try clear p228
      try clear q2
      try clear q228
      obtain ⟨x3_3, x43_3, rfl, rfl, HA, HK3, BK229, HB⟩ := hrel
      cases gk with
      | zero => exact absurd HA.out (by simp [impl_WritePolicy.l1])
      | succ k3 =>
       have H := HA.out
       clear HA
       simp only [impl_WritePolicy.l1] at H
       by_cases c28 : x43_3 < (((rd_T58 l0 x13_1).f4).length : Int)
       rotate_left
       ·
        rw [if_neg c28] at H
        have c28b0 : decide (x43_3 < (((rd_T58 l0 x13_1).f4).length : Int)) = false := decide_eq_false c28
        clear c28
        by_cases c37 : x3_3.size + 1 ≤ 9223372036854775807
        rotate_left
        ·
         rw [if_neg c37] at H
         exact absurd H (by simp)
        rw [if_pos c37] at H
        have c37b0 := eq_true c37
        have c37b1 : decide (x3_3.size + 1 ≤ 9223372036854775807) = true := decide_eq_true c37
        try have c37b2 : (9223372036854775807 < x3_3.size + 1) = False := eq_false (Nat.not_lt.2 c37)
        have H' := Aside0.mk H
        clear H
        go_wp2
        go_roundg k3
        case measure => have := HK1.out; have := HJ7.out; have := HK3.out; omega
        case rel => exact ⟨(x3_3 ++ (⟨#[10]⟩ : ByteArray)), (wrap64 (x13_1 + 1)), (by first | rfl | (simp; done) | (simp [*]; done)), (by first | rfl | (simp; done) | (simp [*]; done)), H', ⟨by have := HK1.out; have := HJ7.out; have := HK3.out; omega⟩, ⟨by repeat (first | (with_reducible first | exact HB.out | apply below_alloc | apply pw_below_drewN | apply below_drew1 | refine below_set ?_ GE229.out) | exact HB.out)⟩⟩
       rw [if_pos c28] at H
       have c28b0 : decide (x43_3 < (((rd_T58 l0 x13_1).f4).length : Int)) = true := decide_eq_true c28
       clear c28
       by_cases c29 : 0 ≤ x43_3
       rotate_left
       ·
        rw [if_neg c29] at H
        exact absurd H (by simp)
       rw [if_pos c29] at H
       have c29b0 : decide (0 ≤ x43_3) = true := decide_eq_true c29
       clear c29
       by_cases c30 : x43_3 < (((rd_T58 l0 x13_1).f4).length : Int)
       rotate_left
       ·
        exact absurd (of_decide_eq_true c28b0) c30
       rw [if_pos c30] at H
       have c30b0 : decide (x43_3 < (((rd_T58 l0 x13_1).f4).length : Int)) = true := decide_eq_true c30
       clear c30
       replace H := Option.bind_eq_some_iff.mp H
       obtain ⟨t235, A310, H⟩ := H
       replace H : (if x3_3.size + t235.size ≤ 9223372036854775807 then (impl_WritePolicy.l1 k3 (x3_3 ++ t235) l0 (l0.length : Int) x13_1 ((rd_T58 l0 x13_1).f4) (((rd_T58 l0 x13_1).f4).length : Int) (wrap64 (x43_3 + 1))) else (none)) = some r := H
       have A31 := Aside0.mk A310
       clear A310
       by_cases c32 : x3_3.size + t235.size ≤ 9223372036854775807
       rotate_left
       ·
        rw [if_neg c32] at H
        exact absurd H (by simp)
       rw [if_pos c32] at H
       have c32b0 := eq_true c32
       have c32b1 : decide (x3_3.size + t235.size ≤ 9223372036854775807) = true := decide_eq_true c32
       try have c32b2 : (9223372036854775807 < x3_3.size + t235.size) = False := eq_false (Nat.not_lt.2 c32)
       have H' := Aside0.mk H
       clear H
       have p233 : 0 ≤ (x43_3 : Int) := of_decide_eq_true (by first | (with_reducible assumption) | assumption)
       have q233 : x43_3 < (((rd_T58 l0 x13_1).f4).length : Int) := of_decide_eq_true (by first | (with_reducible assumption) | assumption)
       obtain ⟨ad233, e233, hx233_0, hx233_1, hx233_2⟩ := at_T61 HR228_4.out x43_3 p233 q233
       cases e233
       replace hx233_0 := Grow.bc HB.out hx233_0
       replace hx233_1 := Grow.bc HB.out hx233_1
       replace hx233_2 := Grow.bc HB.out hx233_2
       replace p233 := eq_true p233
       replace q233 := eq_true q233
       go_wp2_with (first | ((with_reducible refine gate_dst (N := 7) rfl ?_); refine box_event ?hg (N := 7) ?hd (cs := #[.int .i64 0, .string (⟨#[]⟩ : ByteArray), .int .i64 0]) (t := 61) ?hr ?_; (case hd => rfl); (case hg => rfl); (case hr => first | (go_simp; done) | (go_simp; rfl)); intro gb234 hg w33 hbox hb; have n0_ := Aside0.mk (blk_below (g := gb229) (o := .cells #[.int .i64 ((rd_T58 l0 x13_1).f0), .slice A228_1 ((rd_T58 l0 x13_1).f1).length c228_1, .slice A228_2 ((rd_T58 l0 x13_1).f2).length c228_2, .slice A228_3 ((rd_T58 l0 x13_1).f3).length c228_3, .slice (some ad233) ((rd_T58 l0 x13_1).f4).length c228_4] 58 (0, 0)) (by first | exact Grow.bk BK229.out | exact BK229.out) hb); have n1_ := Aside0.mk (below_step (by repeat (first | (with_reducible first | exact HB.out | apply below_alloc | apply pw_below_drewN | apply below_drew1 | refine below_set ?_ GE229.out) | exact HB.out)) hb); have n2_ := Aside0.mk (hbox); have n3_ := Aside0.mk ((by rw [hg]; exact (below_size (by repeat (first | (with_reducible first | exact HB.out | apply below_alloc | apply pw_below_drewN | apply below_drew1 | refine below_set ?_ GE229.out) | exact HB.out))) : w.heap.size ≤ gb234)); have n4_ := Aside0.mk ((by rw [hg]; exact (below_size (by repeat (first | (with_reducible first | exact HB.out | apply below_alloc | apply pw_below_drewN | apply below_drew1 | refine below_set ?_ GE229.out) | exact HB.out))) : w.heap.size ≤ gb234)); have n5_ := Aside0.mk ((by rw [hg]; exact Nat.ne_of_lt (blk_lt (g := gb229) (o := .cells #[.int .i64 ((rd_T58 l0 x13_1).f0), .slice A228_1 ((rd_T58 l0 x13_1).f1).length c228_1, .slice A228_2 ((rd_T58 l0 x13_1).f2).length c228_2, .slice A228_3 ((rd_T58 l0 x13_1).f3).length c228_3, .slice (some ad233) ((rd_T58 l0 x13_1).f4).length c228_4] 58 (0, 0)) (by first | exact Grow.bk BK229.out | exact BK229.out)) : gb229 ≠ gb234)); have n6_ := Aside0.mk ((by rw [hg]; exact Nat.ne_of_gt (blk_lt (g := gb229) (o := .cells #[.int .i64 ((rd_T58 l0 x13_1).f0), .slice A228_1 ((rd_T58 l0 x13_1).f1).length c228_1, .slice A228_2 ((rd_T58 l0 x13_1).f2).length c228_2, .slice A228_3 ((rd_T58 l0 x13_1).f3).length c228_3, .slice (some ad233) ((rd_T58 l0 x13_1).f4).length c228_4] 58 (0, 0)) (by first | exact Grow.bk BK229.out | exact BK229.out)) : gb234 ≠ gb229)); clear BK229; clear HB; have BK229 := n0_; have HB := n1_; have BK234 := n2_; have GW234 := n3_; have GE234 := n4_; have NB229_234 := n5_; have NB234_229 := n6_; clear n0_ n1_ n2_ n3_ n4_ n5_ n6_; clear hb hbox hg; have hnb34 := NB234_229.out; have hnc34 := NB229_234.out; have hcz35_0 : w33.cell? ⟨gb234, 0, none⟩ = some (.int .i64 0) := (blk_cell BK234.out 0).trans rfl; have hcz35_1 : w33.cell? ⟨gb234, 1, none⟩ = some (.string (⟨#[]⟩ : ByteArray)) := (blk_cell BK234.out 1).trans rfl; have hcz35_2 : w33.cell? ⟨gb234, 2, none⟩ = some (.int .i64 0) := (blk_cell BK234.out 2).trans rfl; have hfz35_0 := blk_frozen BK234.out 0; have hfz35_1 := blk_frozen BK234.out 1; have hfz35_2 := blk_frozen BK234.out 2) | ((with_reducible refine gate_callee (f := 37) rfl ?_); refine goesL_ (some 49) rfl rfl Tryd.func37 (by kernel_rfl) rfl #[.agg #[.int .i64 ((rd_T61 ((rd_T58 l0 x13_1).f4) x43_3).f0), .string ((rd_T61 ((rd_T58 l0 x13_1).f4) x43_3).f1), .int .i64 ((rd_T61 ((rd_T58 l0 x13_1).f4) x43_3).f2)]] rfl (by (try simp only [List.map_toArray, List.map_cons, List.map_nil]); first | done | rfl | (simp only [List.length_drop, List.length_take]; rfl)) ?_; (with_reducible refine (impl_writeCondition.calls ((rd_T61 ((rd_T58 l0 x13_1).f4) x43_3).f0) ((rd_T61 ((rd_T58 l0 x13_1).f4) x43_3).f1) ((rd_T61 ((rd_T58 l0 x13_1).f4) x43_3).f2) t235 _ A31.out (HL.out.below (by repeat (first | (with_reducible first | exact HB.out | apply below_alloc | apply pw_below_drewN | apply below_drew1 | refine below_set ?_ GE229.out | refine below_set ?_ GE234.out) | exact HB.out)))).mono ?_); rintro e w36 ⟨rfl, hb⟩; refine ⟨_, rfl, ?_⟩; have n0_ := Aside0.mk (blk_below (g := gb229) (o := .cells #[.int .i64 ((rd_T58 l0 x13_1).f0), .slice A228_1 ((rd_T58 l0 x13_1).f1).length c228_1, .slice A228_2 ((rd_T58 l0 x13_1).f2).length c228_2, .slice A228_3 ((rd_T58 l0 x13_1).f3).length c228_3, .slice (some ad233) ((rd_T58 l0 x13_1).f4).length c228_4] 58 (0, 0)) (by (with_reducible repeat (first | refine blk_drewN ?_ _ | refine blk_drew ?_ | refine blk_alloc ?_ _)); refine blk_far ?_ NB229_234.out _; (with_reducible repeat (first | refine blk_drewN ?_ _ | refine blk_drew ?_ | refine blk_alloc ?_ _)); refine blk_far ?_ NB229_234.out _; (with_reducible repeat (first | refine blk_drewN ?_ _ | refine blk_drew ?_ | refine blk_alloc ?_ _)); refine blk_far ?_ NB229_234.out _; (with_reducible repeat (first | refine blk_drewN ?_ _ | refine blk_drew ?_ | refine blk_alloc ?_ _)); exact BK229.out) hb); have n1_ := Aside0.mk (blk_below (g := gb234) (o := .cells #[.int .i64 ((rd_T61 ((rd_T58 l0 x13_1).f4) x43_3).f0), .string ((rd_T61 ((rd_T58 l0 x13_1).f4) x43_3).f1), .int .i64 ((rd_T61 ((rd_T58 l0 x13_1).f4) x43_3).f2)] 61 (0, 0)) (by (with_reducible repeat (first | refine blk_drewN ?_ _ | refine blk_drew ?_ | refine blk_alloc ?_ _)); refine blk_put (cs := #[.int .i64 ((rd_T61 ((rd_T58 l0 x13_1).f4) x43_3).f0), .string ((rd_T61 ((rd_T58 l0 x13_1).f4) x43_3).f1), .int .i64 0]) ?_ 2 _ rfl; (with_reducible repeat (first | refine blk_drewN ?_ _ | refine blk_drew ?_ | refine blk_alloc ?_ _)); refine blk_put (cs := #[.int .i64 ((rd_T61 ((rd_T58 l0 x13_1).f4) x43_3).f0), .string (⟨#[]⟩ : ByteArray), .int .i64 0]) ?_ 1 _ rfl; (with_reducible repeat (first | refine blk_drewN ?_ _ | refine blk_drew ?_ | refine blk_alloc ?_ _)); refine blk_put (cs := #[.int .i64 0, .string (⟨#[]⟩ : ByteArray), .int .i64 0]) ?_ 0 _ rfl; (with_reducible repeat (first | refine blk_drewN ?_ _ | refine blk_drew ?_ | refine blk_alloc ?_ _)); exact BK234.out) hb); have n2_ := Aside0.mk (below_step (by repeat (first | (with_reducible first | exact HB.out | apply below_alloc | apply pw_below_drewN | apply below_drew1 | refine below_set ?_ GE229.out | refine below_set ?_ GE234.out) | exact HB.out)) hb); clear BK229; clear BK234; clear HB; have BK229 := n0_; have BK234 := n1_; have HB := n2_; clear n0_ n1_ n2_; (try clear hb); (try clear hb2); (try clear hk); (try clear hi)))
       go_roundg k3
       case measure => have := HK1.out; have := HJ7.out; have := HK3.out; omega
       case rel => exact ⟨(x3_3 ++ t235), (wrap64 (x43_3 + 1)), (by first | rfl | (simp; done) | (simp [*]; done)), (by first | rfl | (simp; done) | (simp [*]; done)), H', ⟨by have := HK1.out; have := HJ7.out; have := HK3.out; omega⟩, ⟨by first | exact Grow.bk BK229.out | exact BK229.out⟩, ⟨by repeat (first | (with_reducible first | exact HB.out | apply below_alloc | apply pw_below_drewN | apply below_drew1 | refine below_set ?_ GE229.out | refine below_set ?_ GE234.out) | exact HB.out)⟩⟩

end Go.Proofs.YtepnjhmdcaolkaaDoor.QFnExactWritePolicy
