-- A text of this session, printed by a program of its own (wip/tools: xpatch.py, xprint.sh, mkq.py). No condition.
import Derived.Test.YtcpmlelejlmpdaaQFnCauchyx0
import Derived.Test.YtcpmlelejlmpdaaQFnCauchyx1
import Derived.Test.YtcpmlelejlmpdaaQFnCauchyx4
import Derived.Test.YtcpmlelejlmpdaaQFnCauchyx5
namespace Go.Proofs.Ytcpmlelejlmpdaa.QFnCauchy
open Go.RowKit Go.Proofs.YtcpmlelejlmpdaaW.PrintWords Go.Proofs.YtcpmlelejlmpdaaW.PrintLast Go.Proofs.YtcpmlelejlmpdaaW.PrintMore
attribute [local go_sem] max2_int min2_int max_two min_two max_three min_three max_four min_four   -- for this text's walks alone
set_option linter.unusedVariables false
set_option linter.unusedSimpArgs false

/-! ### impl_MatRank: function 60 -/
/-- A matrix in form. -/
def MxOk (r c : Int) (l : List Int) : Prop := 1 ≤ r ∧ r ≤ 64 ∧ 1 ≤ c ∧ c ≤ 64 ∧ (l.length : Int) = r * c ∧ ∀ x ∈ l, 0 ≤ x ∧ x < 256
instance (r c : Int) (l : List Int) : Decidable (MxOk r c l) := by unfold MxOk; exact inferInstance
/-- Its bytes by row and column. -/
def mxOf (c : Nat) (l : List Int) : Nat → Nat → Nat := fun i k => (rd l ((i * c + k : Nat) : Int)).toNat
/-- The program's MatRank of a matrix in form. -/
def impl_MatRank.f (k : Nat) (a0_0 : Int) (a0_1 : Int) (l0_2 : List Int) : Option (Int) := (impl_MatrixFault.f k a0_0 a0_1 l0_2).bind fun t => (if t = 0 ∧ MxOk a0_0 a0_1 l0_2 then (some ((redGo (mxOf a0_1.toNat l0_2) a0_0.toNat a0_1.toNat a0_1.toNat).2 : Int)) else (none))
theorem impl_MatRank.mono : ∀ a0 a1 a2 k, LeO (impl_MatRank.f k a0 a1 a2) (impl_MatRank.f (k + 1) a0 a1 a2) := by
  intro a0 a1 a2 k
  unfold impl_MatRank.f
  exact LeO.bind (impl_MatrixFault.mono _ _ _ _) (fun _ => LeO.refl _)
set_option maxHeartbeats 8000000 in
set_option maxRecDepth 100000 in
theorem impl_MatRank.callsN (k r c : Nat) (A0_2 : Option Addr) (c0_2 : Nat) (l0_2 : List Int) (hr1 : 1 ≤ r) (hc1 : 1 ≤ c) (hr : r ≤ 64) (hc : c ≤ 64) (hl : l0_2.length = r * c) (hv : ∀ x ∈ l0_2, 0 ≤ x ∧ x < 256) (w : World) (hr0_2 : Kd.C (Kd.int .i64) w A0_2 l0_2.length l0_2) (hc0_2 : l0_2.length ≤ c0_2) (h : impl_MatrixFault.f k r c l0_2 = some 0) :
    Calls Try.prog 60 #[.agg #[.int .i64 (r : Int), .int .i64 (c : Int), .slice A0_2 l0_2.length c0_2]] w fun e w' => e = .returned (.int .i64 ((redGo (mxOf c l0_2) r c c).2 : Int)) ∧ Below w.heap.size w w' := by
  have HL := Aside0.mk hl
  have HV := Aside0.mk hv
  have HR := Aside0.mk hr0_2
  have HF := Aside0.mk h
  clear hl hv hr0_2 h
  go_enter Try.func60, Try.ntmps60
  go_wp2_with (go_at_call 74; (with_reducible refine (impl_MatrixFault.calls k r c A0_2 c0_2 l0_2 0 _ (Kd.C_below HR.out (below_alloc (Below.refl _ w) _)) hc0_2 HF.out).mono ?_); rintro e w7 ⟨rfl, hb_⟩; have BK := Aside0.mk (blk_below (blk_new w (.cells #[.int .i64 (r : Int), .int .i64 (c : Int), .slice A0_2 l0_2.length c0_2] 34)) hb_); have HB := Aside0.mk (below_step (below_alloc (Below.refl _ w) (.cells #[.int .i64 (r : Int), .int .i64 (c : Int), .slice A0_2 l0_2.length c0_2] 34)) hb_); clear hb_)
  have n0_ : Aside0 (w7.drew.heap[w.heap.size]? = some (.cells #[.int .i64 (r : Int), .int .i64 (c : Int), .slice A0_2 l0_2.length c0_2] 34 (0, 0))) := ⟨blk_drew BK.out⟩
  have n1_ : Aside0 (Below w.heap.size w w7.drew) := ⟨below_drew1 HB.out⟩
  clear BK HB
  have BK := n0_
  have HB := n1_
  clear n0_ n1_
  refine start_ (n := 7) (S := fun w' => w'.cell? ⟨w.heap.size, 0, none⟩ = some (.int .i64 (r : Int)) ∧ w'.cell? ⟨w.heap.size, 1, none⟩ = some (.int .i64 (c : Int)) ∧ w'.cell? ⟨w.heap.size, 2, none⟩ = some (.slice A0_2 l0_2.length c0_2)) (ds := []) #[false, false, false, false, false, false, false] (by kernel_rfl) rfl rfl ⟨(blk_cell BK.out 0).trans rfl, (blk_cell BK.out 1).trans rfl, (blk_cell BK.out 2).trans rfl⟩ (fun hHeld => ?_)
  generalize w7.drew = w8 at BK HB hHeld ⊢
  refine take_ (i := 1) (N := some 7) (v := ?_) (a' := ?_) #[false, true, false, false, false, false, false] rfl rfl (by kernel_rfl) (fun _ _ _ h => h) (Or.inl ⟨by rfl, ?_⟩) hHeld ?_ ?_; rotate_left; rintro w' ⟨s0, s1, s2⟩; go_simp; with_reducible rfl; rotate_left; simp only [Cap.pz]; rfl
  refine pure_ (i := 3) (N := some 9) (v := ?_) (a' := ?_) #[false, true, false, true, false, false, false] rfl rfl (by kernel_rfl) (fun _ _ _ h => h) (Or.inl ⟨by rfl, ?_⟩) ?_ ?_; rotate_left; intro w'; go_simp; with_reducible rfl; rotate_left; simp only [Cap.pz]; rfl
  refine take_ (i := 4) (N := some 10) (v := ?_) (a' := ?_) #[false, true, false, true, true, false, false] rfl rfl (by kernel_rfl) (fun _ _ _ h => h) (Or.inl ⟨by rfl, ?_⟩) hHeld ?_ ?_; rotate_left; rintro w' ⟨s0, s1, s2⟩; go_simp; with_reducible rfl; rotate_left; simp only [Cap.pz]; rfl
  refine one_ (i := 0) (N := some 6) #[true, true, false, true, true, false, false] rfl rfl (by kernel_rfl) (by decide) (fun Kq hK => ?_)
  refine goes_ Try.func75 (by kernel_rfl) rfl #[] (by rfl) rfl rfl (by simp) ?_
  with_reducible refine (impl_makeTables8.calls w8).mono ?_
  rintro e w9 ⟨gT, rfl, hgT_, hT_, hb_⟩
  refine ⟨_, rfl, ?_⟩
  have HT := Aside0.mk hT_
  have n0_ : Aside0 (w9.heap[w.heap.size]? = some (.cells #[.int .i64 (r : Int), .int .i64 (c : Int), .slice A0_2 l0_2.length c0_2] 34 (0, 0))) := ⟨blk_below BK.out hb_⟩
  have n1_ : Aside0 (Below w.heap.size w w9) := ⟨below_step HB.out hb_⟩
  clear BK HB
  have BK := n0_
  have HB := n1_
  clear n0_ n1_
  clear hgT_ hT_ hb_
  refine hK.out _ _ ⟨(blk_cell BK.out 0).trans rfl, (blk_cell BK.out 1).trans rfl, (blk_cell BK.out 2).trans rfl⟩ (fun hHeld => ?_)
  clear hK Kq
  refine norm_ (a' := ?_) ?_ ?_; rotate_left; show Act.put _ (some 6) _ = _; simp only [Cap.pz]; rfl
  refine one_ (i := 2) (N := some 8) #[true, true, true, true, true, false, false] rfl rfl (by kernel_rfl) (by decide) (fun Kq hK => ?_)
  refine goes_ Try.func76 (by kernel_rfl) rfl #[.pointer (some ⟨gT, 0, none⟩), .agg #[.int .i64 (r : Int), .int .i64 (c : Int), .slice A0_2 l0_2.length c0_2]] (by rfl) rfl rfl (by simp only [List.map_toArray, List.map_cons, List.map_nil]; rfl) ?_
  with_reducible refine (impl_gridOf.callsN r c gT A0_2 c0_2 l0_2 hr1 hc1 hr hc HL.out HV.out _ (Kd.C_below HR.out HB.out)).mono ?_
  rintro e w10 ⟨g, R, A, cA, rfl, g1_, g2_, g3_, hX_, hb_⟩
  refine ⟨_, rfl, ?_⟩
  have HX := Aside0.mk (hX_.perm (Nat.lt_of_lt_of_le HT.out.lt hb_.size |> fun _ => World.block_lt_of_cell? _ _ hX_.fld) HV.out)
  have HN := Aside0.mk (show gT ≠ A ∧ gT ≠ R from ⟨fun e => by have := HT.out.lt; omega, fun e => by have := HT.out.lt; omega⟩)
  have HW := Aside0.mk (And.intro g3_ g2_)
  have BK9 := BK
  have HB9 := HB
  have H10 := Aside0.mk hb_
  have n0_ : Aside0 (w10.heap[w.heap.size]? = some (.cells #[.int .i64 (r : Int), .int .i64 (c : Int), .slice A0_2 l0_2.length c0_2] 34 (0, 0))) := ⟨blk_below BK.out hb_⟩
  have n1_ : Aside0 (TabInv w10 gT 255) := ⟨HT.out.below hb_⟩
  have n2_ : Aside0 (Below w.heap.size w w10) := ⟨below_step HB.out hb_⟩
  clear BK HT HB
  have BK := n0_
  have HT := n1_
  have HB := n2_
  clear n0_ n1_ n2_
  clear g1_ g2_ g3_ hX_ hb_
  refine hK.out _ _ ⟨(blk_cell BK.out 0).trans rfl, (blk_cell BK.out 1).trans rfl, (blk_cell BK.out 2).trans rfl⟩ (fun hHeld => ?_)
  clear hK Kq
  refine norm_ (a' := ?_) ?_ ?_; rotate_left; show Act.put _ (some 8) _ = _; simp only [Cap.pz]; rfl
  refine one_ (i := 5) (N := some 11) #[true, true, true, true, true, true, false] rfl rfl (by kernel_rfl) (by decide) (fun Kq hK => ?_)
  refine goes_ Try.func107 (by kernel_rfl) rfl #[.pointer (some ⟨g, 0, none⟩), .int .i64 (c : Int), .pointer none] (by rfl) rfl rfl (by simp only [List.map_toArray, List.map_cons, List.map_nil]; rfl) ?_
  with_reducible refine (impl_grid_reduce.callsN g R A r c cA gT _ _ c (Nat.le_refl _) hr1 hc1 hr hc w9 w10 HX.out HT.out HN.out.1 HN.out.2 HW.out.1 HW.out.2 H10.out).mono ?_
  rintro e w11 ⟨rfl, hb_⟩
  refine ⟨_, rfl, ?_⟩
  have n0_ : Aside0 (w11.heap[w.heap.size]? = some (.cells #[.int .i64 (r : Int), .int .i64 (c : Int), .slice A0_2 l0_2.length c0_2] 34 (0, 0))) := ⟨blk_below BK9.out hb_⟩
  have n1_ : Aside0 (Below w.heap.size w w11) := ⟨below_step HB9.out hb_⟩
  clear BK HB
  have BK := n0_
  have HB := n1_
  clear n0_ n1_
  clear hb_
  refine hK.out _ _ ⟨(blk_cell BK.out 0).trans rfl, (blk_cell BK.out 1).trans rfl, (blk_cell BK.out 2).trans rfl⟩ (fun hHeld => ?_)
  clear hK Kq
  refine norm_ (a' := ?_) ?_ ?_; rotate_left; show Act.put _ (some 11) _ = _; simp only [Cap.pz]; rfl
  refine pure_ (i := 6) (N := some 2) (v := ?_) (a' := ?_) #[true, true, true, true, true, true, true] rfl rfl (by kernel_rfl) (fun _ _ _ h => h) (Or.inl ⟨by rfl, ?_⟩) ?_ ?_; rotate_left; intro w'; go_simp; with_reducible rfl; rotate_left; simp only [Cap.pz]; rfl
  refine done_ (by kernel_rfl) ?_
  go_wp2
  go_ret
  exact ⟨rfl, HB.out⟩
theorem impl_MatRank.calls (k : Nat) (a0_0 : Int) (a0_1 : Int) (A0_2 : Option Addr) (c0_2 : Nat) (l0_2 : List Int) (r : Int) (w : World) (hr0_2 : Kd.C (Kd.int .i64) w A0_2 l0_2.length l0_2) (hc0_2 : l0_2.length ≤ c0_2) (h : impl_MatRank.f k a0_0 a0_1 l0_2 = some r) :
    Calls Try.prog 60 #[.agg #[.int .i64 a0_0, .int .i64 a0_1, .slice A0_2 l0_2.length c0_2]] w fun e w' => e = .returned (.int .i64 r) ∧ Below w.heap.size w w' := by
  obtain ⟨t, h1, h2⟩ := Option.bind_eq_some_iff.mp h
  by_cases hc : t = 0 ∧ MxOk a0_0 a0_1 l0_2
  · rw [if_pos hc] at h2
    obtain ⟨rfl, hm⟩ := hc
    obtain ⟨m1, m2, m3, m4, m5, m6⟩ := hm
    obtain ⟨p, rfl⟩ := Int.eq_ofNat_of_zero_le (show 0 ≤ a0_0 by omega)
    obtain ⟨q, rfl⟩ := Int.eq_ofNat_of_zero_le (show 0 ≤ a0_1 by omega)
    obtain rfl := Option.some.inj h2
    exact impl_MatRank.callsN k p q A0_2 c0_2 l0_2 (by omega) (by omega) (by omega) (by omega) (by exact_mod_cast m5) m6 w hr0_2 hc0_2 h1
  · rw [if_neg hc] at h2
    cases h2

/-! ### impl_grid_matrix: function 79 -/
theorem take_rd (L : List Int) (k : Nat) (h : k < L.length) : L.take k ++ [rd L (k : Int)] = L.take (k + 1) := by
  unfold rd
  rw [Int.toNat_natCast, List.getD_eq_getElem?_getD, List.getElem?_eq_getElem h, List.take_add_one, List.getElem?_eq_getElem h]
  rfl
theorem i64_id2 {x : Int} (h0 : 0 ≤ x) (h1 : x < 256) : IntKind.i64.wrap x = x := by rw [IntKind.wrap_i64]; omega
set_option maxHeartbeats 8000000 in
set_option maxRecDepth 100000 in
theorem impl_grid_matrix.callsN (g R A r c cA gT : Nat) (L : List Int) (hr1 : 1 ≤ r) (hc1 : 1 ≤ c) (hr : r ≤ 64) (hc : c ≤ 64) (hv : ∀ x ∈ L, 0 ≤ x ∧ x < 256) (w : World) (hG : GridIn w g R A r c cA gT L) :
    Calls Try.prog 79 #[.pointer (some ⟨g, 0, none⟩)] w fun e w' => ∃ v, e = .returned (.agg #[.int .i64 (r : Int), .int .i64 (c : Int), v]) ∧ Kd.R (Kd.int .i64) 2 w' w.heap.size (fun _ => True) v L ∧ Below w.heap.size w w' := by
  have hrc : r * c ≤ 64 * 64 := Nat.mul_le_mul hr hc
  obtain ⟨cR, hgd⟩ := hG.hd
  have hg0 := hG.rows 0 (by omega)
  unfold rowV at hg0
  rw [Nat.zero_mul, Nat.sub_zero] at hg0
  have HGD := Aside0.mk hgd
  have HG0 := Aside0.mk hg0
  have HG := Aside0.mk hG
  have HV := Aside0.mk (show ∀ k, k < L.length → 0 ≤ rd L (k : Int) ∧ rd L (k : Int) < 256 from fun k hk => by
    unfold rd
    rw [Int.toNat_natCast, List.getD_eq_getElem?_getD, List.getElem?_eq_getElem hk]
    exact hv _ (List.getElem_mem hk))
  have HRC := Aside0.mk hrc
  have hr0 : 0 < r := by omega
  clear hgd hg0 hG hv hrc
  go_enter Try.func79, Try.ntmps79
  go_wp2_with ((with_reducible refine gate_dst (N := 2) rfl ?_); refine box_event ?hg (N := 2) ?hd (cs := #[.int .i64 0, .int .i64 0, .slice none 0 0]) (t := 34) ?hr ?_; (case hd => rfl); (case hg => rfl); (case hr => first | (go_simp; done) | (go_simp; rfl)); intro g2 hg w1 hbox hb; have HB := Aside0.mk hb; have BK2 := Aside0.mk hbox; have GE2 := Aside0.mk (show w.heap.size ≤ g2 by rw [hg]; exact Nat.le_refl _); clear hb hbox hg)
  have n0_ : Aside0 (w1.drew.heap[g2]? = some (.cells #[.int .i64 0, .int .i64 0, .slice none 0 0] 34 (0, 0))) := ⟨blk_drew BK2.out⟩
  have n1_ : Aside0 (Below w.heap.size w w1.drew) := ⟨below_drew1 HB.out⟩
  clear BK2 HB
  have BK2 := n0_
  have HB := n1_
  clear n0_ n1_
  refine start_ (n := 15) (S := fun w' => w'.cell? ⟨g, 0, none⟩ = some (.slice (some ⟨R, 0, none⟩) r cR) ∧ w'.cell? ⟨R, 0, none⟩ = some (.slice (some ⟨A, 0, none⟩) c cA)) (ds := [14]) #[false, false, false, false, false, false, false, false, false, false, false, false, false, false, false] (by kernel_rfl) rfl rfl ⟨pw_cell_below HB.out HGD.out, pw_cell_below HB.out HG0.out⟩ (fun hHeld => ?_)
  generalize w1.drew = w7 at BK2 HB hHeld ⊢
  refine pure_ (i := 0) (N := some 8) (v := ?_) (a' := ?_) #[true, false, false, false, false, false, false, false, false, false, false, false, false, false, false] rfl rfl (by kernel_rfl) (fun _ _ _ h => h) (Or.inl ⟨by rfl, ?_⟩) ?_ ?_; rotate_left; intro w'; go_simp; with_reducible rfl; rotate_left; simp only [Cap.pz]; rfl
  refine pure_ (i := 1) (N := some 9) (v := ?_) (a' := ?_) #[true, true, false, false, false, false, false, false, false, false, false, false, false, false, false] rfl rfl (by kernel_rfl) (fun _ _ _ h => h) (Or.inl ⟨by rfl, ?_⟩) ?_ ?_; rotate_left; intro w'; go_simp; with_reducible rfl; rotate_left; simp only [Cap.pz]; rfl
  refine pure_ (i := 2) (N := some 10) (v := ?_) (a' := ?_) #[true, true, true, false, false, false, false, false, false, false, false, false, false, false, false] rfl rfl (by kernel_rfl) (fun _ _ _ h => h) (Or.inl ⟨by rfl, ?_⟩) ?_ ?_; rotate_left; intro w'; go_simp; with_reducible rfl; rotate_left; simp only [Cap.pz]; rfl
  refine take_ (i := 3) (N := some 11) (v := ?_) (a' := ?_) #[true, true, true, true, false, false, false, false, false, false, false, false, false, false, false] rfl rfl (by kernel_rfl) (fun _ _ _ h => h) (Or.inl ⟨by rfl, ?_⟩) hHeld ?_ ?_; rotate_left; rintro w' ⟨s0, s1⟩; go_simp; with_reducible rfl; rotate_left; simp only [Cap.pz]; rfl
  refine pure_ (i := 4) (N := some 12) (v := ?_) (a' := ?_) #[true, true, true, true, true, false, false, false, false, false, false, false, false, false, false] rfl rfl (by kernel_rfl) (fun _ _ _ h => h) (Or.inl ⟨by rfl, ?_⟩) ?_ ?_; rotate_left; intro w'; go_simp; with_reducible rfl; rotate_left; simp only [Cap.pz]; rfl
  refine pure_ (i := 5) (N := some 13) (v := ?_) (a' := ?_) #[true, true, true, true, true, true, false, false, false, false, false, false, false, false, false] rfl rfl (by kernel_rfl) (fun _ _ _ h => h) (Or.inl ⟨by rfl, ?_⟩) ?_ ?_; rotate_left; intro w'; go_simp; with_reducible rfl; rotate_left; simp only [Cap.pz]; rfl
  refine pure_ (i := 6) (N := some 14) (v := ?_) (a' := ?_) #[true, true, true, true, true, true, true, false, false, false, false, false, false, false, false] rfl rfl (by kernel_rfl) (fun _ _ _ h => h) (Or.inl ⟨by rfl, ?_⟩) ?_ ?_; rotate_left; intro w'; go_simp; with_reducible rfl; rotate_left; simp only [Cap.pz]; rfl
  refine pure_ (i := 7) (N := some 15) (v := ?_) (a' := ?_) #[true, true, true, true, true, true, true, true, false, false, false, false, false, false, false] rfl rfl (by kernel_rfl) (fun _ _ _ h => h) (Or.inl ⟨by rfl, ?_⟩) ?_ ?_; rotate_left; intro w'; go_simp; with_reducible rfl; rotate_left; simp only [Cap.pz]; rfl
  refine take_ (i := 8) (N := some 16) (v := ?_) (a' := ?_) #[true, true, true, true, true, true, true, true, true, false, false, false, false, false, false] rfl rfl (by kernel_rfl) (fun _ _ _ h => h) (Or.inl ⟨by rfl, ?_⟩) hHeld ?_ ?_; rotate_left; rintro w' ⟨s0, s1⟩; go_simp; with_reducible rfl; rotate_left; simp only [Cap.pz]; rfl
  refine pure_ (i := 9) (N := some 17) (v := ?_) (a' := ?_) #[true, true, true, true, true, true, true, true, true, true, false, false, false, false, false] rfl rfl (by kernel_rfl) (fun _ _ _ h => h) (Or.inl ⟨by rfl, ?_⟩) ?_ ?_; rotate_left; intro w'; go_simp; with_reducible rfl; rotate_left; simp only [Cap.pz]; rfl
  refine take_ (i := 10) (N := some 18) (v := ?_) (a' := ?_) #[true, true, true, true, true, true, true, true, true, true, true, false, false, false, false] rfl rfl (by kernel_rfl) (fun _ _ _ h => h) (Or.inl ⟨by rfl, ?_⟩) hHeld ?_ ?_; rotate_left; rintro w' ⟨s0, s1⟩; go_simp; with_reducible rfl; rotate_left; simp only [Cap.pz]; rfl
  refine pure_ (i := 11) (N := some 19) (v := ?_) (a' := ?_) #[true, true, true, true, true, true, true, true, true, true, true, true, false, false, false] rfl rfl (by kernel_rfl) (fun _ _ _ h => h) (Or.inl ⟨by rfl, ?_⟩) ?_ ?_; rotate_left; intro w'; go_simp; with_reducible rfl; rotate_left; simp only [Cap.pz]; rfl
  refine pure_ (i := 12) (N := some 20) (v := ?_) (a' := ?_) #[true, true, true, true, true, true, true, true, true, true, true, true, true, false, false] rfl rfl (by kernel_rfl) (fun _ _ _ h => h) (Or.inl ⟨by rfl, ?_⟩) ?_ ?_; rotate_left; intro w'; go_simp; with_reducible rfl; rotate_left; simp only [Cap.pz]; rfl
  refine one_ (i := 13) (N := some 3) #[true, true, true, true, true, true, true, true, true, true, true, true, true, true, false] rfl rfl (by kernel_rfl) (by decide) (fun Kq hK => ?_)
  refine value_ (w1 := ?_) (v := ?_) (by rfl) rfl ?_ ?_
  rotate_left 2
  · go_simp
    constructor
    · rfl
    · rfl
  refine hK.out _ _ ⟨pw_cell_below (below_alloc HB.out _) HGD.out, pw_cell_below (below_alloc HB.out _) HG0.out⟩ (fun hHeld => ?_)
  clear hK Kq
  refine norm_ (a' := ?_) ?_ ?_; rotate_left; show Act.put _ (some 3) _ = _; simp only [Cap.pz]; rfl
  refine last_ (i := 14) (N := none) #[true, true, true, true, true, true, true, true, true, true, true, true, true, true, true] rfl rfl (by kernel_rfl) (by decide) (fun Kq hK => ?_)
  have hB2_ := below_alloc HB.out (.cells #[.int .i64 0, .int .i64 0, .slice none 0 0] 34 (0, 0))
  have hn_ := blk_new w7 (.cells #[.int .i64 0, .int .i64 0, .slice none 0 0] 34 (0, 0))
  have hsz_ := below_size HB.out
  refine skip_ (w1 := (w7.alloc (.cells #[.int .i64 0, .int .i64 0, .slice none 0 0] 34 (0, 0))).setRow w7.heap.size #[.int .i64 (r : Int), .int .i64 (c : Int), .slice none 0 0]) (by rfl) rfl (grid_put 34 (.tmp 3) (.tmp 20) rfl w7.heap.size _ _ rfl rfl hn_ (by kernel_rfl) rfl (by simp [Value.oneCell'])) ?_
  refine hK.out _ _ ?_
  clear hK Kq
  refine done_ (by kernel_rfl) ?_
  have n0_ : Aside0 (((w7.alloc (.cells #[.int .i64 0, .int .i64 0, .slice none 0 0] 34 (0, 0))).setRow w7.heap.size #[.int .i64 (r : Int), .int .i64 (c : Int), .slice none 0 0]).heap[w7.heap.size]? = some (.cells #[.int .i64 (r : Int), .int .i64 (c : Int), .slice none 0 0] 34 (0, 0))) := ⟨setRow_heap _ _ _ _ 34 (0, 0) hn_⟩
  have n1_ : Aside0 (Below w.heap.size w ((w7.alloc (.cells #[.int .i64 0, .int .i64 0, .slice none 0 0] 34 (0, 0))).setRow w7.heap.size #[.int .i64 (r : Int), .int .i64 (c : Int), .slice none 0 0])) := ⟨grid_row hB2_ hsz_ _⟩
  have n2_ : Aside0 (((w7.alloc (.cells #[.int .i64 0, .int .i64 0, .slice none 0 0] 34 (0, 0))).setRow w7.heap.size #[.int .i64 (r : Int), .int .i64 (c : Int), .slice none 0 0]).heap[g2]? = some (.cells #[.int .i64 0, .int .i64 0, .slice none 0 0] 34 (0, 0))) := ⟨(setRow_other _ _ _ _ (Nat.ne_of_lt (blk_lt BK2.out))).trans (blk_alloc BK2.out _)⟩
  have NE2 := Aside0.mk (Nat.ne_of_lt (blk_lt BK2.out))
  have GEm := Aside0.mk hsz_
  clear HB BK2 hHeld hB2_ hn_ hsz_
  generalize w7.heap.size = gm at n0_ n1_ n2_ NE2 GEm ⊢
  generalize (w7.alloc (.cells #[.int .i64 0, .int .i64 0, .slice none 0 0] 34 (0, 0))).setRow gm #[.int .i64 (r : Int), .int .i64 (c : Int), .slice none 0 0] = w8 at n0_ n1_ n2_ ⊢
  have BKm := n0_
  have HB := n1_
  have BK2 := n2_
  clear n0_ n1_ n2_
  have hgd := pw_cell_below HB.out HGD.out
  go_wp2
  clear hgd
  go_loopw [26] (fun v26 wr => ∃ (i : Nat) (vL : Value), i ≤ r ∧ v26 = .int .i64 (i : Int) ∧ Aside0 (wr.heap[gm]? = some (.cells #[.int .i64 (r : Int), .int .i64 (c : Int), vL] 34 (0, 0))) ∧ Aside0 (wr.heap[g2]? = some (.cells #[.int .i64 0, .int .i64 0, .slice none 0 0] 34 (0, 0))) ∧ Aside0 ((Kd.int .i64).R 2 wr w.heap.size (fun k => k ≠ gm ∧ k ≠ g2) vL (L.take (i * c))) ∧ Aside0 (Below w.heap.size w wr)) (fun v26 _ => r - (intOf v26).toNat)
  case atStart => exact ⟨0, _, Nat.zero_le _, rfl, BKm, BK2, ⟨by rw [Nat.zero_mul, List.take_zero]; exact Kd.R_nil _ _ _ _ _⟩, HB⟩
  case round =>
    clear HB BKm BK2
    obtain ⟨i, vL, hi, rfl, BKm, BK2, HR, HB⟩ := hrel
    by_cases hlt : i < r
    · have hgr := pw_cell_below HB.out (HG.out.rows i hlt)
      obtain ⟨m1, m2⟩ := mul_lt hlt hc1
      obtain ⟨p, hp⟩ : ∃ p, i * c = p := ⟨_, rfl⟩
      unfold rowV at hgr
      rw [hp] at hgr m1 m2 HR
      have HP := Aside0.mk hp
      have HM := Aside0.mk m2
      clear hp m1 m2
      go_wp2
      clear hgr
      go_loopw [32] (fun v32 wr => ∃ (j : Nat) (vL : Value), j ≤ c ∧ v32 = .int .i64 (j : Int) ∧ Aside0 (wr.heap[gm]? = some (.cells #[.int .i64 (r : Int), .int .i64 (c : Int), vL] 34 (0, 0))) ∧ Aside0 (wr.heap[g2]? = some (.cells #[.int .i64 0, .int .i64 0, .slice none 0 0] 34 (0, 0))) ∧ Aside0 ((Kd.int .i64).R 2 wr w.heap.size (fun k => k ≠ gm ∧ k ≠ g2) vL (L.take (p + j))) ∧ Aside0 (Below w.heap.size w wr)) (fun v32 _ => c - (intOf v32).toNat)
      case atStart => exact ⟨0, _, Nat.zero_le _, rfl, BKm, BK2, HR, HB⟩
      case round =>
        clear HB BKm BK2 HR
        obtain ⟨j, vL, hj, rfl, BKm, BK2, HR, HB⟩ := hrel
        by_cases hlj : j < c
        · have hpj : p + j < r * c := by have := HM.out; omega
          have hce := pw_cell_below HB.out (HG.out.cell (p + j) hpj)
          have HPJ := Aside0.mk (show p + j < L.length by rw [HG.out.len]; exact hpj)
          have hxb := HV.out (p + j) HPJ.out
          obtain ⟨x, hx⟩ : ∃ x, rd L ((p + j : Nat) : Int) = x := ⟨_, rfl⟩
          rw [hx] at hce hxb
          have HX := Aside0.mk hx
          have hid := i64_id2 hxb.1 hxb.2
          have hcz := (blk_cell BKm.out 2).trans rfl
          have HTL := Aside0.mk (show ((L.take (p + j)).length + 1) * 8 ≤ 140737488355328 by rw [List.length_take]; have := HRC.out; omega)
          have hmz : wr.cell? ⟨gm, 2, none⟩ = some vL := (blk_cell BKm.out 2).trans rfl
          clear hx hpj hcz
          go_wp2_with ((with_reducible refine gate_dst (N := 41) rfl ?_); refine Kd.R_append (Kd.int .i64) (w0 := w) w.heap.size rfl (.tmp 37) (.tmp 40) 24 2 (.int .i64 0) 8 rfl Try.underlying24 (by kernel_rfl) rfl (by decide) (by omega) vL (L.take (p + j)) x [.int .i64 x] (fun k => k ≠ gm ∧ k ≠ g2) (fun _ => False) rfl rfl rfl (fun _ hk => hk.elim) (fun k hk => (by have h1 := blk_lt BKm.out; have h2 := blk_lt BK2.out; omega)) HR.out HB.out (below_size HB.out) (by have := HTL.out; omega) ?_; intro vL2 w8 ho hb hg hat; have nM_ : some gm ≠ vL.ownBlock := (fun e => (HR.out.1 gm e.symm).1 rfl); have n2_ : some g2 ≠ vL.ownBlock := (fun e => (HR.out.1 g2 e.symm).2 rfl); rw [← HX.out, take_rd L (p + j) HPJ.out] at ho; have n0_ : Aside0 (w8.heap[gm]? = some (.cells #[.int .i64 (r : Int), .int .i64 (c : Int), vL] 34 (0, 0))) := ⟨blk_grown BKm.out hg nM_⟩; have n1_ : Aside0 (w8.heap[g2]? = some (.cells #[.int .i64 0, .int .i64 0, .slice none 0 0] 34 (0, 0))) := ⟨blk_grown BK2.out hg n2_⟩; have n2_ : Aside0 (((Kd.int .i64).R 2 w8 w.heap.size (fun k => k ≠ gm ∧ k ≠ g2) vL2 (L.take (p + j + 1)))) := ⟨ho⟩; have n3_ : Aside0 (Below w.heap.size w w8) := ⟨hb⟩; clear BKm BK2 HR HB; have BKm := n0_; have BK2 := n1_; have HR := n2_; have HB := n3_; clear n0_ n1_ n2_ n3_; clear ho hb hg hat nM_ n2_; obtain ⟨AL2, cL2, eL2⟩ := Kd.R_slice HR.out; have hlen_ : (L.take (p + j + 1)).length = p + j + 1 := (by rw [List.length_take]; have := HPJ.out; omega); rw [hlen_] at eL2; clear hlen_; subst eL2; have hcm : w8.cell? ⟨gm, 2, none⟩ = some vL := (blk_cell BKm.out 2).trans rfl; have hfm := blk_frozen BKm.out 2)
          clear hcm hfm
          go_roundw
          case rel => exact ⟨j + 1, _, by omega, by go_num, ⟨blk_put BKm.out 2 _ rfl⟩, ⟨blk_far BK2.out NE2.out _⟩, ⟨Kd.R_step HR.out (fun k ho _ => Below.heap_setCell _ _ _ k ho.1)⟩, ⟨below_set HB.out GEm.out⟩⟩
          case measure => simp [intOf]; omega
        · have ej : j = c := by omega
          go_wp2
          go_roundw
          case rel => exact ⟨i + 1, _, by omega, by go_num, BKm, BK2, ⟨by have h := HR.out; rw [ej, ← HP.out, ← Nat.succ_mul] at h; exact h⟩, HB⟩
          case measure => simp [intOf]; omega
    · have ei : i = r := by omega
      have hL := HR.out
      rw [ei, ← HG.out.len, List.take_length] at hL
      obtain ⟨AL, cL, eL⟩ := Kd.R_slice hL
      subst eL
      have HL := Aside0.mk hL
      clear hL HR
      have hm0 : wr.cell? ⟨gm, 0, none⟩ = some (.int .i64 (r : Int)) := (blk_cell BKm.out 0).trans rfl
      have hm1 : wr.cell? ⟨gm, 1, none⟩ = some (.int .i64 (c : Int)) := (blk_cell BKm.out 1).trans rfl
      have hm2 : wr.cell? ⟨gm, 2, none⟩ = some (.slice AL L.length cL) := (blk_cell BKm.out 2).trans rfl
      have h20 : wr.cell? ⟨g2, 0, none⟩ = some (.int .i64 0) := (blk_cell BK2.out 0).trans rfl
      have h21 : wr.cell? ⟨g2, 1, none⟩ = some (.int .i64 0) := (blk_cell BK2.out 1).trans rfl
      have h22 : wr.cell? ⟨g2, 2, none⟩ = some (.slice none 0 0) := (blk_cell BK2.out 2).trans rfl
      have f20 := blk_frozen BK2.out 0
      have f21 := blk_frozen BK2.out 1
      have f22 := blk_frozen BK2.out 2
      go_wp2
      refine bodyPost_ret (results_cell_row rfl _ _ g2 34 #[.int .i64 (r : Int), .int .i64 (c : Int), .slice AL L.length cL] (0, 0) _ rfl (by refine blk_put (cs := #[.int .i64 (r : Int), .int .i64 (c : Int), .slice none 0 0]) ?_ 2 _ rfl; refine blk_put (cs := #[.int .i64 (r : Int), .int .i64 0, .slice none 0 0]) ?_ 1 _ rfl; refine blk_put (cs := #[.int .i64 0, .int .i64 0, .slice none 0 0]) ?_ 0 _ rfl; exact BK2.out) Try.underlying34 rfl (by kernel_rfl)) rfl ?_
      exact ⟨_, rfl, Kd.R_mono (Kd.R_step (Kd.R_step (Kd.R_step HL.out (fun k ho _ => Below.heap_setCell _ _ _ k ho.2)) (fun k ho _ => Below.heap_setCell _ _ _ k ho.2)) (fun k ho _ => Below.heap_setCell _ _ _ k ho.2)) (fun _ _ => trivial), below_set (below_set (below_set HB.out GE2.out) GE2.out) GE2.out⟩

end Go.Proofs.Ytcpmlelejlmpdaa.QFnCauchy
