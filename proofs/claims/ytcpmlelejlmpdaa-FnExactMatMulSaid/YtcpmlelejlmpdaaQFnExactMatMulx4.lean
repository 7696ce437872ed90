-- A text of this session, printed by a program of its own (wip/tools: xpatch.py, xprint.sh, mkq.py). No condition.
import Derived.Test.YtcpmlelejlmpdaaQFnExactMatMulx0
import Derived.Test.YtcpmlelejlmpdaaQFnExactMatMulx3
namespace Go.Proofs.Ytcpmlelejlmpdaa.QFnExactMatMul
open Go.RowKit Go.Proofs.YtcpmlelejlmpdaaW.PrintWords Go.Proofs.YtcpmlelejlmpdaaW.PrintLast Go.Proofs.YtcpmlelejlmpdaaW.PrintMore
attribute [local go_sem] max2_int min2_int max_two min_two max_three min_three max_four min_four   -- for this text's walks alone
set_option linter.unusedVariables false
set_option linter.unusedSimpArgs false

/-! ### impl_newGrid: function 77 -/
def rowV (A c cA i : Nat) : Value := .slice (some ⟨A, i * c, none⟩) c (cA - i * c)
/-- A grid in memory: its rows are cuts of one array. -/
structure GridIn (W : World) (g R A r c cA : Nat) (gT : Nat) (L : List Int) : Prop where
  hd : ∃ cR, W.cell? ⟨g, 0, none⟩ = some (.slice (some ⟨R, 0, none⟩) r cR)
  fld : W.cell? ⟨g, 1, none⟩ = some (.pointer (some ⟨gT, 0, none⟩))
  rows : ∀ i, i < r → W.cell? ⟨R, i, none⟩ = some (rowV A c cA i)
  len : L.length = r * c
  cell : ∀ k, k < r * c → W.cell? ⟨A, k, none⟩ = some (.int .u8 (rd L (k : Int)))
  free : ∀ k, k < r * c → W.frozen? ⟨A, k, none⟩ = false
  gR : g ≠ R
  gA : g ≠ A
  RA : R ≠ A
  Alt : A < W.heap.size
  cap : r * c ≤ cA
theorem GridIn.below {W W' : World} {g R A r c cA : Nat} {gT : Nat} {L : List Int} (h : GridIn W g R A r c cA gT L) (hb : Below W.heap.size W W') : GridIn W' g R A r c cA gT L where
  hd := by obtain ⟨cR, h1⟩ := h.hd; exact ⟨cR, pw_cell_below hb h1⟩
  fld := pw_cell_below hb h.fld
  rows := fun i hi => pw_cell_below hb (h.rows i hi)
  len := h.len
  cell := fun k hk => pw_cell_below hb (h.cell k hk)
  free := fun k hk => (hb.frozen (p := ⟨A, k, none⟩) h.Alt).trans (h.free k hk)
  gR := h.gR
  gA := h.gA
  RA := h.RA
  Alt := Nat.lt_of_lt_of_le h.Alt hb.size
  cap := h.cap
theorem rd_set_same (L : List Int) (k : Nat) (v : Int) (h : k < L.length) : rd (L.set k v) (k : Int) = v := by
  unfold rd
  rw [Int.toNat_natCast, List.getD_eq_getElem?_getD, List.getElem?_set, if_pos rfl, if_pos h]; rfl
theorem rd_set_other (L : List Int) (k j : Nat) (v : Int) (h : k ≠ j) : rd (L.set k v) (j : Int) = rd L (j : Int) := by
  unfold rd
  rw [Int.toNat_natCast, List.getD_eq_getElem?_getD, List.getD_eq_getElem?_getD, List.getElem?_set, if_neg h]
theorem GridIn.put {W : World} {g R A r c cA : Nat} {gT : Nat} {L : List Int} (h : GridIn W g R A r c cA gT L) (k : Nat) (hk : k < r * c) (v : Int) : GridIn (W.setCell ⟨A, k, none⟩ (.int .u8 v)) g R A r c cA gT (L.set k v) where
  hd := by obtain ⟨cR, h1⟩ := h.hd; exact ⟨cR, (World.cell?_setCell_far _ _ _ _ (fun e => h.gA e.symm)).trans h1⟩
  fld := (World.cell?_setCell_far _ _ _ _ (fun e => h.gA e.symm)).trans h.fld
  rows := fun i hi => (World.cell?_setCell_far _ _ _ _ (fun e => h.RA e.symm)).trans (h.rows i hi)
  len := by rw [List.length_set]; exact h.len
  cell := fun j hj => by
    by_cases e : k = j
    · subst e
      rw [World.cell?_setCell_same' _ _ _ (by rw [h.cell k hk]; rfl), rd_set_same _ _ _ (by rw [h.len]; exact hk)]
    · rw [World.cell?_setCell_other _ _ _ _ (fun x => e (by injection x)), rd_set_other _ _ _ _ e]
      exact h.cell j hj
  free := fun j hj => by rw [World.frozen?_setCell]; exact h.free j hj
  gR := h.gR
  gA := h.gA
  RA := h.RA
  Alt := by rw [World.size_setCell]; exact h.Alt
  cap := h.cap
/-- A whole struct written. -/
theorem grid_put {W : World} {oi : Oper} {a : Act} (ty : TypeId) (x y : Operand) (ho : oi.op = .store ty x y) (g : Nat) (old cells : Array Value) (hx : a.eval x = .pointer (some ⟨g, 0, none⟩)) (hy : a.eval y = .agg cells)
    (hb : W.heap[g]? = some (.cells old ty (0, 0))) (hi : (Try.prog.info? ty).map (·.size) = some cells.size) (hs : old.size = cells.size) (h1 : cells.all (·.oneCell') = true) : (execOp a.eval oi).run Try.prog W = .ok .skip (W.setRow g cells) := by
  unfold execOp
  simp only [ho, hx, hy, Instr.storeAt, Instr.sureAddr, Sem.run_bind, Sem.run_pure, Result.andThen_ok, run_storeVar_row W g ty ty old cells hb hi hs h1]
theorem grid_row {w W : World} (h : Below w.heap.size w W) {g : Nat} (hg : w.heap.size ≤ g) (cs : Array Value) : Below w.heap.size w (W.setRow g cs) :=
  ⟨h.os, h.tape, h.output, by rw [setRow_size]; exact h.size, fun i hi => (setRow_other W g i cs (by omega)).trans (h.block i hi)⟩
def rowVs (A c cA n : Nat) : List (List Value) := (List.range n).map fun i => [rowV A c cA i]
theorem rowVs_len (A c cA n : Nat) : (rowVs A c cA n).length = n := by simp [rowVs]
theorem rowVs_succ (A c cA n : Nat) : rowVs A c cA n ++ [[rowV A c cA n]] = rowVs A c cA (n + 1) := by unfold rowVs; rw [List.range_succ, List.map_append]; rfl
theorem ng_w0 {i : Nat} (h : i ≤ 64) : IntKind.i64.wrap ((i : Int) + 1) = ((i + 1 : Nat) : Int) := by rw [IntKind.wrap_i64]; omega
theorem ng_w1 {i c p : Nat} (h : i * c = p) (hp : p ≤ 4096) : IntKind.i64.wrap ((i : Int) * (c : Int)) = (p : Int) := by rw [← Int.natCast_mul, h, IntKind.wrap_i64]; omega
theorem ng_w2 {i c p q : Nat} (h : i * c = p) (hq : p + c = q) (hp : q ≤ 4096) : wrap64 (((i : Int) + 1) * (c : Int)) = (q : Int) := by
  rw [show ((i : Int) + 1) = ((i + 1 : Nat) : Int) by omega, ← Int.natCast_mul, Nat.succ_mul, h]; unfold wrap64; omega
theorem mul_lt {i r c : Nat} (h : i < r) (hc : 1 ≤ c) : i * c < r * c ∧ i * c + c ≤ r * c := by
  have := Nat.mul_le_mul_right c h
  rw [Nat.succ_mul] at this
  omega

set_option maxHeartbeats 8000000 in
set_option maxRecDepth 100000 in
theorem impl_newGrid.callsN (r c : Nat) (gT : Nat) (hr1 : 1 ≤ r) (hc1 : 1 ≤ c) (hr : r ≤ 64) (hc : c ≤ 64) (w : World) :
    Calls Try.prog 77 #[.pointer (some ⟨gT, 0, none⟩), .int .i64 (r : Int), .int .i64 (c : Int)] w fun e w' => ∃ g R A cA, e = .returned (.pointer (some ⟨g, 0, none⟩)) ∧ w.heap.size ≤ g ∧ w.heap.size ≤ R ∧ w.heap.size ≤ A ∧ GridIn w' g R A r c cA gT (List.replicate (r * c) 0) ∧ Below w.heap.size w w' := by
  have hrc : r * c ≤ 64 * 64 := Nat.mul_le_mul hr hc
  have hrc1 : 1 * 1 ≤ r * c := Nat.mul_le_mul hr1 hc1
  obtain ⟨n, hn⟩ : ∃ n, r * c = n := ⟨_, rfl⟩
  have hwn : (r : Int) * (c : Int) = (n : Int) := by rw [← Int.natCast_mul, hn]
  rw [hn] at hrc hrc1
  have HN := Aside0.mk hn
  clear hn
  have hn1 : 1 ≤ n := by omega
  have hn2 : n ≤ 4096 := by omega
  clear hrc hrc1
  go_enter Try.func77, Try.ntmps77
  go_wp2_with (first | ((with_reducible refine gate_dst (N := 12) rfl ?_); refine box_event ?hg (N := 12) ?hd (cs := #[.slice none 0 0, .pointer (some ⟨gT, 0, none⟩)]) (t := 108) ?hr ?_; (case hd => rfl); (case hg => rfl); (case hr => first | (go_simp; done) | (go_simp; rfl)); intro gp hg w1 hbox hb; have HB := Aside0.mk hb; have BKp := Aside0.mk hbox; have GEp := Aside0.mk (show w.heap.size ≤ gp by rw [hg]; exact Nat.le_refl _); clear hb hbox hg) | ((with_reducible refine gate_dst (N := 16) rfl ?_); refine Kd.R_make (Kd.int .u8) (w0 := w) w.heap.size 5 rfl (N := 16) rfl 78 _ _ rfl (n : Int) rfl rfl Try.underlying78 (.int .u8 0) 1 (by kernel_rfl) rfl (by decide) (by omega) 0 (ok := fun _ => True) (okp := fun _ => True) rfl (fun _ hk => hk) trivial (by omega) (by rw [Int.toNat_natCast]; omega) HB.out (below_size HB.out) ?_; intro v1 w2 ho hb2 hg_ hnew_; rw [Int.toNat_natCast] at ho; obtain ⟨gO, cO, eO, hgO, hlO, cellsO, hcO⟩ := Kd.R_form ho (by rw [List.length_replicate]; omega); rw [List.length_replicate] at eO; subst eO; have hpO : gp ≠ gO := (by obtain ⟨b_, hb_, hs_⟩ := hnew_; simp [Value.ownBlock] at hb_; have := blk_lt BKp.out; omega); have NPO := Aside0.mk hpO; obtain ⟨z1_, hcO2, z2_⟩ := Kd.R_reads' ho; clear z1_ z2_; have HCO := Aside0.mk hcO2; have n0_ := Aside0.mk hb2; have n1_ := Aside0.mk (blk_grown BKp.out hg_ (by simp)); have HO := Aside0.mk (Kd.R_mono (ok' := fun k => k ≠ gp) (Kd.R_tight rfl ho) (fun k hk e_ => Kd.R_ne ho (blk_grown BKp.out hg_ (by simp)) (by decide) (by rw [← e_]; exact hk))); have GO := Aside0.mk hgO; clear HB BKp; have HB := n0_; have BKp := n1_; clear n0_ n1_; clear ho hb2 hg_ hnew_ hcO hgO hlO hpO hcO2))
  go_loopw [18] (fun v18 wr => ∃ (i : Nat) (vR : Value), i ≤ r ∧ v18 = .int .i64 (i : Int) ∧ Aside0 (wr.heap[gp]? = some (.cells #[vR, .pointer (some ⟨gT, 0, none⟩)] 108 (0, 0))) ∧ Aside0 ((Kd.int .u8).R 5 wr w.heap.size (fun k => k ≠ gp) (.slice (some ⟨gO, 0, none⟩) n cO) (List.replicate n 0)) ∧ Aside0 ((Kd.raw 1).R 78 wr w.heap.size (fun k => k ≠ gp ∧ k ≠ gO) vR (rowVs gO c cO i)) ∧ Aside0 (Below w.heap.size w wr)) (fun v18 _ => r - (intOf v18).toNat)
  case atStart => exact ⟨0, _, Nat.zero_le _, rfl, BKp, HO, ⟨Kd.R_nil _ _ _ _ _⟩, HB⟩
  case round =>
    clear HB BKp HO
    obtain ⟨i, vR, hi, rfl, BKp, HO, HR, HB⟩ := hrel
    by_cases hlt : i < r
    · have c0 : decide ((i : Int) < (r : Int)) = true := decide_eq_true (by omega)
      obtain ⟨p, hp⟩ : ∃ p, i * c = p := ⟨_, rfl⟩
      obtain ⟨m1, m2⟩ := mul_lt hlt hc1
      rw [HN.out, hp] at m1 m2
      have hcO := HCO.out
      obtain ⟨q, hq⟩ : ∃ q, p + c = q := ⟨_, rfl⟩
      rw [hq] at m2
      have hwi := ng_w0 (Nat.le_trans hi hr)
      have hw1 := ng_w1 hp (Nat.le_trans (Nat.le_of_lt m1) hn2)
      have hw2 := ng_w2 hp hq (Nat.le_trans m2 hn2)
      have HP := Aside0.mk hp
      clear hp
      have hb1 : p ≤ q := by rw [← hq]; exact Nat.le_add_right _ _
      have hb2 : q ≤ cO := Nat.le_trans m2 hcO
      have hb3 : ¬ cO = p := Nat.ne_of_gt (Nat.lt_of_lt_of_le m1 hcO)
      have hb4 : q - p = c := by rw [← hq]; exact Nat.add_sub_cancel_left _ _
      clear hq m1 m2 hcO
      go_wp2
      have n0_ : Aside0 (wr.drew.heap[gp]? = some (.cells #[vR, .pointer (some ⟨gT, 0, none⟩)] 108 (0, 0))) := ⟨blk_drew BKp.out⟩
      have n1_ : Aside0 (((Kd.int .u8).R 5 wr.drew w.heap.size (fun k => k ≠ gp) (.slice (some ⟨gO, 0, none⟩) n cO) (List.replicate n 0))) := ⟨Kd.R_drew HO.out⟩
      have n2_ : Aside0 (((Kd.raw 1).R 78 wr.drew w.heap.size (fun k => k ≠ gp ∧ k ≠ gO) vR (rowVs gO c cO i))) := ⟨Kd.R_drew HR.out⟩
      have n3_ : Aside0 (Below w.heap.size w wr.drew) := ⟨below_drew1 HB.out⟩
      clear BKp HO HR HB
      have BKp := n0_
      have HO := n1_
      have HR := n2_
      have HB := n3_
      clear n0_ n1_ n2_ n3_
      refine start_ (n := 19) (S := fun w' => w'.cell? ⟨gp, 0, none⟩ = some vR) (ds := [18]) #[false, false, false, false, false, false, false, false, false, false, false, false, false, false, false, false, false, false, false] (by kernel_rfl) rfl rfl ((blk_cell BKp.out 0).trans rfl) (fun hHeld => ?_)
      generalize wr.drew = w7 at BKp HO HR HB hHeld ⊢
      refine pure_ (i := 0) (N := some 21) (v := ?_) (a' := ?_) #[true, false, false, false, false, false, false, false, false, false, false, false, false, false, false, false, false, false, false] rfl rfl (by kernel_rfl) (fun _ _ _ h => h) (Or.inl ⟨by rfl, ?_⟩) ?_ ?_; rotate_left; intro w'; go_simp; with_reducible rfl; rotate_left; simp only [Cap.pz]; rfl
      refine pure_ (i := 1) (N := some 22) (v := ?_) (a' := ?_) #[true, true, false, false, false, false, false, false, false, false, false, false, false, false, false, false, false, false, false] rfl rfl (by kernel_rfl) (fun _ _ _ h => h) (Or.inl ⟨by rfl, ?_⟩) ?_ ?_; rotate_left; intro w'; go_simp; with_reducible rfl; rotate_left; simp only [Cap.pz]; rfl
      refine pure_ (i := 2) (N := some 23) (v := ?_) (a' := ?_) #[true, true, true, false, false, false, false, false, false, false, false, false, false, false, false, false, false, false, false] rfl rfl (by kernel_rfl) (fun _ _ _ h => h) (Or.inl ⟨by rfl, ?_⟩) ?_ ?_; rotate_left; intro w'; go_simp; with_reducible rfl; rotate_left; simp only [Cap.pz]; rfl
      refine pure_ (i := 3) (N := some 24) (v := ?_) (a' := ?_) #[true, true, true, true, false, false, false, false, false, false, false, false, false, false, false, false, false, false, false] rfl rfl (by kernel_rfl) (fun _ _ _ h => h) (Or.inl ⟨by rfl, ?_⟩) ?_ ?_; rotate_left; intro w'; go_simp; with_reducible rfl; rotate_left; simp only [Cap.pz]; rfl
      refine take_ (i := 4) (N := some 25) (v := ?_) (a' := ?_) #[true, true, true, true, true, false, false, false, false, false, false, false, false, false, false, false, false, false, false] rfl rfl (by kernel_rfl) (fun _ _ _ h => h) (Or.inl ⟨by rfl, ?_⟩) hHeld ?_ ?_; rotate_left; rintro w' s0; go_simp; with_reducible rfl; rotate_left; simp only [Cap.pz]; rfl
      refine pure_ (i := 5) (N := some 26) (v := ?_) (a' := ?_) #[true, true, true, true, true, true, false, false, false, false, false, false, false, false, false, false, false, false, false] rfl rfl (by kernel_rfl) (fun _ _ _ h => h) (Or.inl ⟨by rfl, ?_⟩) ?_ ?_; rotate_left; intro w'; go_simp; with_reducible rfl; rotate_left; simp only [Cap.pz]; rfl
      refine pure_ (i := 6) (N := some 27) (v := ?_) (a' := ?_) #[true, true, true, true, true, true, true, false, false, false, false, false, false, false, false, false, false, false, false] rfl rfl (by kernel_rfl) (fun _ _ _ h => h) (Or.inl ⟨by rfl, ?_⟩) ?_ ?_; rotate_left; intro w'; go_simp; with_reducible rfl; rotate_left; simp only [Cap.pz]; rfl
      refine pure_ (i := 7) (N := some 28) (v := ?_) (a' := ?_) #[true, true, true, true, true, true, true, true, false, false, false, false, false, false, false, false, false, false, false] rfl rfl (by kernel_rfl) (fun _ _ _ h => h) (Or.inl ⟨by rfl, ?_⟩) ?_ ?_; rotate_left; intro w'; go_simp; with_reducible rfl; rotate_left; simp only [Cap.pz]; rfl
      refine pure_ (i := 8) (N := some 29) (v := ?_) (a' := ?_) #[true, true, true, true, true, true, true, true, true, false, false, false, false, false, false, false, false, false, false] rfl rfl (by kernel_rfl) (fun _ _ _ h => h) (Or.inl ⟨by rfl, ?_⟩) ?_ ?_; rotate_left; intro w'; go_simp; with_reducible rfl; rotate_left; simp only [Cap.pz]; rfl
      refine pure_ (i := 9) (N := some 30) (v := ?_) (a' := ?_) #[true, true, true, true, true, true, true, true, true, true, false, false, false, false, false, false, false, false, false] rfl rfl (by kernel_rfl) (fun _ _ _ h => h) (Or.inl ⟨by rfl, ?_⟩) ?_ ?_; rotate_left; intro w'; go_simp; with_reducible rfl; rotate_left; simp only [Cap.pz]; rfl
      refine pure_ (i := 10) (N := some 31) (v := ?_) (a' := ?_) #[true, true, true, true, true, true, true, true, true, true, true, false, false, false, false, false, false, false, false] rfl rfl (by kernel_rfl) (fun _ _ _ h => h) (Or.inl ⟨by rfl, ?_⟩) ?_ ?_; rotate_left; intro w'; go_simp; with_reducible rfl; rotate_left; simp only [Cap.pz]; rfl
      refine pure_ (i := 11) (N := some 32) (v := ?_) (a' := ?_) #[true, true, true, true, true, true, true, true, true, true, true, true, false, false, false, false, false, false, false] rfl rfl (by kernel_rfl) (fun _ _ _ h => h) (Or.inl ⟨by rfl, ?_⟩) ?_ ?_; rotate_left; intro w'; go_simp; with_reducible rfl; rotate_left; simp only [Cap.pz]; rfl
      refine pure_ (i := 12) (N := some 33) (v := ?_) (a' := ?_) #[true, true, true, true, true, true, true, true, true, true, true, true, true, false, false, false, false, false, false] rfl rfl (by kernel_rfl) (fun _ _ _ h => h) (Or.inl ⟨by rfl, ?_⟩) ?_ ?_; rotate_left; intro w'; go_simp; with_reducible rfl; rotate_left; simp only [Cap.pz]; rfl
      refine pure_ (i := 13) (N := some 34) (v := ?_) (a' := ?_) #[true, true, true, true, true, true, true, true, true, true, true, true, true, true, false, false, false, false, false] rfl rfl (by kernel_rfl) (fun _ _ _ h => h) (Or.inl ⟨by rfl, ?_⟩) ?_ ?_; rotate_left; intro w'; go_simp; with_reducible rfl; rotate_left; simp only [Cap.pz]; rfl
      refine one_ (i := 14) (N := some 35) #[true, true, true, true, true, true, true, true, true, true, true, true, true, true, true, false, false, false, false] rfl rfl (by kernel_rfl) (by decide) (fun Kq hK => ?_)
      refine value_ (w1 := ?_) (v := ?_) (by rfl) rfl ?_ ?_
      rotate_left 2
      · go_simp
        constructor
        · rfl
        · rfl
      refine hK.out _ _ ((blk_cell (blk_alloc BKp.out _) 0).trans rfl) (fun hHeld => ?_)
      clear hK Kq
      refine norm_ (a' := ?_) ?_ ?_; rotate_left; show Act.put _ (some 35) _ = _; simp only [Cap.pz]; rfl
      refine one_ (i := 15) (N := some 36) #[true, true, true, true, true, true, true, true, true, true, true, true, true, true, true, true, false, false, false] rfl rfl (by kernel_rfl) (by decide) (fun Kq hK => ?_)
      refine Kd.R_append_step (Kd.raw 1) (w0 := w) w.heap.size (by rfl) (.tmp 25) (.tmp 35) 106 78 (.slice none 0 0) 24 rfl Try.underlying106 (by kernel_rfl) rfl (by decide) (by omega) vR (rowVs gO c cO i) [.slice (some ⟨gO, p, none⟩) c (cO - p)] [.slice (some ⟨gO, p, none⟩) c (cO - p)] (fun k => k ≠ gp ∧ k ≠ gO) (fun _ => False) rfl rfl ?aP (fun _ hk => hk.elim) ?aF ?aO ?aB ?aS ?aL ?_
      (case aP => exact ⟨rfl, rfl, by simp [Value.oneCell']⟩)
      (case aB => exact HB.out)
      (case aF => exact (fun k hk => by have h1 := blk_lt BKp.out; obtain ⟨_, _, e_, _, h_, _⟩ := Kd.R_form HO.out (by rw [List.length_replicate]; omega); injection e_ with e_ _ _; injection e_ with e_; injection e_ with e_; omega))
      (case aO => exact HR.out)
      (case aS => exact below_size HB.out)
      (case aL => rw [rowVs_len]; omega)
      intro vR2 w8 ho hb hg hat
      have nP_ : some gp ≠ vR.ownBlock := fun e => (HR.out.1 gp e.symm).1 rfl
      have nO_ : some gO ≠ vR.ownBlock := fun e => (HR.out.1 gO e.symm).2 rfl
      have er_ : rowVs gO c cO i ++ [[.slice (some ⟨gO, p, none⟩) c (cO - p)]] = rowVs gO c cO (i + 1) := by rw [← rowVs_succ]; unfold rowV; rw [HP.out]
      rw [er_] at ho
      have n0_ : Aside0 (w8.heap[gp]? = some (.cells #[vR, .pointer (some ⟨gT, 0, none⟩)] 108 (0, 0))) := ⟨blk_grown BKp.out hg nP_⟩
      have n1_ : Aside0 (((Kd.int .u8).R 5 w8 w.heap.size (fun k => k ≠ gp) (.slice (some ⟨gO, 0, none⟩) n cO) (List.replicate n 0))) := ⟨Kd.R_mono (Kd.R_step (Kd.R_bound (Kd.R_tight rfl HO.out)) (fun k hk hk2 => hg.block k hk2 (by have h_ : k = gO := (by simpa [Value.ownBlock] using hk.1); rw [h_]; exact nO_))) (fun k hk e => by have h_ : k = gO := (by simpa [Value.ownBlock] using hk.1); exact NPO.out (e.symm.trans h_))⟩
      have n2_ : Aside0 (((Kd.raw 1).R 78 w8 w.heap.size (fun k => k ≠ gp ∧ k ≠ gO) vR2 (rowVs gO c cO (i + 1)))) := ⟨ho⟩
      have n3_ : Aside0 (Below w.heap.size w w8) := ⟨hb⟩
      clear BKp HO HR HB
      have BKp := n0_
      have HO := n1_
      have HR := n2_
      have HB := n3_
      clear n0_ n1_ n2_ n3_
      clear ho hb hg hat nP_ nO_ er_
      obtain ⟨AG2, cG2, eG2⟩ := Kd.R_slice HR.out
      rw [rowVs_len] at eG2
      subst eG2
      refine hK.out _ _ ((blk_cell BKp.out 0).trans rfl) (fun hHeld => ?_)
      clear hK Kq
      refine norm_ (a' := ?_) ?_ ?_; rotate_left; show Act.put _ (some 36) _ = _; simp only [Cap.pz]; rfl
      refine pure_ (i := 16) (N := some 37) (v := ?_) (a' := ?_) #[true, true, true, true, true, true, true, true, true, true, true, true, true, true, true, true, true, false, false] rfl rfl (by kernel_rfl) (fun _ _ _ h => h) (Or.inl ⟨by rfl, ?_⟩) ?_ ?_; rotate_left; intro w'; go_simp; with_reducible rfl; rotate_left; simp only [Cap.pz]; rfl
      refine pure_ (i := 17) (N := some 38) (v := ?_) (a' := ?_) #[true, true, true, true, true, true, true, true, true, true, true, true, true, true, true, true, true, true, false] rfl rfl (by kernel_rfl) (fun _ _ _ h => h) (Or.inl ⟨by rfl, ?_⟩) ?_ ?_; rotate_left; intro w'; go_simp; with_reducible rfl; rotate_left; simp only [Cap.pz]; rfl
      refine last_ (i := 18) (N := none) #[true, true, true, true, true, true, true, true, true, true, true, true, true, true, true, true, true, true, true] rfl rfl (by kernel_rfl) (by decide) (fun Kq hK => ?_)
      have hcs : w8.cell? ⟨gp, 0, none⟩ = some vR := (blk_cell BKp.out 0).trans rfl
      have hfs := blk_frozen BKp.out 0
      refine skip_ (w1 := ?_) (by rfl) rfl ?_ ?_
      rotate_left
      · go_simp
        rfl
      refine hK.out _ _ ?_
      clear hK Kq
      refine done_ (by kernel_rfl) ?_
      go_wp2
      refine ⟨⟨i + 1, _, by omega, by go_num, ⟨blk_put BKp.out 0 _ rfl⟩, ⟨Kd.R_step HO.out (fun k ho _ => Below.heap_setCell _ _ _ k ho)⟩, ⟨Kd.R_step HR.out (fun k ho _ => Below.heap_setCell _ _ _ k ho.1)⟩, ⟨below_set HB.out GEp.out⟩⟩, ?_⟩
      simp [intOf]; omega
    · have c0 : decide ((i : Int) < (r : Int)) = false := decide_eq_false (by omega)
      have ei : i = r := by omega
      go_wp2
      go_ret
      have hr_ := HR.out
      rw [ei] at hr_
      obtain ⟨gR, cR, eR, hgR, hlR, cellsR, hcR⟩ := Kd.R_form hr_ (by rw [rowVs_len]; omega)
      rw [rowVs_len] at eR
      subst eR
      have hne1 : gp ≠ gR := fun e => (hr_.1 gR rfl).1 e.symm
      have hne2 : gR ≠ gO := (hr_.1 gR rfl).2
      obtain ⟨_, _, e_, _, hlO, _⟩ := Kd.R_form HO.out (by rw [List.length_replicate]; omega)
      injection e_ with e_ _ _
      injection e_ with e_
      injection e_ with e_
      refine ⟨gp, gR, gO, cO, rfl, GEp.out, hgR, GO.out, ⟨⟨cR, (blk_cell BKp.out 0).trans rfl⟩, (blk_cell BKp.out 1).trans rfl, fun j hj => ?_, by rw [List.length_replicate], fun j hj => ?_, fun j hj => ?_, hne1, NPO.out, hne2, by omega, by rw [HN.out]; exact HCO.out⟩, HB.out⟩
      · obtain ⟨ad, e3, hcl⟩ := (Kd.R_reads' hr_).2.2.2.2 (by rw [rowVs_len]; omega)
        cases e3
        obtain ⟨cs, h1, ⟨h2, _, _⟩, h3⟩ := hcl j [rowV gO c cO j] (by unfold rowVs; rw [List.getElem?_map, List.getElem?_range hj]; rfl)
        subst h2
        have h4 := h3 0 _ rfl
        rw [add_plain] at h4
        have z : j * (Kd.raw 1).sz + 0 = j := Nat.mul_one j
        rw [z] at h4
        exact h4
      · have h := (Kd.R_celln 0 HO.out (j : Int) (by omega) (by rw [HN.out] at hj; omega)).1
        rw [Int.toNat_natCast] at h
        rw [h, HN.out]
        rfl
      · have h := (Kd.R_celln 0 HO.out (j : Int) (by omega) (by rw [HN.out] at hj; omega)).2
        rwa [Int.toNat_natCast] at h

/-! ### impl_gridOf: function 76 -/
def gl (l : List Int) (n i : Nat) : List Int := l.take i ++ List.replicate (n - i) 0
theorem gl_zero (l : List Int) (n : Nat) : List.replicate n (0 : Int) = gl l n 0 := by unfold gl; simp
theorem gl_full (l : List Int) (n : Nat) (h : l.length = n) : gl l n n = l := by unfold gl; rw [Nat.sub_self, List.replicate_zero, List.append_nil, List.take_of_length_le (by omega)]
theorem gl_set (l : List Int) (n i : Nat) (h : l.length = n) (hi : i < n) : (gl l n i).set i (rd l (i : Int)) = gl l n (i + 1) := by
  unfold gl
  have e : rd l (i : Int) = l[i]'(by omega) := by unfold rd; rw [Int.toNat_natCast, List.getD_eq_getElem?_getD, List.getElem?_eq_getElem (by omega)]; rfl
  rw [List.set_append_right _ _ (by rw [List.length_take]; omega), List.length_take, Nat.min_eq_left (by omega), Nat.sub_self, show n - i = (n - (i + 1)) + 1 by omega, List.replicate_succ, List.set_cons_zero, List.take_add_one, List.getElem?_eq_getElem (by omega), e, List.append_assoc]
  rfl
theorem u8_id {x : Int} (h0 : 0 ≤ x) (h1 : x < 256) : IntKind.u8.wrap x = x := by rw [IntKind.wrap_u8]; omega
theorem wa64 {a : Nat} (h : a ≤ 64) : wrap64 (a : Int) = (a : Int) := by unfold wrap64; omega
theorem nat_tdiv (i c : Nat) : Int.tdiv (i : Int) (c : Int) = ((i / c : Nat) : Int) := rfl
theorem nat_tmod (i c : Nat) : Int.tmod (i : Int) (c : Int) = ((i % c : Nat) : Int) := rfl
set_option maxHeartbeats 8000000 in
set_option maxRecDepth 100000 in
theorem impl_gridOf.callsN (r c gT : Nat) (A0 : Option Addr) (c0 : Nat) (l : List Int) (hr1 : 1 ≤ r) (hc1 : 1 ≤ c) (hr : r ≤ 64) (hc : c ≤ 64) (hl : l.length = r * c) (hv : ∀ x ∈ l, 0 ≤ x ∧ x < 256) (w : World) (hC : Kd.C (Kd.int .i64) w A0 l.length l) :
    Calls Try.prog 76 #[.pointer (some ⟨gT, 0, none⟩), .agg #[.int .i64 (r : Int), .int .i64 (c : Int), .slice A0 l.length c0]] w fun e w' => ∃ g R A cA, e = .returned (.pointer (some ⟨g, 0, none⟩)) ∧ w.heap.size ≤ g ∧ w.heap.size ≤ R ∧ w.heap.size ≤ A ∧ GridIn w' g R A r c cA gT l ∧ Below w.heap.size w w' := by
  have hrc : r * c ≤ 64 * 64 := Nat.mul_le_mul hr hc
  have hrc1 : 1 * 1 ≤ r * c := Nat.mul_le_mul hr1 hc1
  obtain ⟨n, hn⟩ : ∃ n, l.length = n := ⟨_, rfl⟩
  have hn1 : 1 ≤ n := by omega
  have hn2 : n ≤ 4096 := by omega
  obtain ⟨ad0, rfl, _⟩ := Kd.at_int hC (0 : Int) (by omega) (by omega)
  have HC := Aside0.mk hC
  have HL := Aside0.mk hl
  have HN := Aside0.mk hn
  have HV := Aside0.mk (show ∀ i, i < n → 0 ≤ rd l (i : Int) ∧ rd l (i : Int) < 256 from fun i hi => by
    have hi2 : i < l.length := by omega
    unfold rd
    rw [Int.toNat_natCast, List.getD_eq_getElem?_getD, List.getElem?_eq_getElem hi2]
    exact hv _ (List.getElem_mem hi2))
  rw [hn]
  clear hC hl hn hv hrc hrc1
  go_enter Try.func76, Try.ntmps76
  go_wp2_with (first | ((with_reducible refine gate_dst (N := 3) rfl ?_); refine box_event ?hg (N := 3) ?hd (cs := #[.int .i64 (r : Int), .int .i64 (c : Int), .slice (some ad0) n c0]) (t := 34) ?hr ?_; (case hd => rfl); (case hg => rfl); (case hr => first | (go_simp; done) | (go_simp; rfl)); intro gc hg w1 hbox hb; have HB := Aside0.mk hb; have BKc := Aside0.mk hbox; clear hb hbox hg; have hz1 : w1.cell? ⟨gc, 0, none⟩ = some (.int .i64 (r : Int)) := (blk_cell BKc.out 0).trans rfl; have hz2 : w1.cell? ⟨gc, 1, none⟩ = some (.int .i64 (c : Int)) := (blk_cell BKc.out 1).trans rfl) | (go_at_call 77; (with_reducible refine (impl_newGrid.callsN r c gT hr1 hc1 hr hc _).mono ?_); rintro e w2 ⟨g, R, A, cA, rfl, hg_, hR_, hA_, hG_, hb_⟩; have n0_ := Aside0.mk (blk_below BKc.out hb_); have n1_ := Aside0.mk (below_step HB.out hb_); have HG := Aside0.mk hG_; have GE := Aside0.mk (And.intro (Nat.le_trans (below_size HB.out) hg_) (And.intro (Nat.le_trans (below_size HB.out) hR_) (Nat.le_trans (below_size HB.out) hA_))); have NE := Aside0.mk (show gc ≠ A from (fun e_ => (by have := blk_lt BKc.out; omega))); clear HB BKc hz1 hz2 hg_ hR_ hA_ hG_ hb_; have BKc := n0_; have HB := n1_; clear n0_ n1_; have hz3 : w2.cell? ⟨gc, 2, none⟩ = some (.slice (some ad0) n c0) := (blk_cell BKc.out 2).trans rfl))
  clear hz3
  go_loopw [17] (fun v17 wr => ∃ i : Nat, i ≤ n ∧ v17 = .int .i64 (i : Int) ∧ Aside0 (wr.heap[gc]? = some (.cells #[.int .i64 (r : Int), .int .i64 (c : Int), .slice (some ad0) n c0] 34 (0, 0))) ∧ Aside0 (GridIn wr g R A r c cA gT (gl l n i)) ∧ Aside0 (Below w.heap.size w wr)) (fun v17 _ => n - (intOf v17).toNat)
  case atStart => exact ⟨0, Nat.zero_le _, rfl, BKc, ⟨by rw [← gl_zero, ← HN.out, HL.out]; exact HG.out⟩, HB⟩
  case round =>
    clear HB BKc HG
    obtain ⟨i, hi, rfl, BKc, HG, HB⟩ := hrel
    by_cases hlt : i < n
    · obtain ⟨ad0_, e0_, hci⟩ := Kd.at_int (Kd.C_below HC.out HB.out) (i : Int) (by omega) (by rw [HN.out]; omega)
      cases e0_
      rw [Int.toNat_natCast] at hci
      obtain ⟨x, hx⟩ : ∃ x, rd l (i : Int) = x := ⟨_, rfl⟩
      have hxb := HV.out i hlt
      rw [hx] at hci hxb
      have HX := Aside0.mk hx
      obtain ⟨a, ha⟩ : ∃ a, i / c = a := ⟨_, rfl⟩
      obtain ⟨b, hb⟩ : ∃ b, i % c = b := ⟨_, rfl⟩
      have hbc : b < c := by rw [← hb]; exact Nat.mod_lt _ (by omega)
      have hab : a * c + b = i := by rw [← ha, ← hb, Nat.mul_comm]; exact Nat.div_add_mod i c
      have har : a < r := by rw [← ha]; exact Nat.div_lt_of_lt_mul (by rw [Nat.mul_comm, ← HL.out, HN.out]; exact hlt)
      have hq1 := nat_tdiv i c
      have hq2 := nat_tmod i c
      rw [ha] at hq1
      rw [hb] at hq2
      have hq3 : (i : Int) / (c : Int) = (a : Int) := by rw [← Int.natCast_ediv, ha]
      have hq4 : (i : Int) % (c : Int) = (b : Int) := by rw [← Int.natCast_emod, hb]
      have hu := u8_id hxb.1 hxb.2
      obtain ⟨cR, hgd⟩ := HG.out.hd
      have hgr := HG.out.rows a har
      obtain ⟨p, hp⟩ : ∃ p, a * c = p := ⟨_, rfl⟩
      unfold rowV at hgr
      rw [hp] at hgr hab
      have hcel := HG.out.cell i (by rw [← HL.out, HN.out]; exact hlt)
      have hfre := HG.out.free i (by rw [← HL.out, HN.out]; exact hlt)
      rw [← hab] at hcel hfre
      have HGD := Aside0.mk hgd
      have HGR := Aside0.mk hgr
      have HCE := Aside0.mk hcel
      have HFR := Aside0.mk hfre
      have HAB := Aside0.mk hab
      have hcn : ¬ c = 0 := by omega
      have hwa : wrap64 (a : Int) = (a : Int) := wa64 (by omega)
      have hwb : wrap64 (b : Int) = (b : Int) := wa64 (by omega)
      clear hx ha hb hgd hgr hcel hfre hab hp
      go_wp2
      refine start_ (n := 18) (S := fun w' => w'.cell? ⟨g, 0, none⟩ = some (.slice (some ⟨R, 0, none⟩) r cR) ∧ w'.cell? ⟨R, a, none⟩ = some (.slice (some ⟨A, p, none⟩) c (cA - p)) ∧ w'.cell? ⟨gc, 1, none⟩ = some (.int .i64 (c : Int))) (ds := [17]) #[false, false, false, false, false, false, false, false, false, false, false, false, false, false, false, false, false, false] (by kernel_rfl) rfl rfl ⟨HGD.out, HGR.out, (blk_cell BKc.out 1).trans rfl⟩ (fun hHeld => ?_)
      refine pure_ (i := 0) (N := some 22) (v := ?_) (a' := ?_) #[true, false, false, false, false, false, false, false, false, false, false, false, false, false, false, false, false, false] rfl rfl (by kernel_rfl) (fun _ _ _ h => h) (Or.inl ⟨by rfl, ?_⟩) ?_ ?_; rotate_left; intro w'; go_simp; with_reducible rfl; rotate_left; simp only [Cap.pz]; rfl
      refine pure_ (i := 1) (N := some 23) (v := ?_) (a' := ?_) #[true, true, false, false, false, false, false, false, false, false, false, false, false, false, false, false, false, false] rfl rfl (by kernel_rfl) (fun _ _ _ h => h) (Or.inl ⟨by rfl, ?_⟩) ?_ ?_; rotate_left; intro w'; go_simp; with_reducible rfl; rotate_left; simp only [Cap.pz]; rfl
      refine pure_ (i := 2) (N := some 24) (v := ?_) (a' := ?_) #[true, true, true, false, false, false, false, false, false, false, false, false, false, false, false, false, false, false] rfl rfl (by kernel_rfl) (fun _ _ _ h => h) (Or.inl ⟨by rfl, ?_⟩) ?_ ?_; rotate_left; intro w'; go_simp; with_reducible rfl; rotate_left; simp only [Cap.pz]; rfl
      refine take_ (i := 3) (N := some 25) (v := ?_) (a' := ?_) #[true, true, true, true, false, false, false, false, false, false, false, false, false, false, false, false, false, false] rfl rfl (by kernel_rfl) (fun _ _ _ h => h) (Or.inl ⟨by rfl, ?_⟩) hHeld ?_ ?_; rotate_left; rintro w' ⟨s0, s1, s2⟩; go_simp; with_reducible rfl; rotate_left; simp only [Cap.pz]; rfl
      refine pure_ (i := 4) (N := some 26) (v := ?_) (a' := ?_) #[true, true, true, true, true, false, false, false, false, false, false, false, false, false, false, false, false, false] rfl rfl (by kernel_rfl) (fun _ _ _ h => h) (Or.inl ⟨by rfl, ?_⟩) ?_ ?_; rotate_left; intro w'; go_simp; with_reducible rfl; rotate_left; simp only [Cap.pz]; rfl
      refine pure_ (i := 5) (N := some 27) (v := ?_) (a' := ?_) #[true, true, true, true, true, true, false, false, false, false, false, false, false, false, false, false, false, false] rfl rfl (by kernel_rfl) (fun _ _ _ h => h) (Or.inl ⟨by rfl, ?_⟩) ?_ ?_; rotate_left; intro w'; go_simp; with_reducible rfl; rotate_left; simp only [Cap.pz]; rfl
      refine take_ (i := 6) (N := some 28) (v := ?_) (a' := ?_) #[true, true, true, true, true, true, true, false, false, false, false, false, false, false, false, false, false, false] rfl rfl (by kernel_rfl) (fun _ _ _ h => h) (Or.inl ⟨by rfl, ?_⟩) hHeld ?_ ?_; rotate_left; rintro w' ⟨s0, s1, s2⟩; go_simp; with_reducible rfl; rotate_left; simp only [Cap.pz]; rfl
      refine pure_ (i := 7) (N := some 29) (v := ?_) (a' := ?_) #[true, true, true, true, true, true, true, true, false, false, false, false, false, false, false, false, false, false] rfl rfl (by kernel_rfl) (fun _ _ _ h => h) (Or.inl ⟨by rfl, ?_⟩) ?_ ?_; rotate_left; intro w'; go_simp; with_reducible rfl; rotate_left; simp only [Cap.pz]; rfl
      refine pure_ (i := 8) (N := some 30) (v := ?_) (a' := ?_) #[true, true, true, true, true, true, true, true, true, false, false, false, false, false, false, false, false, false] rfl rfl (by kernel_rfl) (fun _ _ _ h => h) (Or.inl ⟨by rfl, ?_⟩) ?_ ?_; rotate_left; intro w'; go_simp; with_reducible rfl; rotate_left; simp only [Cap.pz]; rfl
      refine take_ (i := 9) (N := some 31) (v := ?_) (a' := ?_) #[true, true, true, true, true, true, true, true, true, true, false, false, false, false, false, false, false, false] rfl rfl (by kernel_rfl) (fun _ _ _ h => h) (Or.inl ⟨by rfl, ?_⟩) hHeld ?_ ?_; rotate_left; rintro w' ⟨s0, s1, s2⟩; go_simp; with_reducible rfl; rotate_left; simp only [Cap.pz]; rfl
      refine pure_ (i := 10) (N := some 32) (v := ?_) (a' := ?_) #[true, true, true, true, true, true, true, true, true, true, true, false, false, false, false, false, false, false] rfl rfl (by kernel_rfl) (fun _ _ _ h => h) (Or.inl ⟨by rfl, ?_⟩) ?_ ?_; rotate_left; intro w'; go_simp; with_reducible rfl; rotate_left; simp only [Cap.pz]; rfl
      refine pure_ (i := 11) (N := some 33) (v := ?_) (a' := ?_) #[true, true, true, true, true, true, true, true, true, true, true, true, false, false, false, false, false, false] rfl rfl (by kernel_rfl) (fun _ _ _ h => h) (Or.inl ⟨by rfl, ?_⟩) ?_ ?_; rotate_left; intro w'; go_simp; with_reducible rfl; rotate_left; simp only [Cap.pz]; rfl
      refine take_ (i := 12) (N := some 34) (v := ?_) (a' := ?_) #[true, true, true, true, true, true, true, true, true, true, true, true, true, false, false, false, false, false] rfl rfl (by kernel_rfl) (fun _ _ _ h => h) (Or.inl ⟨by rfl, ?_⟩) hHeld ?_ ?_; rotate_left; rintro w' ⟨s0, s1, s2⟩; go_simp; with_reducible rfl; rotate_left; simp only [Cap.pz]; rfl
      refine pure_ (i := 13) (N := some 35) (v := ?_) (a' := ?_) #[true, true, true, true, true, true, true, true, true, true, true, true, true, true, false, false, false, false] rfl rfl (by kernel_rfl) (fun _ _ _ h => h) (Or.inl ⟨by rfl, ?_⟩) ?_ ?_; rotate_left; intro w'; go_simp; with_reducible rfl; rotate_left; simp only [Cap.pz]; rfl
      refine pure_ (i := 14) (N := some 36) (v := ?_) (a' := ?_) #[true, true, true, true, true, true, true, true, true, true, true, true, true, true, true, false, false, false] rfl rfl (by kernel_rfl) (fun _ _ _ h => h) (Or.inl ⟨by rfl, ?_⟩) ?_ ?_; rotate_left; intro w'; go_simp; with_reducible rfl; rotate_left; simp only [Cap.pz]; rfl
      refine pure_ (i := 15) (N := some 37) (v := ?_) (a' := ?_) #[true, true, true, true, true, true, true, true, true, true, true, true, true, true, true, true, false, false] rfl rfl (by kernel_rfl) (fun _ _ _ h => h) (Or.inl ⟨by rfl, ?_⟩) ?_ ?_; rotate_left; intro w'; go_simp; with_reducible rfl; rotate_left; simp only [Cap.pz]; rfl
      refine pure_ (i := 16) (N := some 38) (v := ?_) (a' := ?_) #[true, true, true, true, true, true, true, true, true, true, true, true, true, true, true, true, true, false] rfl rfl (by kernel_rfl) (fun _ _ _ h => h) (Or.inl ⟨by rfl, ?_⟩) ?_ ?_; rotate_left; intro w'; go_simp; with_reducible rfl; rotate_left; simp only [Cap.pz]; rfl
      refine last_ (i := 17) (N := none) #[true, true, true, true, true, true, true, true, true, true, true, true, true, true, true, true, true, true] rfl rfl (by kernel_rfl) (by decide) (fun Kq hK => ?_)
      have hcg := HCE.out
      have hfg := HFR.out
      refine skip_ (w1 := ?_) (by rfl) rfl ?_ ?_
      rotate_left
      · go_simp
        rfl
      refine hK.out _ _ ?_
      clear hK Kq
      refine done_ (by kernel_rfl) ?_
      go_wp2
      go_roundw
      case rel => exact ⟨i + 1, by omega, by go_num, ⟨blk_far (blk_drew BKc.out) NE.out _⟩, ⟨by have h := (HG.out.below (below_drew1 (Below.refl _ _))).put i (by rw [← HL.out, HN.out]; exact hlt) x; rw [← HX.out, gl_set l n i HN.out hlt, HX.out] at h; rw [HAB.out]; exact h⟩, ⟨below_set (below_drew1 HB.out) GE.out.2.2⟩⟩
      case measure => simp [intOf]; omega
    · have ei : i = n := by omega
      go_wp2
      go_ret
      have h := HG.out
      rw [ei, gl_full l n HN.out] at h
      exact ⟨g, R, A, cA, rfl, GE.out.1, GE.out.2.1, GE.out.2.2, h, HB.out⟩

/-! ### impl_tables8_mul: function 78 -/
/-- The table's product. -/
def tabMul (a b : Nat) : Nat := if a = 0 then 0 else if b = 0 then 0 else tE 255 (lg a + lg b)
def impl_tables8_mul.f (_ : Int) (a : Int) (b : Int) : Option (Int) := some ((tabMul a.toNat b.toNat : Nat) : Int)
theorem impl_tables8_mul.callsN (g : Nat) (a : Nat) (ha : a < 256) (b : Nat) (hb : b < 256) (w : World) (hT : TabInv w g 255) :
    Calls Try.prog 78 #[.pointer (some ⟨g, 0, none⟩), .int .u8 (a : Int), .int .u8 (b : Int)] w fun e w' => e = .returned (.int .u8 ((tabMul a b : Nat) : Int)) ∧ Drawn0 w w' := by
  by_cases h0 : a = 0
  · subst h0
    go_enter Try.func78, Try.ntmps78
    go_wp2
    go_ret
    exact ⟨rfl, Drawn0.refl _⟩
  · have c0 : ((a : Int) == 0) = false := beq_eq_false_iff_ne.mpr (by omega)
    by_cases h1 : b = 0
    · subst h1
      have e : tabMul a 0 = 0 := by unfold tabMul; rw [if_neg h0, if_pos rfl]
      rw [e]
      go_enter Try.func78, Try.ntmps78
      go_wp2
      go_ret
      exact ⟨rfl, Drawn0.refl _⟩
    · have c1 : ((b : Int) == 0) = false := beq_eq_false_iff_ne.mpr (by omega)
      obtain ⟨l0, _⟩ := lg_facts ⟨a, ha⟩
      obtain ⟨l1, _⟩ := lg_facts ⟨b, hb⟩
      simp only at l0 l1
      have e0 : tL 255 a = lg a := by unfold tL; rw [if_pos ⟨h0, l0⟩]
      have e1 : tL 255 b = lg b := by unfold tL; rw [if_pos ⟨h1, l1⟩]
      have hl := hT.log a ha
      rw [e0] at hl
      have hm := hT.log b hb
      rw [e1] at hm
      have he := hT.exp (lg a + lg b) (by omega)
      have hw : IntKind.i64.wrap ((lg a : Int) + (lg b : Int)) = ((lg a + lg b : Nat) : Int) := by rw [IntKind.wrap_i64]; omega
      have hr : tabMul a b = tE 255 (lg a + lg b) := by unfold tabMul; rw [if_neg h0, if_neg h1]
      rw [hr]
      have b0 : (a : Int) < 256 := by omega
      have b2 : (b : Int) < 256 := by omega
      have b1 : ((lg a + lg b : Nat) : Int) < 512 := by omega
      have hl2 : w.drew.cell? ⟨g, 512 + a, none⟩ = some (.int .i64 ((lg a : Nat) : Int)) := hl
      have hm2 : w.drew.cell? ⟨g, 512 + b, none⟩ = some (.int .i64 ((lg b : Nat) : Int)) := hm
      have he2 : w.drew.cell? ⟨g, lg a + lg b, none⟩ = some (.int .u8 ((tE 255 (lg a + lg b) : Nat) : Int)) := he
      go_enter Try.func78, Try.ntmps78
      go_wp2
      go_region
      all_goals go_wp2
      all_goals go_ret
      all_goals exact ⟨rfl, ⟨⟨1, rfl⟩⟩⟩
theorem impl_tables8_mul.calls {t : Int} (g : Nat) (a : Int) (b : Int) (r : Int) (w : World) (h : impl_tables8_mul.f t a b = some r) (ha0 : 0 ≤ a ∧ a < 256) (hb0 : 0 ≤ b ∧ b < 256) (hT : TabInv w g 255) :
    Calls Try.prog 78 #[.pointer (some ⟨g, 0, none⟩), .int .u8 a, .int .u8 b] w fun e w' => e = .returned (.int .u8 r) ∧ Drawn0 w w' := by
  obtain ⟨m, rfl⟩ := Int.eq_ofNat_of_zero_le ha0.1
  obtain ⟨n, rfl⟩ := Int.eq_ofNat_of_zero_le hb0.1
  obtain rfl := Option.some.inj h
  exact impl_tables8_mul.callsN g m (by omega) n (by omega) w hT

/-! ### impl_grid_matrix: function 79 -/
theorem take_rd (L : List Int) (k : Nat) (h : k < L.length) : L.take k ++ [rd L (k : Int)] = L.take (k + 1) := by
  unfold rd
  rw [Int.toNat_natCast, List.getD_eq_getElem?_getD, List.getElem?_eq_getElem h, List.take_add_one, List.getElem?_eq_getElem h]
  rfl
theorem i64_id2 {x : Int} (h0 : 0 ≤ x) (h1 : x < 256) : IntKind.i64.wrap x = x := by rw [IntKind.wrap_i64]; omega
set_option maxHeartbeats 8000000 in
set_option maxRecDepth 100000 in
theorem impl_grid_matrix.callsN (g R A r c cA gT : Nat) (L : List Int) (hr1 : 1 ≤ r) (hc1 : 1 ≤ c) (hr : r ≤ 64) (hc : c ≤ 64) (hv : ∀ x ∈ L, 0 ≤ x ∧ x < 256) (w : World) (hG : GridIn w g R A r c cA gT L) :
    Calls Try.prog 79 #[.pointer (some ⟨g, 0, none⟩)] w fun e w' => ∃ v, e = .returned (.agg #[.int .i64 (r : Int), .int .i64 (c : Int), v]) ∧ Kd.R (Kd.int .i64) 2 w' w.heap.size (fun _ => True) v L ∧ Below w.heap.size w w' := by
  have hrc : r * c ≤ 64 * 64 := Nat.mul_le_mul hr hc
  obtain ⟨cR, hgd⟩ := hG.hd
  have hg0 := hG.rows 0 (by omega)
  unfold rowV at hg0
  rw [Nat.zero_mul, Nat.sub_zero] at hg0
  have HGD := Aside0.mk hgd
  have HG0 := Aside0.mk hg0
  have HG := Aside0.mk hG
  have HV := Aside0.mk (show ∀ k, k < L.length → 0 ≤ rd L (k : Int) ∧ rd L (k : Int) < 256 from fun k hk => by
    unfold rd
    rw [Int.toNat_natCast, List.getD_eq_getElem?_getD, List.getElem?_eq_getElem hk]
    exact hv _ (List.getElem_mem hk))
  have HRC := Aside0.mk hrc
  have hr0 : 0 < r := by omega
  clear hgd hg0 hG hv hrc
  go_enter Try.func79, Try.ntmps79
  go_wp2_with ((with_reducible refine gate_dst (N := 2) rfl ?_); refine box_event ?hg (N := 2) ?hd (cs := #[.int .i64 0, .int .i64 0, .slice none 0 0]) (t := 34) ?hr ?_; (case hd => rfl); (case hg => rfl); (case hr => first | (go_simp; done) | (go_simp; rfl)); intro g2 hg w1 hbox hb; have HB := Aside0.mk hb; have BK2 := Aside0.mk hbox; have GE2 := Aside0.mk (show w.heap.size ≤ g2 by rw [hg]; exact Nat.le_refl _); clear hb hbox hg)
  have n0_ : Aside0 (w1.drew.heap[g2]? = some (.cells #[.int .i64 0, .int .i64 0, .slice none 0 0] 34 (0, 0))) := ⟨blk_drew BK2.out⟩
  have n1_ : Aside0 (Below w.heap.size w w1.drew) := ⟨below_drew1 HB.out⟩
  clear BK2 HB
  have BK2 := n0_
  have HB := n1_
  clear n0_ n1_
  refine start_ (n := 15) (S := fun w' => w'.cell? ⟨g, 0, none⟩ = some (.slice (some ⟨R, 0, none⟩) r cR) ∧ w'.cell? ⟨R, 0, none⟩ = some (.slice (some ⟨A, 0, none⟩) c cA)) (ds := [14]) #[false, false, false, false, false, false, false, false, false, false, false, false, false, false, false] (by kernel_rfl) rfl rfl ⟨pw_cell_below HB.out HGD.out, pw_cell_below HB.out HG0.out⟩ (fun hHeld => ?_)
  generalize w1.drew = w7 at BK2 HB hHeld ⊢
  refine pure_ (i := 0) (N := some 8) (v := ?_) (a' := ?_) #[true, false, false, false, false, false, false, false, false, false, false, false, false, false, false] rfl rfl (by kernel_rfl) (fun _ _ _ h => h) (Or.inl ⟨by rfl, ?_⟩) ?_ ?_; rotate_left; intro w'; go_simp; with_reducible rfl; rotate_left; simp only [Cap.pz]; rfl
  refine pure_ (i := 1) (N := some 9) (v := ?_) (a' := ?_) #[true, true, false, false, false, false, false, false, false, false, false, false, false, false, false] rfl rfl (by kernel_rfl) (fun _ _ _ h => h) (Or.inl ⟨by rfl, ?_⟩) ?_ ?_; rotate_left; intro w'; go_simp; with_reducible rfl; rotate_left; simp only [Cap.pz]; rfl
  refine pure_ (i := 2) (N := some 10) (v := ?_) (a' := ?_) #[true, true, true, false, false, false, false, false, false, false, false, false, false, false, false] rfl rfl (by kernel_rfl) (fun _ _ _ h => h) (Or.inl ⟨by rfl, ?_⟩) ?_ ?_; rotate_left; intro w'; go_simp; with_reducible rfl; rotate_left; simp only [Cap.pz]; rfl
  refine take_ (i := 3) (N := some 11) (v := ?_) (a' := ?_) #[true, true, true, true, false, false, false, false, false, false, false, false, false, false, false] rfl rfl (by kernel_rfl) (fun _ _ _ h => h) (Or.inl ⟨by rfl, ?_⟩) hHeld ?_ ?_; rotate_left; rintro w' ⟨s0, s1⟩; go_simp; with_reducible rfl; rotate_left; simp only [Cap.pz]; rfl
  refine pure_ (i := 4) (N := some 12) (v := ?_) (a' := ?_) #[true, true, true, true, true, false, false, false, false, false, false, false, false, false, false] rfl rfl (by kernel_rfl) (fun _ _ _ h => h) (Or.inl ⟨by rfl, ?_⟩) ?_ ?_; rotate_left; intro w'; go_simp; with_reducible rfl; rotate_left; simp only [Cap.pz]; rfl
  refine pure_ (i := 5) (N := some 13) (v := ?_) (a' := ?_) #[true, true, true, true, true, true, false, false, false, false, false, false, false, false, false] rfl rfl (by kernel_rfl) (fun _ _ _ h => h) (Or.inl ⟨by rfl, ?_⟩) ?_ ?_; rotate_left; intro w'; go_simp; with_reducible rfl; rotate_left; simp only [Cap.pz]; rfl
  refine pure_ (i := 6) (N := some 14) (v := ?_) (a' := ?_) #[true, true, true, true, true, true, true, false, false, false, false, false, false, false, false] rfl rfl (by kernel_rfl) (fun _ _ _ h => h) (Or.inl ⟨by rfl, ?_⟩) ?_ ?_; rotate_left; intro w'; go_simp; with_reducible rfl; rotate_left; simp only [Cap.pz]; rfl
  refine pure_ (i := 7) (N := some 15) (v := ?_) (a' := ?_) #[true, true, true, true, true, true, true, true, false, false, false, false, false, false, false] rfl rfl (by kernel_rfl) (fun _ _ _ h => h) (Or.inl ⟨by rfl, ?_⟩) ?_ ?_; rotate_left; intro w'; go_simp; with_reducible rfl; rotate_left; simp only [Cap.pz]; rfl
  refine take_ (i := 8) (N := some 16) (v := ?_) (a' := ?_) #[true, true, true, true, true, true, true, true, true, false, false, false, false, false, false] rfl rfl (by kernel_rfl) (fun _ _ _ h => h) (Or.inl ⟨by rfl, ?_⟩) hHeld ?_ ?_; rotate_left; rintro w' ⟨s0, s1⟩; go_simp; with_reducible rfl; rotate_left; simp only [Cap.pz]; rfl
  refine pure_ (i := 9) (N := some 17) (v := ?_) (a' := ?_) #[true, true, true, true, true, true, true, true, true, true, false, false, false, false, false] rfl rfl (by kernel_rfl) (fun _ _ _ h => h) (Or.inl ⟨by rfl, ?_⟩) ?_ ?_; rotate_left; intro w'; go_simp; with_reducible rfl; rotate_left; simp only [Cap.pz]; rfl
  refine take_ (i := 10) (N := some 18) (v := ?_) (a' := ?_) #[true, true, true, true, true, true, true, true, true, true, true, false, false, false, false] rfl rfl (by kernel_rfl) (fun _ _ _ h => h) (Or.inl ⟨by rfl, ?_⟩) hHeld ?_ ?_; rotate_left; rintro w' ⟨s0, s1⟩; go_simp; with_reducible rfl; rotate_left; simp only [Cap.pz]; rfl
  refine pure_ (i := 11) (N := some 19) (v := ?_) (a' := ?_) #[true, true, true, true, true, true, true, true, true, true, true, true, false, false, false] rfl rfl (by kernel_rfl) (fun _ _ _ h => h) (Or.inl ⟨by rfl, ?_⟩) ?_ ?_; rotate_left; intro w'; go_simp; with_reducible rfl; rotate_left; simp only [Cap.pz]; rfl
  refine pure_ (i := 12) (N := some 20) (v := ?_) (a' := ?_) #[true, true, true, true, true, true, true, true, true, true, true, true, true, false, false] rfl rfl (by kernel_rfl) (fun _ _ _ h => h) (Or.inl ⟨by rfl, ?_⟩) ?_ ?_; rotate_left; intro w'; go_simp; with_reducible rfl; rotate_left; simp only [Cap.pz]; rfl
  refine one_ (i := 13) (N := some 3) #[true, true, true, true, true, true, true, true, true, true, true, true, true, true, false] rfl rfl (by kernel_rfl) (by decide) (fun Kq hK => ?_)
  refine value_ (w1 := ?_) (v := ?_) (by rfl) rfl ?_ ?_
  rotate_left 2
  · go_simp
    constructor
    · rfl
    · rfl
  refine hK.out _ _ ⟨pw_cell_below (below_alloc HB.out _) HGD.out, pw_cell_below (below_alloc HB.out _) HG0.out⟩ (fun hHeld => ?_)
  clear hK Kq
  refine norm_ (a' := ?_) ?_ ?_; rotate_left; show Act.put _ (some 3) _ = _; simp only [Cap.pz]; rfl
  refine last_ (i := 14) (N := none) #[true, true, true, true, true, true, true, true, true, true, true, true, true, true, true] rfl rfl (by kernel_rfl) (by decide) (fun Kq hK => ?_)
  have hB2_ := below_alloc HB.out (.cells #[.int .i64 0, .int .i64 0, .slice none 0 0] 34 (0, 0))
  have hn_ := blk_new w7 (.cells #[.int .i64 0, .int .i64 0, .slice none 0 0] 34 (0, 0))
  have hsz_ := below_size HB.out
  refine skip_ (w1 := (w7.alloc (.cells #[.int .i64 0, .int .i64 0, .slice none 0 0] 34 (0, 0))).setRow w7.heap.size #[.int .i64 (r : Int), .int .i64 (c : Int), .slice none 0 0]) (by rfl) rfl (grid_put 34 (.tmp 3) (.tmp 20) rfl w7.heap.size _ _ rfl rfl hn_ (by kernel_rfl) rfl (by simp [Value.oneCell'])) ?_
  refine hK.out _ _ ?_
  clear hK Kq
  refine done_ (by kernel_rfl) ?_
  have n0_ : Aside0 (((w7.alloc (.cells #[.int .i64 0, .int .i64 0, .slice none 0 0] 34 (0, 0))).setRow w7.heap.size #[.int .i64 (r : Int), .int .i64 (c : Int), .slice none 0 0]).heap[w7.heap.size]? = some (.cells #[.int .i64 (r : Int), .int .i64 (c : Int), .slice none 0 0] 34 (0, 0))) := ⟨setRow_heap _ _ _ _ 34 (0, 0) hn_⟩
  have n1_ : Aside0 (Below w.heap.size w ((w7.alloc (.cells #[.int .i64 0, .int .i64 0, .slice none 0 0] 34 (0, 0))).setRow w7.heap.size #[.int .i64 (r : Int), .int .i64 (c : Int), .slice none 0 0])) := ⟨grid_row hB2_ hsz_ _⟩
  have n2_ : Aside0 (((w7.alloc (.cells #[.int .i64 0, .int .i64 0, .slice none 0 0] 34 (0, 0))).setRow w7.heap.size #[.int .i64 (r : Int), .int .i64 (c : Int), .slice none 0 0]).heap[g2]? = some (.cells #[.int .i64 0, .int .i64 0, .slice none 0 0] 34 (0, 0))) := ⟨(setRow_other _ _ _ _ (Nat.ne_of_lt (blk_lt BK2.out))).trans (blk_alloc BK2.out _)⟩
  have NE2 := Aside0.mk (Nat.ne_of_lt (blk_lt BK2.out))
  have GEm := Aside0.mk hsz_
  clear HB BK2 hHeld hB2_ hn_ hsz_
  generalize w7.heap.size = gm at n0_ n1_ n2_ NE2 GEm ⊢
  generalize (w7.alloc (.cells #[.int .i64 0, .int .i64 0, .slice none 0 0] 34 (0, 0))).setRow gm #[.int .i64 (r : Int), .int .i64 (c : Int), .slice none 0 0] = w8 at n0_ n1_ n2_ ⊢
  have BKm := n0_
  have HB := n1_
  have BK2 := n2_
  clear n0_ n1_ n2_
  have hgd := pw_cell_below HB.out HGD.out
  go_wp2
  clear hgd
  go_loopw [26] (fun v26 wr => ∃ (i : Nat) (vL : Value), i ≤ r ∧ v26 = .int .i64 (i : Int) ∧ Aside0 (wr.heap[gm]? = some (.cells #[.int .i64 (r : Int), .int .i64 (c : Int), vL] 34 (0, 0))) ∧ Aside0 (wr.heap[g2]? = some (.cells #[.int .i64 0, .int .i64 0, .slice none 0 0] 34 (0, 0))) ∧ Aside0 ((Kd.int .i64).R 2 wr w.heap.size (fun k => k ≠ gm ∧ k ≠ g2) vL (L.take (i * c))) ∧ Aside0 (Below w.heap.size w wr)) (fun v26 _ => r - (intOf v26).toNat)
  case atStart => exact ⟨0, _, Nat.zero_le _, rfl, BKm, BK2, ⟨by rw [Nat.zero_mul, List.take_zero]; exact Kd.R_nil _ _ _ _ _⟩, HB⟩
  case round =>
    clear HB BKm BK2
    obtain ⟨i, vL, hi, rfl, BKm, BK2, HR, HB⟩ := hrel
    by_cases hlt : i < r
    · have hgr := pw_cell_below HB.out (HG.out.rows i hlt)
      obtain ⟨m1, m2⟩ := mul_lt hlt hc1
      obtain ⟨p, hp⟩ : ∃ p, i * c = p := ⟨_, rfl⟩
      unfold rowV at hgr
      rw [hp] at hgr m1 m2 HR
      have HP := Aside0.mk hp
      have HM := Aside0.mk m2
      clear hp m1 m2
      go_wp2
      clear hgr
      go_loopw [32] (fun v32 wr => ∃ (j : Nat) (vL : Value), j ≤ c ∧ v32 = .int .i64 (j : Int) ∧ Aside0 (wr.heap[gm]? = some (.cells #[.int .i64 (r : Int), .int .i64 (c : Int), vL] 34 (0, 0))) ∧ Aside0 (wr.heap[g2]? = some (.cells #[.int .i64 0, .int .i64 0, .slice none 0 0] 34 (0, 0))) ∧ Aside0 ((Kd.int .i64).R 2 wr w.heap.size (fun k => k ≠ gm ∧ k ≠ g2) vL (L.take (p + j))) ∧ Aside0 (Below w.heap.size w wr)) (fun v32 _ => c - (intOf v32).toNat)
      case atStart => exact ⟨0, _, Nat.zero_le _, rfl, BKm, BK2, HR, HB⟩
      case round =>
        clear HB BKm BK2 HR
        obtain ⟨j, vL, hj, rfl, BKm, BK2, HR, HB⟩ := hrel
        by_cases hlj : j < c
        · have hpj : p + j < r * c := by have := HM.out; omega
          have hce := pw_cell_below HB.out (HG.out.cell (p + j) hpj)
          have HPJ := Aside0.mk (show p + j < L.length by rw [HG.out.len]; exact hpj)
          have hxb := HV.out (p + j) HPJ.out
          obtain ⟨x, hx⟩ : ∃ x, rd L ((p + j : Nat) : Int) = x := ⟨_, rfl⟩
          rw [hx] at hce hxb
          have HX := Aside0.mk hx
          have hid := i64_id2 hxb.1 hxb.2
          have hcz := (blk_cell BKm.out 2).trans rfl
          have HTL := Aside0.mk (show ((L.take (p + j)).length + 1) * 8 ≤ 140737488355328 by rw [List.length_take]; have := HRC.out; omega)
          have hmz : wr.cell? ⟨gm, 2, none⟩ = some vL := (blk_cell BKm.out 2).trans rfl
          clear hx hpj hcz
          go_wp2_with ((with_reducible refine gate_dst (N := 41) rfl ?_); refine Kd.R_append (Kd.int .i64) (w0 := w) w.heap.size rfl (.tmp 37) (.tmp 40) 24 2 (.int .i64 0) 8 rfl Try.underlying24 (by kernel_rfl) rfl (by decide) (by omega) vL (L.take (p + j)) x [.int .i64 x] (fun k => k ≠ gm ∧ k ≠ g2) (fun _ => False) rfl rfl rfl (fun _ hk => hk.elim) (fun k hk => (by have h1 := blk_lt BKm.out; have h2 := blk_lt BK2.out; omega)) HR.out HB.out (below_size HB.out) (by have := HTL.out; omega) ?_; intro vL2 w8 ho hb hg hat; have nM_ : some gm ≠ vL.ownBlock := (fun e => (HR.out.1 gm e.symm).1 rfl); have n2_ : some g2 ≠ vL.ownBlock := (fun e => (HR.out.1 g2 e.symm).2 rfl); rw [← HX.out, take_rd L (p + j) HPJ.out] at ho; have n0_ : Aside0 (w8.heap[gm]? = some (.cells #[.int .i64 (r : Int), .int .i64 (c : Int), vL] 34 (0, 0))) := ⟨blk_grown BKm.out hg nM_⟩; have n1_ : Aside0 (w8.heap[g2]? = some (.cells #[.int .i64 0, .int .i64 0, .slice none 0 0] 34 (0, 0))) := ⟨blk_grown BK2.out hg n2_⟩; have n2_ : Aside0 (((Kd.int .i64).R 2 w8 w.heap.size (fun k => k ≠ gm ∧ k ≠ g2) vL2 (L.take (p + j + 1)))) := ⟨ho⟩; have n3_ : Aside0 (Below w.heap.size w w8) := ⟨hb⟩; clear BKm BK2 HR HB; have BKm := n0_; have BK2 := n1_; have HR := n2_; have HB := n3_; clear n0_ n1_ n2_ n3_; clear ho hb hg hat nM_ n2_; obtain ⟨AL2, cL2, eL2⟩ := Kd.R_slice HR.out; have hlen_ : (L.take (p + j + 1)).length = p + j + 1 := (by rw [List.length_take]; have := HPJ.out; omega); rw [hlen_] at eL2; clear hlen_; subst eL2; have hcm : w8.cell? ⟨gm, 2, none⟩ = some vL := (blk_cell BKm.out 2).trans rfl; have hfm := blk_frozen BKm.out 2)
          clear hcm hfm
          go_roundw
          case rel => exact ⟨j + 1, _, by omega, by go_num, ⟨blk_put BKm.out 2 _ rfl⟩, ⟨blk_far BK2.out NE2.out _⟩, ⟨Kd.R_step HR.out (fun k ho _ => Below.heap_setCell _ _ _ k ho.1)⟩, ⟨below_set HB.out GEm.out⟩⟩
          case measure => simp [intOf]; omega
        · have ej : j = c := by omega
          go_wp2
          go_roundw
          case rel => exact ⟨i + 1, _, by omega, by go_num, BKm, BK2, ⟨by have h := HR.out; rw [ej, ← HP.out, ← Nat.succ_mul] at h; exact h⟩, HB⟩
          case measure => simp [intOf]; omega
    · have ei : i = r := by omega
      have hL := HR.out
      rw [ei, ← HG.out.len, List.take_length] at hL
      obtain ⟨AL, cL, eL⟩ := Kd.R_slice hL
      subst eL
      have HL := Aside0.mk hL
      clear hL HR
      have hm0 : wr.cell? ⟨gm, 0, none⟩ = some (.int .i64 (r : Int)) := (blk_cell BKm.out 0).trans rfl
      have hm1 : wr.cell? ⟨gm, 1, none⟩ = some (.int .i64 (c : Int)) := (blk_cell BKm.out 1).trans rfl
      have hm2 : wr.cell? ⟨gm, 2, none⟩ = some (.slice AL L.length cL) := (blk_cell BKm.out 2).trans rfl
      have h20 : wr.cell? ⟨g2, 0, none⟩ = some (.int .i64 0) := (blk_cell BK2.out 0).trans rfl
      have h21 : wr.cell? ⟨g2, 1, none⟩ = some (.int .i64 0) := (blk_cell BK2.out 1).trans rfl
      have h22 : wr.cell? ⟨g2, 2, none⟩ = some (.slice none 0 0) := (blk_cell BK2.out 2).trans rfl
      have f20 := blk_frozen BK2.out 0
      have f21 := blk_frozen BK2.out 1
      have f22 := blk_frozen BK2.out 2
      go_wp2
      refine bodyPost_ret (results_cell_row rfl _ _ g2 34 #[.int .i64 (r : Int), .int .i64 (c : Int), .slice AL L.length cL] (0, 0) _ rfl (by refine blk_put (cs := #[.int .i64 (r : Int), .int .i64 (c : Int), .slice none 0 0]) ?_ 2 _ rfl; refine blk_put (cs := #[.int .i64 (r : Int), .int .i64 0, .slice none 0 0]) ?_ 1 _ rfl; refine blk_put (cs := #[.int .i64 0, .int .i64 0, .slice none 0 0]) ?_ 0 _ rfl; exact BK2.out) Try.underlying34 rfl (by kernel_rfl)) rfl ?_
      exact ⟨_, rfl, Kd.R_mono (Kd.R_step (Kd.R_step (Kd.R_step HL.out (fun k ho _ => Below.heap_setCell _ _ _ k ho.2)) (fun k ho _ => Below.heap_setCell _ _ _ k ho.2)) (fun k ho _ => Below.heap_setCell _ _ _ k ho.2)) (fun _ _ => trivial), below_set (below_set (below_set HB.out GE2.out) GE2.out) GE2.out⟩

end Go.Proofs.Ytcpmlelejlmpdaa.QFnExactMatMul
