-- A text of this session, printed by a program of its own (wip/tools: xpatch.py, xprint.sh, mkq.py). No condition.
import Derived.Test.YtcpmlelejlmpdaaQFnCauchyx0
import Derived.Test.YtcpmlelejlmpdaaQFnCauchyx1
import Derived.Test.YtcpmlelejlmpdaaQFnCauchyx4
namespace Go.Proofs.Ytcpmlelejlmpdaa.QFnCauchy
open Go.RowKit Go.Proofs.YtcpmlelejlmpdaaW.PrintWords Go.Proofs.YtcpmlelejlmpdaaW.PrintLast Go.Proofs.YtcpmlelejlmpdaaW.PrintMore
attribute [local go_sem] max2_int min2_int max_two min_two max_three min_three max_four min_four   -- for this text's walks alone
set_option linter.unusedVariables false
set_option linter.unusedSimpArgs false

/-! ### impl_grid_scale: function 123 -/
/-- A grid whose rows lie in another order: row i is the cut number s i of the array; M: its bytes. -/
structure GridP (W : World) (g R A r c cA : Nat) (gT : Nat) (s : Nat → Nat) (M : Nat → Nat → Nat) : Prop where
  hd : ∃ cR, W.cell? ⟨g, 0, none⟩ = some (.slice (some ⟨R, 0, none⟩) r cR)
  fld : W.cell? ⟨g, 1, none⟩ = some (.pointer (some ⟨gT, 0, none⟩))
  rows : ∀ i, i < r → W.cell? ⟨R, i, none⟩ = some (rowV A c cA (s i))
  rfr : ∀ i, i < r → W.frozen? ⟨R, i, none⟩ = false
  slt : ∀ i, i < r → s i < r
  inj : ∀ i j, i < r → j < r → s i = s j → i = j
  cell : ∀ i k, i < r → k < c → W.cell? ⟨A, s i * c + k, none⟩ = some (.int .u8 (M i k : Int))
  byte : ∀ i k, i < r → k < c → M i k < 256
  free : ∀ k, k < r * c → W.frozen? ⟨A, k, none⟩ = false
  gR : g ≠ R
  gA : g ≠ A
  RA : R ≠ A
  glt : g < W.heap.size
  Rlt : R < W.heap.size
  Alt : A < W.heap.size
  cap : r * c ≤ cA
theorem GridP.below {W W' : World} {g R A r c cA : Nat} {gT : Nat} {s : Nat → Nat} {M : Nat → Nat → Nat} (h : GridP W g R A r c cA gT s M) (hb : Below W.heap.size W W') : GridP W' g R A r c cA gT s M where
  hd := by obtain ⟨cR, h1⟩ := h.hd; exact ⟨cR, pw_cell_below hb h1⟩
  fld := pw_cell_below hb h.fld
  rows := fun i hi => pw_cell_below hb (h.rows i hi)
  rfr := fun i hi => (hb.frozen (p := ⟨R, i, none⟩) h.Rlt).trans (h.rfr i hi)
  slt := h.slt
  inj := h.inj
  cell := fun i k hi hk => pw_cell_below hb (h.cell i k hi hk)
  byte := h.byte
  free := fun k hk => (hb.frozen (p := ⟨A, k, none⟩) h.Alt).trans (h.free k hk)
  gR := h.gR
  gA := h.gA
  RA := h.RA
  glt := Nat.lt_of_lt_of_le h.glt hb.size
  Rlt := Nat.lt_of_lt_of_le h.Rlt hb.size
  Alt := Nat.lt_of_lt_of_le h.Alt hb.size
  cap := h.cap
/-- One cell of a matrix set. -/
def mput (M : Nat → Nat → Nat) (i k v : Nat) : Nat → Nat → Nat := fun a b => if a = i ∧ b = k then v else M a b
theorem gp_ne {c a b k k' : Nat} (hk : k < c) (hk' : k' < c) (h : a * c + k = b * c + k') : a = b ∧ k = k' := by
  have h1 : (a * c + k) / c = a := by rw [Nat.mul_comm, Nat.mul_add_div (by omega), Nat.div_eq_of_lt hk, Nat.add_zero]
  have h2 : (b * c + k') / c = b := by rw [Nat.mul_comm, Nat.mul_add_div (by omega), Nat.div_eq_of_lt hk', Nat.add_zero]
  have h3 : (a * c + k) % c = k := by rw [Nat.mul_comm, Nat.mul_add_mod, Nat.mod_eq_of_lt hk]
  have h4 : (b * c + k') % c = k' := by rw [Nat.mul_comm, Nat.mul_add_mod, Nat.mod_eq_of_lt hk']
  rw [h] at h1 h3
  exact ⟨h1.symm.trans h2, h3.symm.trans h4⟩
theorem GridP.put {W : World} {g R A r c cA : Nat} {gT : Nat} {s : Nat → Nat} {M : Nat → Nat → Nat} (h : GridP W g R A r c cA gT s M) (i k : Nat) (hi : i < r) (hk : k < c) (v : Nat) (hv : v < 256) : GridP (W.setCell ⟨A, s i * c + k, none⟩ (.int .u8 (v : Int))) g R A r c cA gT s (mput M i k v) where
  hd := by obtain ⟨cR, h1⟩ := h.hd; exact ⟨cR, (World.cell?_setCell_far _ _ _ _ (fun e => h.gA e.symm)).trans h1⟩
  fld := (World.cell?_setCell_far _ _ _ _ (fun e => h.gA e.symm)).trans h.fld
  rows := fun j hj => (World.cell?_setCell_far _ _ _ _ (fun e => h.RA e.symm)).trans (h.rows j hj)
  rfr := fun j hj => by rw [World.frozen?_setCell]; exact h.rfr j hj
  slt := h.slt
  inj := h.inj
  cell := fun a b ha hb => by
    unfold mput
    by_cases e : a = i ∧ b = k
    · rw [if_pos e, e.1, e.2]
      exact World.cell?_setCell_same' _ _ _ (by rw [h.cell i k hi hk]; rfl)
    · rw [if_neg e, World.cell?_setCell_other _ _ _ _ (fun x => by injection x with _ x _; obtain ⟨x1, x2⟩ := gp_ne hk hb x; exact e ⟨(h.inj i a hi ha x1).symm, x2.symm⟩)]
      exact h.cell a b ha hb
  byte := fun a b ha hb => by
    unfold mput
    split
    · exact hv
    · exact h.byte a b ha hb
  free := fun j hj => by rw [World.frozen?_setCell]; exact h.free j hj
  gR := h.gR
  gA := h.gA
  RA := h.RA
  glt := by rw [World.size_setCell]; exact h.glt
  Rlt := by rw [World.size_setCell]; exact h.Rlt
  Alt := by rw [World.size_setCell]; exact h.Alt
  cap := h.cap
theorem GridP.same {W : World} {g R A r c cA : Nat} {gT : Nat} {s : Nat → Nat} {M N : Nat → Nat → Nat} (h : GridP W g R A r c cA gT s M) (e : ∀ i k, i < r → k < c → M i k = N i k) : GridP W g R A r c cA gT s N :=
  { h with cell := fun i k hi hk => by rw [← e i k hi hk]; exact h.cell i k hi hk, byte := fun i k hi hk => by rw [← e i k hi hk]; exact h.byte i k hi hk }
theorem gp_tab (a b : Nat) : tabMul a b < 256 := by
  unfold tabMul
  split
  · omega
  · split
    · omega
    · unfold tE
      have all_ : ∀ x ∈ exList, x < 256 := by decide +kernel
      have key : ∀ j, ex j < 256 := fun j => by
        unfold ex
        rw [List.getD_eq_getElem?_getD]
        cases h : exList[j]? with
        | none => decide
        | some x => exact all_ x (List.mem_of_getElem? h)
      split
      · exact key _
      · split
        · exact key _
        · omega
theorem gp_at {s : Nat → Nat} {r c a k : Nat} (h : s a < r) (hk : k < c) : s a * c + k < r * c := by
  have := Nat.mul_le_mul_right c h
  rw [Nat.succ_mul] at this
  omega
/-- What of the world a grid's writing leaves alone: all blocks but its array's. -/
structure OnlyA (A : Nat) (w w' : World) : Prop where
  block : ∀ k, k < w.heap.size → k ≠ A → w'.heap[k]? = w.heap[k]?
  size : w.heap.size ≤ w'.heap.size
theorem OnlyA.refl (A : Nat) (w : World) : OnlyA A w w := ⟨fun _ _ _ => rfl, Nat.le_refl _⟩
theorem OnlyA.step {A : Nat} {w w1 w2 : World} (h : OnlyA A w w1) (h2 : OnlyA A w1 w2) : OnlyA A w w2 := ⟨fun k hk hA => (h2.block k (Nat.lt_of_lt_of_le hk h.size) hA).trans (h.block k hk hA), Nat.le_trans h.size h2.size⟩
theorem GridP.only {W W' : World} {g R A r c cA A' : Nat} {gT : Nat} {s : Nat → Nat} {M : Nat → Nat → Nat} (h : GridP W g R A r c cA gT s M) (ho : OnlyA A' W W') (hg : g ≠ A') (hR : R ≠ A') (hA : A ≠ A') : GridP W' g R A r c cA gT s M where
  hd := by obtain ⟨cR, h1⟩ := h.hd; exact ⟨cR, (World.cell?_of_block (w := W) (ho.block g h.glt hg)).trans h1⟩
  fld := (World.cell?_of_block (w := W) (ho.block g h.glt hg)).trans h.fld
  rows := fun i hi => (World.cell?_of_block (w := W) (ho.block R h.Rlt hR)).trans (h.rows i hi)
  rfr := fun i hi => (World.frozen?_of_block (w := W) (ho.block R h.Rlt hR)).trans (h.rfr i hi)
  slt := h.slt
  inj := h.inj
  cell := fun i k hi hk => (World.cell?_of_block (w := W) (ho.block A h.Alt hA)).trans (h.cell i k hi hk)
  byte := h.byte
  free := fun k hk => (World.frozen?_of_block (w := W) (ho.block A h.Alt hA)).trans (h.free k hk)
  gR := h.gR
  gA := h.gA
  RA := h.RA
  glt := Nat.lt_of_lt_of_le h.glt ho.size
  Rlt := Nat.lt_of_lt_of_le h.Rlt ho.size
  Alt := Nat.lt_of_lt_of_le h.Alt ho.size
  cap := h.cap
/-- A grid as newGrid and gridOf leave it. -/
theorem GridIn.perm {W : World} {g R A r c cA : Nat} {gT : Nat} {L : List Int} (h : GridIn W g R A r c cA gT L) (hg : g < W.heap.size) (hv : ∀ x ∈ L, 0 ≤ x ∧ x < 256) : GridP W g R A r c cA gT (fun i => i) (fun i k => (rd L ((i * c + k : Nat) : Int)).toNat) where
  hd := h.hd
  fld := h.fld
  rows := h.rows
  rfr := h.rfr
  slt := fun _ hi => hi
  inj := fun _ _ _ _ e => e
  cell := fun i k hi hk => by
    have hp : i * c + k < r * c := by have := Nat.mul_le_mul_right c hi; rw [Nat.succ_mul] at this; omega
    have hl : i * c + k < L.length := by rw [h.len]; exact hp
    rw [h.cell _ hp]
    unfold rd
    rw [Int.toNat_natCast, List.getD_eq_getElem?_getD, List.getElem?_eq_getElem hl]
    have h1 := hv _ (List.getElem_mem hl)
    show some (Value.int .u8 (L[i * c + k])) = some (Value.int .u8 (((L[i * c + k]).toNat : Nat) : Int))
    rw [Int.toNat_of_nonneg h1.1]
  byte := fun i k hi hk => by
    have hp : i * c + k < r * c := by have := Nat.mul_le_mul_right c hi; rw [Nat.succ_mul] at this; omega
    have hl : i * c + k < L.length := by rw [h.len]; exact hp
    show (rd L ((i * c + k : Nat) : Int)).toNat < 256
    unfold rd
    rw [Int.toNat_natCast, List.getD_eq_getElem?_getD, List.getElem?_eq_getElem hl]
    have h1 := hv _ (List.getElem_mem hl)
    show (L[i * c + k]).toNat < 256
    omega
  free := h.free
  gR := h.gR
  gA := h.gA
  RA := h.RA
  glt := hg
  Rlt := h.Rlt
  Alt := h.Alt
  cap := h.cap
theorem OnlyA.put {A : Nat} {w wr : World} (h : OnlyA A w wr) (n o : Nat) (v : Value) : OnlyA A w ((wr.drewN n).setCell ⟨A, o, none⟩ v) :=
  h.step ⟨fun k _ hA => (Below.heap_setCell _ _ _ k hA).trans rfl, by rw [World.size_setCell]; exact Nat.le_refl _⟩
theorem TabInv.put {wr : World} {gT A : Nat} (h : TabInv wr gT 255) (hA : gT ≠ A) (n o : Nat) (v : Value) : TabInv ((wr.drewN n).setCell ⟨A, o, none⟩ v) gT 255 := h.block ((Below.heap_setCell _ _ _ gT hA).trans rfl)
theorem GridP.putN {W : World} {g R A r c cA : Nat} {gT : Nat} {s : Nat → Nat} {M N : Nat → Nat → Nat} (h : GridP W g R A r c cA gT s M) (n i k p : Nat) (hp : s i * c = p) (hi : i < r) (hk : k < c) (v : Nat) (hv : v < 256) (e : mput M i k v = N) : GridP ((W.drewN n).setCell ⟨A, p + k, none⟩ (.int .u8 (v : Int))) g R A r c cA gT s N := by
  subst hp
  subst e
  exact (h.below (Drawn0.below (w' := W.drewN n) ⟨⟨n, rfl⟩⟩)).put i k hi hk v hv
def scaleM (M : Nat → Nat → Nat) (a by_ n : Nat) : Nat → Nat → Nat := fun i k => if i = a ∧ k < n then tabMul (M i k) by_ else M i k
theorem scaleM_step {M : Nat → Nat → Nat} {a b i x : Nat} (hx : M a i = x) : mput (scaleM M a b i) a i (tabMul x b) = scaleM M a b (i + 1) := by
  funext p q
  unfold mput scaleM
  by_cases e : p = a ∧ q = i
  · obtain ⟨rfl, rfl⟩ := e
    rw [if_pos ⟨rfl, rfl⟩, if_pos ⟨rfl, Nat.lt_succ_self _⟩, hx]
  · rw [if_neg e]
    by_cases e2 : p = a ∧ q < i
    · rw [if_pos e2, if_pos ⟨e2.1, by omega⟩]
    · rw [if_neg e2, if_neg (fun h => e2 ⟨h.1, by have : q ≠ i := fun z => e ⟨h.1, z⟩; omega⟩)]

set_option maxHeartbeats 8000000 in
set_option maxRecDepth 100000 in
theorem impl_grid_scale.callsN (g R A r c cA gT : Nat) (s : Nat → Nat) (M : Nat → Nat → Nat) (a b : Nat) (ha : a < r) (hb : b < 256) (hc1 : 1 ≤ c) (hr : r ≤ 64) (hc : c ≤ 64) (w0 w : World) (hG : GridP w g R A r c cA gT s M) (hT : TabInv w gT 255) (hTA : gT ≠ A) (h0 : w0.heap.size ≤ A) (hB0 : Below w0.heap.size w0 w) :
    Calls Try.prog 123 #[.pointer (some ⟨g, 0, none⟩), .int .i64 (a : Int), .int .u8 (b : Int)] w fun e w' => e = .returned (.tuple #[]) ∧ GridP w' g R A r c cA gT s (scaleM M a b c) ∧ TabInv w' gT 255 ∧ OnlyA A w w' ∧ Below w0.heap.size w0 w' := by
  obtain ⟨cR, hgd⟩ := hG.hd
  have hgr := hG.rows a ha
  obtain ⟨p, hp⟩ : ∃ p, s a * c = p := ⟨_, rfl⟩
  unfold rowV at hgr
  rw [hp] at hgr
  have HP := Aside0.mk hp
  have HS := Aside0.mk (hG.slt a ha)
  have HG := Aside0.mk hG
  have HT := Aside0.mk hT
  have HB := Aside0.mk hB0
  clear hG hT hp hB0
  go_enter Try.func123, Try.ntmps123
  go_wp2
  clear hgd hgr
  go_loopw [16] (fun v16 wr => ∃ i : Nat, i ≤ c ∧ v16 = .int .i64 (i : Int) ∧ Aside0 (GridP wr g R A r c cA gT s (scaleM M a b i)) ∧ Aside0 (TabInv wr gT 255) ∧ Aside0 (OnlyA A w wr) ∧ Aside0 (Below w0.heap.size w0 wr)) (fun v16 _ => c - (intOf v16).toNat)
  case atStart => exact ⟨0, Nat.zero_le _, rfl, ⟨HG.out.same (fun i k _ _ => by unfold scaleM; rw [if_neg (fun h => Nat.not_lt_zero _ h.2)])⟩, HT, ⟨OnlyA.refl _ _⟩, HB⟩
  case round =>
    clear HB HG HT
    obtain ⟨i, hi, rfl, HG, HT, HO, HB⟩ := hrel
    by_cases hlt : i < c
    · obtain ⟨x, hx⟩ : ∃ x, M a i = x := ⟨_, rfl⟩
      have hxl := HG.out.byte a i ha hlt
      have hce := HG.out.cell a i ha hlt
      have hfr := HG.out.free (s a * c + i) (gp_at HS.out hlt)
      have hxe : scaleM M a b i a i = x := by unfold scaleM; rw [if_neg (fun h => Nat.lt_irrefl _ h.2), hx]
      rw [hxe] at hxl hce
      rw [HP.out] at hce hfr
      obtain ⟨cR, hgd⟩ := HG.out.hd
      have hgr := HG.out.rows a ha
      unfold rowV at hgr
      rw [HP.out] at hgr
      have hgf := HG.out.fld
      have HX := Aside0.mk hx
      have HGD := Aside0.mk hgd
      have HGR := Aside0.mk hgr
      have HGF := Aside0.mk hgf
      have HCE := Aside0.mk hce
      have HFR := Aside0.mk hfr
      clear hgd hgr hgf hfr hxe hx
      go_wp2
      clear hce
      refine start_ (n := 17) (S := fun w' => w'.cell? ⟨g, 0, none⟩ = some (.slice (some ⟨R, 0, none⟩) r cR) ∧ w'.cell? ⟨R, a, none⟩ = some (.slice (some ⟨A, p, none⟩) c (cA - p)) ∧ w'.cell? ⟨g, 1, none⟩ = some (.pointer (some ⟨gT, 0, none⟩))) (ds := [16]) #[false, false, false, false, false, false, false, false, false, false, false, false, false, false, false, false, false] (by kernel_rfl) rfl rfl ⟨HGD.out, HGR.out, HGF.out⟩ (fun hHeld => ?_)
      refine pure_ (i := 0) (N := some 21) (v := ?_) (a' := ?_) #[true, false, false, false, false, false, false, false, false, false, false, false, false, false, false, false, false] rfl rfl (by kernel_rfl) (fun _ _ _ h => h) (Or.inl ⟨by rfl, ?_⟩) ?_ ?_; rotate_left; intro w'; go_simp; with_reducible rfl; rotate_left; simp only [Cap.pz]; rfl
      refine pure_ (i := 1) (N := some 22) (v := ?_) (a' := ?_) #[true, true, false, false, false, false, false, false, false, false, false, false, false, false, false, false, false] rfl rfl (by kernel_rfl) (fun _ _ _ h => h) (Or.inl ⟨by rfl, ?_⟩) ?_ ?_; rotate_left; intro w'; go_simp; with_reducible rfl; rotate_left; simp only [Cap.pz]; rfl
      refine pure_ (i := 2) (N := some 23) (v := ?_) (a' := ?_) #[true, true, true, false, false, false, false, false, false, false, false, false, false, false, false, false, false] rfl rfl (by kernel_rfl) (fun _ _ _ h => h) (Or.inl ⟨by rfl, ?_⟩) ?_ ?_; rotate_left; intro w'; go_simp; with_reducible rfl; rotate_left; simp only [Cap.pz]; rfl
      refine take_ (i := 3) (N := some 24) (v := ?_) (a' := ?_) #[true, true, true, true, false, false, false, false, false, false, false, false, false, false, false, false, false] rfl rfl (by kernel_rfl) (fun _ _ _ h => h) (Or.inl ⟨by rfl, ?_⟩) hHeld ?_ ?_; rotate_left; rintro w' ⟨s0, s1, s2⟩; go_simp; with_reducible rfl; rotate_left; simp only [Cap.pz]; rfl
      refine pure_ (i := 4) (N := some 25) (v := ?_) (a' := ?_) #[true, true, true, true, true, false, false, false, false, false, false, false, false, false, false, false, false] rfl rfl (by kernel_rfl) (fun _ _ _ h => h) (Or.inl ⟨by rfl, ?_⟩) ?_ ?_; rotate_left; intro w'; go_simp; with_reducible rfl; rotate_left; simp only [Cap.pz]; rfl
      refine pure_ (i := 5) (N := some 26) (v := ?_) (a' := ?_) #[true, true, true, true, true, true, false, false, false, false, false, false, false, false, false, false, false] rfl rfl (by kernel_rfl) (fun _ _ _ h => h) (Or.inl ⟨by rfl, ?_⟩) ?_ ?_; rotate_left; intro w'; go_simp; with_reducible rfl; rotate_left; simp only [Cap.pz]; rfl
      refine take_ (i := 6) (N := some 27) (v := ?_) (a' := ?_) #[true, true, true, true, true, true, true, false, false, false, false, false, false, false, false, false, false] rfl rfl (by kernel_rfl) (fun _ _ _ h => h) (Or.inl ⟨by rfl, ?_⟩) hHeld ?_ ?_; rotate_left; rintro w' ⟨s0, s1, s2⟩; go_simp; with_reducible rfl; rotate_left; simp only [Cap.pz]; rfl
      refine pure_ (i := 7) (N := some 28) (v := ?_) (a' := ?_) #[true, true, true, true, true, true, true, true, false, false, false, false, false, false, false, false, false] rfl rfl (by kernel_rfl) (fun _ _ _ h => h) (Or.inl ⟨by rfl, ?_⟩) ?_ ?_; rotate_left; intro w'; go_simp; with_reducible rfl; rotate_left; simp only [Cap.pz]; rfl
      refine pure_ (i := 8) (N := some 29) (v := ?_) (a' := ?_) #[true, true, true, true, true, true, true, true, true, false, false, false, false, false, false, false, false] rfl rfl (by kernel_rfl) (fun _ _ _ h => h) (Or.inl ⟨by rfl, ?_⟩) ?_ ?_; rotate_left; intro w'; go_simp; with_reducible rfl; rotate_left; simp only [Cap.pz]; rfl
      refine pure_ (i := 9) (N := some 30) (v := ?_) (a' := ?_) #[true, true, true, true, true, true, true, true, true, true, false, false, false, false, false, false, false] rfl rfl (by kernel_rfl) (fun _ _ _ h => h) (Or.inl ⟨by rfl, ?_⟩) ?_ ?_; rotate_left; intro w'; go_simp; with_reducible rfl; rotate_left; simp only [Cap.pz]; rfl
      refine pure_ (i := 10) (N := some 31) (v := ?_) (a' := ?_) #[true, true, true, true, true, true, true, true, true, true, true, false, false, false, false, false, false] rfl rfl (by kernel_rfl) (fun _ _ _ h => h) (Or.inl ⟨by rfl, ?_⟩) ?_ ?_; rotate_left; intro w'; go_simp; with_reducible rfl; rotate_left; simp only [Cap.pz]; rfl
      refine take_ (i := 11) (N := some 32) (v := ?_) (a' := ?_) #[true, true, true, true, true, true, true, true, true, true, true, true, false, false, false, false, false] rfl rfl (by kernel_rfl) (fun _ _ _ h => h) (Or.inl ⟨by rfl, ?_⟩) hHeld ?_ ?_; rotate_left; rintro w' ⟨s0, s1, s2⟩; go_simp; with_reducible rfl; rotate_left; simp only [Cap.pz]; rfl
      refine pure_ (i := 12) (N := some 33) (v := ?_) (a' := ?_) #[true, true, true, true, true, true, true, true, true, true, true, true, true, false, false, false, false] rfl rfl (by kernel_rfl) (fun _ _ _ h => h) (Or.inl ⟨by rfl, ?_⟩) ?_ ?_; rotate_left; intro w'; go_simp; with_reducible rfl; rotate_left; simp only [Cap.pz]; rfl
      refine pure_ (i := 13) (N := some 34) (v := ?_) (a' := ?_) #[true, true, true, true, true, true, true, true, true, true, true, true, true, true, false, false, false] rfl rfl (by kernel_rfl) (fun _ _ _ h => h) (Or.inl ⟨by rfl, ?_⟩) ?_ ?_; rotate_left; intro w'; go_simp; with_reducible rfl; rotate_left; simp only [Cap.pz]; rfl
      refine one_ (i := 14) (N := some 35) #[true, true, true, true, true, true, true, true, true, true, true, true, true, true, true, false, false] rfl rfl (by kernel_rfl) (by decide) (fun Kq hK => ?_)
      refine goes_ Try.func78 (by kernel_rfl) rfl #[.pointer (some ⟨gT, 0, none⟩), .int .u8 (x : Int), .int .u8 (b : Int)] (by rfl) rfl rfl (by simp only [List.map_toArray, List.map_cons, List.map_nil]; rfl) ?_
      with_reducible refine (impl_tables8_mul.callsN gT x hxl b hb wr.drew (HT.out.block rfl)).mono ?_
      rintro e w' ⟨rfl, ⟨nd, rfl⟩⟩
      refine ⟨_, rfl, ?_⟩
      refine hK.out _ _ ⟨HGD.out, HGR.out, HGF.out⟩ (fun hHeld => ?_)
      clear hK Kq
      refine norm_ (a' := ?_) ?_ ?_; rotate_left; show Act.put _ (some 35) _ = _; simp only [Cap.pz]; rfl
      rename_i nd
      refine pure_ (i := 15) (N := some 36) (v := ?_) (a' := ?_) #[true, true, true, true, true, true, true, true, true, true, true, true, true, true, true, true, false] rfl rfl (by kernel_rfl) (fun _ _ _ h => h) (Or.inl ⟨by rfl, ?_⟩) ?_ ?_; rotate_left; intro w'; go_simp; with_reducible rfl; rotate_left; simp only [Cap.pz]; rfl
      refine last_ (i := 16) (N := none) #[true, true, true, true, true, true, true, true, true, true, true, true, true, true, true, true, true] rfl rfl (by kernel_rfl) (by decide) (fun Kq hK => ?_)
      have hcq := HCE.out
      have hfq := HFR.out
      refine skip_ (w1 := ?_) (by rfl) rfl ?_ ?_
      rotate_left
      · go_simp
        rfl
      refine hK.out _ _ ?_
      clear hK Kq
      refine done_ (by kernel_rfl) ?_
      go_wp2
      go_roundw
      case rel => exact ⟨i + 1, by omega, by go_num, ⟨HG.out.putN (1 + nd) a i p HP.out ha hlt _ (gp_tab x b) (scaleM_step HX.out)⟩, ⟨HT.out.put hTA _ _ _⟩, ⟨HO.out.put _ _ _⟩, ⟨below_set (below_step HB.out (Drawn0.below (w' := wr.drewN (1 + nd)) ⟨⟨1 + nd, rfl⟩⟩)) h0⟩⟩
      case measure => simp [intOf]; omega
    · have ei : i = c := by omega
      go_wp2
      refine bodyPost_end (results_none rfl _ _ _) rfl ?_
      have h := HG.out
      rw [ei] at h
      exact ⟨rfl, h, HT.out, HO.out, HB.out⟩

/-! ### impl_grid_add: function 124 -/
def addM (M : Nat → Nat → Nat) (a f by_ n : Nat) : Nat → Nat → Nat := fun i k => if i = a ∧ k < n then M i k ^^^ tabMul (M f k) by_ else M i k
theorem addM_step {M : Nat → Nat → Nat} {a f b i x y : Nat} (hx : M a i = x) (hy : M f i = y) : mput (addM M a f b i) a i (x ^^^ tabMul y b) = addM M a f b (i + 1) := by
  funext p q
  unfold mput addM
  by_cases e : p = a ∧ q = i
  · obtain ⟨rfl, rfl⟩ := e
    rw [if_pos ⟨rfl, rfl⟩, if_pos ⟨rfl, Nat.lt_succ_self _⟩, hx, hy]
  · rw [if_neg e]
    by_cases e2 : p = a ∧ q < i
    · rw [if_pos e2, if_pos ⟨e2.1, by omega⟩]
    · rw [if_neg e2, if_neg (fun h => e2 ⟨h.1, by have : q ≠ i := fun z => e ⟨h.1, z⟩; omega⟩)]
theorem gp_xor (a b : Nat) (ha : a < 256) (hb : b < 256) : Go.bits .xor .u8 (a : Int) (b : Int) = ((a ^^^ b : Nat) : Int) := by
  have hx : a ^^^ b < 2 ^ 8 := Nat.xor_lt_two_pow (by simpa using ha) (by simpa using hb)
  show IntKind.u8.wrap (((BitVec.ofInt 8 (a : Int)) ^^^ (BitVec.ofInt 8 (b : Int))).toNat : Int) = _
  rw [BitVec.toNat_xor, BitVec.ofInt_natCast, BitVec.ofInt_natCast, BitVec.toNat_ofNat, BitVec.toNat_ofNat, Nat.mod_eq_of_lt (by omega : a < 2 ^ 8), Nat.mod_eq_of_lt (by omega : b < 2 ^ 8), IntKind.wrap_u8]
  omega
theorem gp_xlt (x y : Nat) (hx : x < 256) (hy : y < 256) : x ^^^ y < 256 := Nat.xor_lt_two_pow (n := 8) hx hy
set_option maxHeartbeats 8000000 in
set_option maxRecDepth 100000 in
theorem impl_grid_add.callsN (g R A r c cA gT : Nat) (s : Nat → Nat) (M : Nat → Nat → Nat) (a f b : Nat) (ha : a < r) (hf : f < r) (hne : f ≠ a) (hb : b < 256) (hc1 : 1 ≤ c) (hr : r ≤ 64) (hc : c ≤ 64) (w0 w : World) (hG : GridP w g R A r c cA gT s M) (hT : TabInv w gT 255) (hTA : gT ≠ A) (h0 : w0.heap.size ≤ A) (hB0 : Below w0.heap.size w0 w) :
    Calls Try.prog 124 #[.pointer (some ⟨g, 0, none⟩), .int .i64 (a : Int), .int .i64 (f : Int), .int .u8 (b : Int)] w fun e w' => e = .returned (.tuple #[]) ∧ GridP w' g R A r c cA gT s (addM M a f b c) ∧ TabInv w' gT 255 ∧ OnlyA A w w' ∧ Below w0.heap.size w0 w' := by
  obtain ⟨cR, hgd⟩ := hG.hd
  have hgr := hG.rows f hf
  obtain ⟨p, hp⟩ : ∃ p, s a * c = p := ⟨_, rfl⟩
  obtain ⟨q, hq⟩ : ∃ q, s f * c = q := ⟨_, rfl⟩
  unfold rowV at hgr
  rw [hq] at hgr
  have HP := Aside0.mk hp
  have HQ := Aside0.mk hq
  have HS := Aside0.mk (hG.slt a ha)
  have HG := Aside0.mk hG
  have HT := Aside0.mk hT
  have HB := Aside0.mk hB0
  clear hG hT hp hq hB0
  go_enter Try.func124, Try.ntmps124
  go_wp2
  clear hgd hgr
  go_loopw [18] (fun v18 wr => ∃ i : Nat, i ≤ c ∧ v18 = .int .i64 (i : Int) ∧ Aside0 (GridP wr g R A r c cA gT s (addM M a f b i)) ∧ Aside0 (TabInv wr gT 255) ∧ Aside0 (OnlyA A w wr) ∧ Aside0 (Below w0.heap.size w0 wr)) (fun v18 _ => c - (intOf v18).toNat)
  case atStart => exact ⟨0, Nat.zero_le _, rfl, ⟨HG.out.same (fun i k _ _ => by unfold addM; rw [if_neg (fun h => Nat.not_lt_zero _ h.2)])⟩, HT, ⟨OnlyA.refl _ _⟩, HB⟩
  case round =>
    clear HB HG HT
    obtain ⟨i, hi, rfl, HG, HT, HO, HB⟩ := hrel
    by_cases hlt : i < c
    · obtain ⟨x, hx⟩ : ∃ x, M a i = x := ⟨_, rfl⟩
      obtain ⟨y, hy⟩ : ∃ y, M f i = y := ⟨_, rfl⟩
      have hxl := HG.out.byte a i ha hlt
      have hyl := HG.out.byte f i hf hlt
      have hcx := HG.out.cell a i ha hlt
      have hce := HG.out.cell f i hf hlt
      have hfr := HG.out.free (s a * c + i) (gp_at HS.out hlt)
      have hxe : addM M a f b i a i = x := by unfold addM; rw [if_neg (fun h => Nat.lt_irrefl _ h.2), hx]
      have hye : addM M a f b i f i = y := by unfold addM; rw [if_neg (fun h => hne h.1), hy]
      rw [hxe] at hxl hcx
      rw [hye] at hyl hce
      rw [HP.out] at hcx hfr
      rw [HQ.out] at hce
      have HZ := Aside0.mk (gp_xor x (tabMul y b) hxl (gp_tab y b))
      have HZL := Aside0.mk (gp_xlt x (tabMul y b) hxl (gp_tab y b))
      obtain ⟨cR, hgd⟩ := HG.out.hd
      have hgr := HG.out.rows a ha
      unfold rowV at hgr
      rw [HP.out] at hgr
      have hgf := HG.out.fld
      have HX := Aside0.mk hx
      have HY := Aside0.mk hy
      have HGD := Aside0.mk hgd
      have HGR := Aside0.mk hgr
      have HGF := Aside0.mk hgf
      have HCX := Aside0.mk hcx
      have HFR := Aside0.mk hfr
      clear hgd hgr hgf hfr hxe hye hx hy hcx
      go_wp2
      clear hce
      refine start_ (n := 20) (S := fun w' => w'.cell? ⟨g, 0, none⟩ = some (.slice (some ⟨R, 0, none⟩) r cR) ∧ w'.cell? ⟨R, a, none⟩ = some (.slice (some ⟨A, p, none⟩) c (cA - p)) ∧ w'.cell? ⟨A, p + i, none⟩ = some (.int .u8 (x : Int)) ∧ w'.cell? ⟨g, 1, none⟩ = some (.pointer (some ⟨gT, 0, none⟩))) (ds := [19]) #[false, false, false, false, false, false, false, false, false, false, false, false, false, false, false, false, false, false, false, false] (by kernel_rfl) rfl rfl ⟨HGD.out, HGR.out, HCX.out, HGF.out⟩ (fun hHeld => ?_)
      refine pure_ (i := 0) (N := some 23) (v := ?_) (a' := ?_) #[true, false, false, false, false, false, false, false, false, false, false, false, false, false, false, false, false, false, false, false] rfl rfl (by kernel_rfl) (fun _ _ _ h => h) (Or.inl ⟨by rfl, ?_⟩) ?_ ?_; rotate_left; intro w'; go_simp; with_reducible rfl; rotate_left; simp only [Cap.pz]; rfl
      refine pure_ (i := 1) (N := some 24) (v := ?_) (a' := ?_) #[true, true, false, false, false, false, false, false, false, false, false, false, false, false, false, false, false, false, false, false] rfl rfl (by kernel_rfl) (fun _ _ _ h => h) (Or.inl ⟨by rfl, ?_⟩) ?_ ?_; rotate_left; intro w'; go_simp; with_reducible rfl; rotate_left; simp only [Cap.pz]; rfl
      refine pure_ (i := 2) (N := some 25) (v := ?_) (a' := ?_) #[true, true, true, false, false, false, false, false, false, false, false, false, false, false, false, false, false, false, false, false] rfl rfl (by kernel_rfl) (fun _ _ _ h => h) (Or.inl ⟨by rfl, ?_⟩) ?_ ?_; rotate_left; intro w'; go_simp; with_reducible rfl; rotate_left; simp only [Cap.pz]; rfl
      refine take_ (i := 3) (N := some 26) (v := ?_) (a' := ?_) #[true, true, true, true, false, false, false, false, false, false, false, false, false, false, false, false, false, false, false, false] rfl rfl (by kernel_rfl) (fun _ _ _ h => h) (Or.inl ⟨by rfl, ?_⟩) hHeld ?_ ?_; rotate_left; rintro w' ⟨s0, s1, s2, s3⟩; go_simp; with_reducible rfl; rotate_left; simp only [Cap.pz]; rfl
      refine pure_ (i := 4) (N := some 27) (v := ?_) (a' := ?_) #[true, true, true, true, true, false, false, false, false, false, false, false, false, false, false, false, false, false, false, false] rfl rfl (by kernel_rfl) (fun _ _ _ h => h) (Or.inl ⟨by rfl, ?_⟩) ?_ ?_; rotate_left; intro w'; go_simp; with_reducible rfl; rotate_left; simp only [Cap.pz]; rfl
      refine pure_ (i := 5) (N := some 28) (v := ?_) (a' := ?_) #[true, true, true, true, true, true, false, false, false, false, false, false, false, false, false, false, false, false, false, false] rfl rfl (by kernel_rfl) (fun _ _ _ h => h) (Or.inl ⟨by rfl, ?_⟩) ?_ ?_; rotate_left; intro w'; go_simp; with_reducible rfl; rotate_left; simp only [Cap.pz]; rfl
      refine take_ (i := 6) (N := some 29) (v := ?_) (a' := ?_) #[true, true, true, true, true, true, true, false, false, false, false, false, false, false, false, false, false, false, false, false] rfl rfl (by kernel_rfl) (fun _ _ _ h => h) (Or.inl ⟨by rfl, ?_⟩) hHeld ?_ ?_; rotate_left; rintro w' ⟨s0, s1, s2, s3⟩; go_simp; with_reducible rfl; rotate_left; simp only [Cap.pz]; rfl
      refine pure_ (i := 7) (N := some 30) (v := ?_) (a' := ?_) #[true, true, true, true, true, true, true, true, false, false, false, false, false, false, false, false, false, false, false, false] rfl rfl (by kernel_rfl) (fun _ _ _ h => h) (Or.inl ⟨by rfl, ?_⟩) ?_ ?_; rotate_left; intro w'; go_simp; with_reducible rfl; rotate_left; simp only [Cap.pz]; rfl
      refine pure_ (i := 8) (N := some 31) (v := ?_) (a' := ?_) #[true, true, true, true, true, true, true, true, true, false, false, false, false, false, false, false, false, false, false, false] rfl rfl (by kernel_rfl) (fun _ _ _ h => h) (Or.inl ⟨by rfl, ?_⟩) ?_ ?_; rotate_left; intro w'; go_simp; with_reducible rfl; rotate_left; simp only [Cap.pz]; rfl
      refine take_ (i := 9) (N := some 32) (v := ?_) (a' := ?_) #[true, true, true, true, true, true, true, true, true, true, false, false, false, false, false, false, false, false, false, false] rfl rfl (by kernel_rfl) (fun _ _ _ h => h) (Or.inl ⟨by rfl, ?_⟩) hHeld ?_ ?_; rotate_left; rintro w' ⟨s0, s1, s2, s3⟩; go_simp; with_reducible rfl; rotate_left; simp only [Cap.pz]; rfl
      refine pure_ (i := 10) (N := some 33) (v := ?_) (a' := ?_) #[true, true, true, true, true, true, true, true, true, true, true, false, false, false, false, false, false, false, false, false] rfl rfl (by kernel_rfl) (fun _ _ _ h => h) (Or.inl ⟨by rfl, ?_⟩) ?_ ?_; rotate_left; intro w'; go_simp; with_reducible rfl; rotate_left; simp only [Cap.pz]; rfl
      refine pure_ (i := 11) (N := some 34) (v := ?_) (a' := ?_) #[true, true, true, true, true, true, true, true, true, true, true, true, false, false, false, false, false, false, false, false] rfl rfl (by kernel_rfl) (fun _ _ _ h => h) (Or.inl ⟨by rfl, ?_⟩) ?_ ?_; rotate_left; intro w'; go_simp; with_reducible rfl; rotate_left; simp only [Cap.pz]; rfl
      refine pure_ (i := 12) (N := some 35) (v := ?_) (a' := ?_) #[true, true, true, true, true, true, true, true, true, true, true, true, true, false, false, false, false, false, false, false] rfl rfl (by kernel_rfl) (fun _ _ _ h => h) (Or.inl ⟨by rfl, ?_⟩) ?_ ?_; rotate_left; intro w'; go_simp; with_reducible rfl; rotate_left; simp only [Cap.pz]; rfl
      refine take_ (i := 13) (N := some 36) (v := ?_) (a' := ?_) #[true, true, true, true, true, true, true, true, true, true, true, true, true, true, false, false, false, false, false, false] rfl rfl (by kernel_rfl) (fun _ _ _ h => h) (Or.inl ⟨by rfl, ?_⟩) hHeld ?_ ?_; rotate_left; rintro w' ⟨s0, s1, s2, s3⟩; go_simp; with_reducible rfl; rotate_left; simp only [Cap.pz]; rfl
      refine pure_ (i := 14) (N := some 37) (v := ?_) (a' := ?_) #[true, true, true, true, true, true, true, true, true, true, true, true, true, true, true, false, false, false, false, false] rfl rfl (by kernel_rfl) (fun _ _ _ h => h) (Or.inl ⟨by rfl, ?_⟩) ?_ ?_; rotate_left; intro w'; go_simp; with_reducible rfl; rotate_left; simp only [Cap.pz]; rfl
      refine pure_ (i := 15) (N := some 38) (v := ?_) (a' := ?_) #[true, true, true, true, true, true, true, true, true, true, true, true, true, true, true, true, false, false, false, false] rfl rfl (by kernel_rfl) (fun _ _ _ h => h) (Or.inl ⟨by rfl, ?_⟩) ?_ ?_; rotate_left; intro w'; go_simp; with_reducible rfl; rotate_left; simp only [Cap.pz]; rfl
      refine one_ (i := 16) (N := some 39) #[true, true, true, true, true, true, true, true, true, true, true, true, true, true, true, true, true, false, false, false] rfl rfl (by kernel_rfl) (by decide) (fun Kq hK => ?_)
      refine goes_ Try.func78 (by kernel_rfl) rfl #[.pointer (some ⟨gT, 0, none⟩), .int .u8 (y : Int), .int .u8 (b : Int)] (by rfl) rfl rfl (by simp only [List.map_toArray, List.map_cons, List.map_nil]; rfl) ?_
      with_reducible refine (impl_tables8_mul.callsN gT y hyl b hb wr.drew (HT.out.block rfl)).mono ?_
      rintro e w' ⟨rfl, ⟨nd, rfl⟩⟩
      refine ⟨_, rfl, ?_⟩
      refine hK.out _ _ ⟨HGD.out, HGR.out, HCX.out, HGF.out⟩ (fun hHeld => ?_)
      clear hK Kq
      refine norm_ (a' := ?_) ?_ ?_; rotate_left; show Act.put _ (some 39) _ = _; simp only [Cap.pz]; rfl
      rename_i nd
      refine pure_ (i := 17) (N := some 40) (v := ?_) (a' := ?_) #[true, true, true, true, true, true, true, true, true, true, true, true, true, true, true, true, true, true, false, false] rfl rfl (by kernel_rfl) (fun _ _ _ h => h) (Or.inl ⟨by rfl, ?_⟩) ?_ ?_; rotate_left; intro w'; go_simp; with_reducible rfl; rotate_left; simp only [Cap.pz]; rfl
      refine pure_ (i := 18) (N := some 41) (v := ?_) (a' := ?_) #[true, true, true, true, true, true, true, true, true, true, true, true, true, true, true, true, true, true, true, false] rfl rfl (by kernel_rfl) (fun _ _ _ h => h) (Or.inl ⟨by rfl, ?_⟩) ?_ ?_; rotate_left; intro w'; go_simp; with_reducible rfl; rotate_left; simp only [Cap.pz]; rfl
      refine last_ (i := 19) (N := none) #[true, true, true, true, true, true, true, true, true, true, true, true, true, true, true, true, true, true, true, true] rfl rfl (by kernel_rfl) (by decide) (fun Kq hK => ?_)
      have hcq := HCX.out
      have hfq := HFR.out
      refine skip_ (w1 := ?_) (by rfl) rfl ?_ ?_
      rotate_left
      · go_simp
        rfl
      refine hK.out _ _ ?_
      clear hK Kq
      refine done_ (by kernel_rfl) ?_
      go_wp2
      go_roundw
      case rel => exact ⟨i + 1, by omega, by go_num, ⟨by rw [HZ.out]; exact HG.out.putN (1 + nd) a i p HP.out ha hlt _ HZL.out (addM_step HX.out HY.out)⟩, ⟨HT.out.put hTA _ _ _⟩, ⟨HO.out.put _ _ _⟩, ⟨below_set (below_step HB.out (Drawn0.below (w' := wr.drewN (1 + nd)) ⟨⟨1 + nd, rfl⟩⟩)) h0⟩⟩
      case measure => simp [intOf]; omega
    · have ei : i = c := by omega
      go_wp2
      refine bodyPost_end (results_none rfl _ _ _) rfl ?_
      have h := HG.out
      rw [ei] at h
      exact ⟨rfl, h, HT.out, HO.out, HB.out⟩

/-! ### impl_grid_reduce: function 107 -/
def swp {α : Type} (s : Nat → α) (a b : Nat) : Nat → α := fun i => if i = b then s a else if i = a then s b else s i
theorem GridP.swap {W : World} {g R A r c cA : Nat} {gT : Nat} {s : Nat → Nat} {M : Nat → Nat → Nat} (h : GridP W g R A r c cA gT s M) (a b : Nat) (ha : a < r) (hb : b < r) : GridP ((W.setCell ⟨R, a, none⟩ (rowV A c cA (s b))).setCell ⟨R, b, none⟩ (rowV A c cA (s a))) g R A r c cA gT (swp s a b) (swp M a b) where
  hd := by obtain ⟨cR, h1⟩ := h.hd; exact ⟨cR, (World.cell?_setCell_far _ _ _ _ (fun e => h.gR e.symm)).trans ((World.cell?_setCell_far _ _ _ _ (fun e => h.gR e.symm)).trans h1)⟩
  fld := (World.cell?_setCell_far _ _ _ _ (fun e => h.gR e.symm)).trans ((World.cell?_setCell_far _ _ _ _ (fun e => h.gR e.symm)).trans h.fld)
  rows := fun j hj => by
    unfold swp
    by_cases e : j = b
    · subst e
      rw [if_pos rfl]
      refine World.cell?_setCell_same' _ _ _ ?_
      by_cases e2 : a = j
      · subst e2
        rw [World.cell?_setCell_same' _ _ _ (by rw [h.rows a ha]; rfl)]
        rfl
      · rw [World.cell?_setCell_other _ _ _ _ (fun x => by injection x with _ x _; exact e2 x), h.rows j hj]
        rfl
    · rw [if_neg e, World.cell?_setCell_other _ _ _ _ (fun x => by injection x with _ x _; exact e x.symm)]
      by_cases e2 : j = a
      · subst e2
        rw [if_pos rfl]
        exact World.cell?_setCell_same' _ _ _ (by rw [h.rows j hj]; rfl)
      · rw [if_neg e2, World.cell?_setCell_other _ _ _ _ (fun x => by injection x with _ x _; exact e2 x.symm)]
        exact h.rows j hj
  rfr := fun j hj => by rw [World.frozen?_setCell, World.frozen?_setCell]; exact h.rfr j hj
  slt := fun j hj => by
    unfold swp
    split
    · exact h.slt a ha
    · split
      · exact h.slt b hb
      · exact h.slt j hj
  inj := fun i j hi hj e => by
    unfold swp at e
    have := h.inj i j hi hj
    have := h.inj a b ha hb
    have := h.inj b a hb ha
    have := h.inj i a hi ha
    have := h.inj i b hi hb
    have := h.inj a j ha hj
    have := h.inj b j hb hj
    have := h.inj j a hj ha
    have := h.inj j b hj hb
    have := h.inj a i ha hi
    have := h.inj b i hb hi
    split at e <;> split at e <;> (try split at e) <;> (try split at e) <;> omega
  cell := fun i k hi hk => by
    rw [World.cell?_setCell_far _ _ _ _ h.RA, World.cell?_setCell_far _ _ _ _ h.RA]
    unfold swp
    by_cases e : i = b
    · rw [if_pos e, if_pos e]; exact h.cell a k ha hk
    · rw [if_neg e, if_neg e]
      by_cases e2 : i = a
      · rw [if_pos e2, if_pos e2]; exact h.cell b k hb hk
      · rw [if_neg e2, if_neg e2]; exact h.cell i k hi hk
  byte := fun i k hi hk => by
    unfold swp
    by_cases e : i = b
    · rw [if_pos e]; exact h.byte a k ha hk
    · rw [if_neg e]
      by_cases e2 : i = a
      · rw [if_pos e2]; exact h.byte b k hb hk
      · rw [if_neg e2]; exact h.byte i k hi hk
  free := fun j hj => by rw [World.frozen?_setCell, World.frozen?_setCell]; exact h.free j hj
  gR := h.gR
  gA := h.gA
  RA := h.RA
  glt := by rw [World.size_setCell, World.size_setCell]; exact h.glt
  Rlt := by rw [World.size_setCell, World.size_setCell]; exact h.Rlt
  Alt := by rw [World.size_setCell, World.size_setCell]; exact h.Alt
  cap := h.cap
/-- The first row from a place on that is not 0 in a column. -/
def redAt (M : Nat → Nat → Nat) (col : Nat) : Nat → Nat → Option Nat
  | 0, _ => none
  | n + 1, a => if M a col = 0 then redAt M col n (a + 1) else some a
/-- The rows below i, cleared in a column. -/
def clearM (M : Nat → Nat → Nat) (rk col c : Nat) : Nat → (Nat → Nat → Nat)
  | 0 => M
  | n + 1 => if n = rk ∨ clearM M rk col c n n col = 0 then clearM M rk col c n else addM (clearM M rk col c n) n rk (clearM M rk col c n n col) c
theorem clearM_skip {M : Nat → Nat → Nat} {rk col c n : Nat} (h : n = rk ∨ clearM M rk col c n n col = 0) : clearM M rk col c (n + 1) = clearM M rk col c n := by
  rw [clearM, if_pos h]
theorem clearM_add {M : Nat → Nat → Nat} {rk col c n : Nat} (h : ¬ n = rk) (h2 : ¬ clearM M rk col c n n col = 0) : clearM M rk col c (n + 1) = addM (clearM M rk col c n) n rk (clearM M rk col c n n col) c := by
  rw [clearM, if_neg (fun e => e.elim h h2)]
def pivM (M : Nat → Nat → Nat) (a rk col r c : Nat) : Nat → Nat → Nat := clearM (scaleM (swp M a rk) rk (tabInv (swp M a rk rk col)) c) rk col c r
def redGo (M : Nat → Nat → Nat) (r c : Nat) : Nat → (Nat → Nat → Nat) × Nat
  | 0 => (M, 0)
  | n + 1 => if (redGo M r c n).2 < r then (match redAt (redGo M r c n).1 n (r - (redGo M r c n).2) (redGo M r c n).2 with
    | none => redGo M r c n
    | some a => (pivM (redGo M r c n).1 a (redGo M r c n).2 n r c, (redGo M r c n).2 + 1)) else redGo M r c n
theorem redGo_succ (M : Nat → Nat → Nat) (r c n : Nat) : redGo M r c (n + 1) = if (redGo M r c n).2 < r then (match redAt (redGo M r c n).1 n (r - (redGo M r c n).2) (redGo M r c n).2 with
    | none => redGo M r c n
    | some a => (pivM (redGo M r c n).1 a (redGo M r c n).2 n r c, (redGo M r c n).2 + 1)) else redGo M r c n := rfl
theorem redAt_here {N : Nat → Nat → Nat} {n r j : Nat} (h : j < r) (hx : N j n ≠ 0) : redAt N n (r - j) j = some j := by
  rw [show r - j = (r - (j + 1)) + 1 by omega, redAt, if_neg hx]
theorem redAt_next {N : Nat → Nat → Nat} {n r j : Nat} (h : j < r) (hx : N j n = 0) : redAt N n (r - j) j = redAt N n (r - (j + 1)) (j + 1) := by
  rw [show r - j = (r - (j + 1)) + 1 by omega, redAt, if_pos hx]
theorem redAt_end {N : Nat → Nat → Nat} {n r : Nat} : redAt N n (r - r) r = none := by rw [Nat.sub_self, redAt]
theorem redGo_none {M N : Nat → Nat → Nat} {r c n k : Nat} (hN : (redGo M r c n).1 = N) (hk : (redGo M r c n).2 = k) (h : redAt N n (r - k) k = none) : redGo M r c (n + 1) = redGo M r c n := by
  rw [redGo_succ, hN, hk, h]
  exact ite_self _
theorem redGo_some {M N : Nat → Nat → Nat} {r c n k j : Nat} (hN : (redGo M r c n).1 = N) (hk : (redGo M r c n).2 = k) (hkr : k < r) (h : redAt N n (r - k) k = some j) : redGo M r c (n + 1) = (pivM N j k n r c, k + 1) := by
  rw [redGo_succ, hN, hk, h, if_pos hkr]
theorem red_w {j : Nat} (h : j ≤ 64) : IntKind.i64.wrap ((j : Int) + 1) = ((j + 1 : Nat) : Int) := by rw [IntKind.wrap_i64]; omega
theorem redGo_le (M : Nat → Nat → Nat) (r c : Nat) : ∀ n, (redGo M r c n).2 ≤ r
  | 0 => Nat.zero_le _
  | n + 1 => by
    have ih := redGo_le M r c n
    unfold redGo
    split
    · split
      · exact ih
      · simp only; omega
    · exact ih
theorem redGo_stop (M : Nat → Nat → Nat) (r c : Nat) {n : Nat} (h : ¬ (redGo M r c n).2 < r) : ∀ d, redGo M r c (n + d) = redGo M r c n
  | 0 => rfl
  | d + 1 => by
    have ih := redGo_stop M r c h d
    show redGo M r c (n + d + 1) = _
    rw [redGo_succ, ih, if_neg h]
theorem red_inv (y : Nat) : tabInv y < 256 := by
  unfold tabInv
  split
  · omega
  · have h := gp_tab 1 1
    unfold tE
    have all_ : ∀ x ∈ exList, x < 256 := by decide +kernel
    have key : ∀ j, ex j < 256 := fun j => by
      unfold ex
      rw [List.getD_eq_getElem?_getD]
      cases h : exList[j]? with
      | none => decide
      | some x => exact all_ x (List.mem_of_getElem? h)
    split
    · exact key _
    · split
      · exact key _
      · omega
theorem red_two {w : World} {R j k : Nat} {x y : Value} (h : w.cell? ⟨R, j, none⟩ = some x) (h2 : w.cell? ⟨R, k, none⟩ = some y) (v : Value) : ∃ u, (w.setCell ⟨R, j, none⟩ v).cell? ⟨R, k, none⟩ = some u := by
  by_cases e : j = k
  · subst e
    exact ⟨v, World.cell?_setCell_same' _ _ _ (by rw [h]; rfl)⟩
  · exact ⟨y, by rw [World.cell?_setCell_other _ _ _ _ (fun x => by injection x with _ x _; exact e x)]; exact h2⟩
set_option maxHeartbeats 8000000 in
set_option maxRecDepth 100000 in
theorem impl_grid_reduce.callsN (g R A r c cA gT : Nat) (s : Nat → Nat) (M : Nat → Nat → Nat) (cols : Nat) (hcols : cols ≤ c) (hr1 : 1 ≤ r) (hc1 : 1 ≤ c) (hr : r ≤ 64) (hc : c ≤ 64) (w0 w : World) (hG : GridP w g R A r c cA gT s M) (hT : TabInv w gT 255) (hTA : gT ≠ A) (hTR : gT ≠ R) (h0 : w0.heap.size ≤ A) (h0R : w0.heap.size ≤ R) (hB0 : Below w0.heap.size w0 w) :
    Calls Try.prog 107 #[.pointer (some ⟨g, 0, none⟩), .int .i64 (cols : Int), .pointer none] w fun e w' => e = .returned (.int .i64 ((redGo M r c cols).2 : Int)) ∧ Below w0.heap.size w0 w' := by
  have HG := Aside0.mk hG
  have HT := Aside0.mk hT
  have HB := Aside0.mk hB0
  clear hG hT hB0
  go_enter Try.func107, Try.ntmps107
  go_wp2
  go_step3
  go_wp2
  go_step3
  go_wp2
  go_loopw [7, 8] (fun v7 v8 wr => ∃ (n : Nat) (s' : Nat → Nat), n ≤ cols ∧ v7 = .int .i64 ((redGo M r c n).2 : Int) ∧ v8 = .int .i64 (n : Int) ∧ Aside0 (GridP wr g R A r c cA gT s' (redGo M r c n).1) ∧ Aside0 (TabInv wr gT 255) ∧ Aside0 (Below w0.heap.size w0 wr)) (fun _ v8 _ => cols - (intOf v8).toNat)
  case atStart => exact ⟨0, s, Nat.zero_le _, rfl, rfl, HG, HT, HB⟩
  case round =>
    clear HB HG HT
    obtain ⟨n, s', hn, rfl, rfl, HG, HT, HB⟩ := hrel
    have hle := redGo_le M r c n
    obtain ⟨N, hN⟩ : ∃ N, (redGo M r c n).1 = N := ⟨_, rfl⟩
    obtain ⟨k, hk⟩ : ∃ k, (redGo M r c n).2 = k := ⟨_, rfl⟩
    rw [hN] at HG
    rw [hk] at hle
    have HN := Aside0.mk hN
    have HK := Aside0.mk hk
    rw [hk]
    clear hN hk
    by_cases hlt : n < cols
    · have c0 : decide ((n : Int) < (cols : Int)) = true := decide_eq_true (by omega)
      obtain ⟨cR, hgd⟩ := HG.out.hd
      by_cases hkr : k < r
      · have c1 : decide ((k : Int) < (r : Int)) = true := decide_eq_true (by omega)
        go_wp2
        clear hgd
        go_loopw [9] (fun v9 wr => ∃ j : Nat, j < r ∧ k ≤ j ∧ v9 = .int .i64 (j : Int) ∧ Aside0 (redAt N n (r - k) k = redAt N n (r - j) j) ∧ Aside0 (GridP wr g R A r c cA gT s' N) ∧ Aside0 (TabInv wr gT 255) ∧ Aside0 (Below w0.heap.size w0 wr)) (fun v9 _ => r - (intOf v9).toNat)
        case atStart => exact ⟨k, hkr, Nat.le_refl _, rfl, ⟨rfl⟩, HG, HT, HB⟩
        case round =>
          clear HG HT HB
          obtain ⟨j, hj, hkj, rfl, HF, HG, HT, HB⟩ := hrel
          obtain ⟨cR, hgd⟩ := HG.out.hd
          have hgr := HG.out.rows j hj
          have hce := HG.out.cell j n hj (by omega)
          obtain ⟨p, hp⟩ : ∃ p, s' j * c = p := ⟨_, rfl⟩
          unfold rowV at hgr
          rw [hp] at hgr hce
          have HP := Aside0.mk hp
          have hnc : n < c := Nat.lt_of_lt_of_le hlt hcols
          have hw := red_w (j := j) (by omega)
          by_cases hx : N j n = 0
          · have x0 : (((N j n : Nat) : Int) == 0) = true := beq_iff_eq.mpr (by omega)
            by_cases hje : j + 1 = r
            · have x1 : (((j + 1 : Nat) : Int) == (r : Int)) = true := beq_iff_eq.mpr (by omega)
              go_wp2
              have e_ := redGo_none HN.out HK.out (HF.out.trans ((redAt_next hj hx).trans (by rw [hje]; exact redAt_end)))
              refine ⟨⟨n + 1, s', by omega, by rw [e_, HK.out], rfl, ⟨by rw [e_, HN.out]; exact HG.out⟩, HT, HB⟩, ?_⟩
              simp [intOf]
              omega
            · have x1 : (((j + 1 : Nat) : Int) == (r : Int)) = false := beq_eq_false_iff_ne.mpr (by omega)
              go_wp2
              go_roundw
              case rel => exact ⟨j + 1, by omega, by omega, rfl, ⟨HF.out.trans (redAt_next hj hx)⟩, HG, HT, HB⟩
              case measure => simp [intOf]; omega
          · have x0 : (((N j n : Nat) : Int) == 0) = false := beq_eq_false_iff_ne.mpr (by omega)
            obtain ⟨q, hq⟩ : ∃ q, s' k * c = q := ⟨_, rfl⟩
            have hgk := HG.out.rows k hkr
            unfold rowV at hgk
            rw [hq] at hgk
            have HQ := Aside0.mk hq
            have HGD := Aside0.mk hgd
            have HGR := Aside0.mk hgr
            have HGK := Aside0.mk hgk
            have HFJ := Aside0.mk (HG.out.rfr j hj)
            have HFK := Aside0.mk (HG.out.rfr k hkr)
            clear hq hgk
            have hx_ := hx
            clear hx
            go_wp2
            clear hgd hgr hce
            have n0_ : Aside0 (GridP wr.drew g R A r c cA gT s' N) := ⟨HG.out.below (Drawn0.below (w' := wr.drewN 1) ⟨⟨1, rfl⟩⟩)⟩
            have n1_ : Aside0 (TabInv wr.drew gT 255) := ⟨HT.out.block rfl⟩
            have n2_ : Aside0 (Below w0.heap.size w0 wr.drew) := ⟨below_drew1 HB.out⟩
            have n3_ : Aside0 (wr.drew.cell? ⟨g, 0, none⟩ = some (.slice (some ⟨R, 0, none⟩) r cR)) := ⟨HGD.out⟩
            have n4_ : Aside0 (wr.drew.cell? ⟨R, j, none⟩ = some (.slice (some ⟨A, p, none⟩) c (cA - p))) := ⟨HGR.out⟩
            have n5_ : Aside0 (wr.drew.cell? ⟨R, k, none⟩ = some (.slice (some ⟨A, q, none⟩) c (cA - q))) := ⟨HGK.out⟩
            have n6_ : Aside0 (wr.drew.frozen? ⟨R, j, none⟩ = false) := ⟨HFJ.out⟩
            have n7_ : Aside0 (wr.drew.frozen? ⟨R, k, none⟩ = false) := ⟨HFK.out⟩
            clear HG HT HB HGD HGR HGK HFJ HFK
            have HG := n0_
            have HT := n1_
            have HB := n2_
            have HGD := n3_
            have HGR := n4_
            have HGK := n5_
            have HFJ := n6_
            have HFK := n7_
            clear n0_ n1_ n2_ n3_ n4_ n5_ n6_ n7_
            refine start_ (n := 28) (S := fun w' => w'.cell? ⟨g, 0, none⟩ = some (.slice (some ⟨R, 0, none⟩) r cR) ∧ w'.cell? ⟨R, j, none⟩ = some (.slice (some ⟨A, p, none⟩) c (cA - p)) ∧ w'.cell? ⟨R, k, none⟩ = some (.slice (some ⟨A, q, none⟩) c (cA - q))) (ds := [25, 27]) #[false, false, false, false, false, false, false, false, false, false, false, false, false, false, false, false, false, false, false, false, false, false, false, false, false, false, false, false] (by kernel_rfl) rfl rfl ⟨HGD.out, HGR.out, HGK.out⟩ (fun hHeld => ?_)
            generalize wr.drew = w7 at HG HT HB HGD HGR HGK HFJ HFK hHeld ⊢
            refine pure_ (i := 0) (N := some 48) (v := ?_) (a' := ?_) #[true, false, false, false, false, false, false, false, false, false, false, false, false, false, false, false, false, false, false, false, false, false, false, false, false, false, false, false] rfl rfl (by kernel_rfl) (fun _ _ _ h => h) (Or.inl ⟨by rfl, ?_⟩) ?_ ?_; rotate_left; intro w'; go_simp; with_reducible rfl; rotate_left; simp only [Cap.pz]; rfl
            refine pure_ (i := 1) (N := some 49) (v := ?_) (a' := ?_) #[true, true, false, false, false, false, false, false, false, false, false, false, false, false, false, false, false, false, false, false, false, false, false, false, false, false, false, false] rfl rfl (by kernel_rfl) (fun _ _ _ h => h) (Or.inl ⟨by rfl, ?_⟩) ?_ ?_; rotate_left; intro w'; go_simp; with_reducible rfl; rotate_left; simp only [Cap.pz]; rfl
            refine pure_ (i := 2) (N := some 50) (v := ?_) (a' := ?_) #[true, true, true, false, false, false, false, false, false, false, false, false, false, false, false, false, false, false, false, false, false, false, false, false, false, false, false, false] rfl rfl (by kernel_rfl) (fun _ _ _ h => h) (Or.inl ⟨by rfl, ?_⟩) ?_ ?_; rotate_left; intro w'; go_simp; with_reducible rfl; rotate_left; simp only [Cap.pz]; rfl
            refine take_ (i := 3) (N := some 51) (v := ?_) (a' := ?_) #[true, true, true, true, false, false, false, false, false, false, false, false, false, false, false, false, false, false, false, false, false, false, false, false, false, false, false, false] rfl rfl (by kernel_rfl) (fun _ _ _ h => h) (Or.inl ⟨by rfl, ?_⟩) hHeld ?_ ?_; rotate_left; rintro w' ⟨s0, s1, s2⟩; go_simp; with_reducible rfl; rotate_left; simp only [Cap.pz]; rfl
            refine pure_ (i := 4) (N := some 52) (v := ?_) (a' := ?_) #[true, true, true, true, true, false, false, false, false, false, false, false, false, false, false, false, false, false, false, false, false, false, false, false, false, false, false, false] rfl rfl (by kernel_rfl) (fun _ _ _ h => h) (Or.inl ⟨by rfl, ?_⟩) ?_ ?_; rotate_left; intro w'; go_simp; with_reducible rfl; rotate_left; simp only [Cap.pz]; rfl
            refine pure_ (i := 5) (N := some 53) (v := ?_) (a' := ?_) #[true, true, true, true, true, true, false, false, false, false, false, false, false, false, false, false, false, false, false, false, false, false, false, false, false, false, false, false] rfl rfl (by kernel_rfl) (fun _ _ _ h => h) (Or.inl ⟨by rfl, ?_⟩) ?_ ?_; rotate_left; intro w'; go_simp; with_reducible rfl; rotate_left; simp only [Cap.pz]; rfl
            refine pure_ (i := 6) (N := some 54) (v := ?_) (a' := ?_) #[true, true, true, true, true, true, true, false, false, false, false, false, false, false, false, false, false, false, false, false, false, false, false, false, false, false, false, false] rfl rfl (by kernel_rfl) (fun _ _ _ h => h) (Or.inl ⟨by rfl, ?_⟩) ?_ ?_; rotate_left; intro w'; go_simp; with_reducible rfl; rotate_left; simp only [Cap.pz]; rfl
            refine pure_ (i := 7) (N := some 55) (v := ?_) (a' := ?_) #[true, true, true, true, true, true, true, true, false, false, false, false, false, false, false, false, false, false, false, false, false, false, false, false, false, false, false, false] rfl rfl (by kernel_rfl) (fun _ _ _ h => h) (Or.inl ⟨by rfl, ?_⟩) ?_ ?_; rotate_left; intro w'; go_simp; with_reducible rfl; rotate_left; simp only [Cap.pz]; rfl
            refine take_ (i := 8) (N := some 56) (v := ?_) (a' := ?_) #[true, true, true, true, true, true, true, true, true, false, false, false, false, false, false, false, false, false, false, false, false, false, false, false, false, false, false, false] rfl rfl (by kernel_rfl) (fun _ _ _ h => h) (Or.inl ⟨by rfl, ?_⟩) hHeld ?_ ?_; rotate_left; rintro w' ⟨s0, s1, s2⟩; go_simp; with_reducible rfl; rotate_left; simp only [Cap.pz]; rfl
            refine pure_ (i := 9) (N := some 57) (v := ?_) (a' := ?_) #[true, true, true, true, true, true, true, true, true, true, false, false, false, false, false, false, false, false, false, false, false, false, false, false, false, false, false, false] rfl rfl (by kernel_rfl) (fun _ _ _ h => h) (Or.inl ⟨by rfl, ?_⟩) ?_ ?_; rotate_left; intro w'; go_simp; with_reducible rfl; rotate_left; simp only [Cap.pz]; rfl
            refine pure_ (i := 10) (N := some 58) (v := ?_) (a' := ?_) #[true, true, true, true, true, true, true, true, true, true, true, false, false, false, false, false, false, false, false, false, false, false, false, false, false, false, false, false] rfl rfl (by kernel_rfl) (fun _ _ _ h => h) (Or.inl ⟨by rfl, ?_⟩) ?_ ?_; rotate_left; intro w'; go_simp; with_reducible rfl; rotate_left; simp only [Cap.pz]; rfl
            refine pure_ (i := 11) (N := some 59) (v := ?_) (a' := ?_) #[true, true, true, true, true, true, true, true, true, true, true, true, false, false, false, false, false, false, false, false, false, false, false, false, false, false, false, false] rfl rfl (by kernel_rfl) (fun _ _ _ h => h) (Or.inl ⟨by rfl, ?_⟩) ?_ ?_; rotate_left; intro w'; go_simp; with_reducible rfl; rotate_left; simp only [Cap.pz]; rfl
            refine pure_ (i := 12) (N := some 60) (v := ?_) (a' := ?_) #[true, true, true, true, true, true, true, true, true, true, true, true, true, false, false, false, false, false, false, false, false, false, false, false, false, false, false, false] rfl rfl (by kernel_rfl) (fun _ _ _ h => h) (Or.inl ⟨by rfl, ?_⟩) ?_ ?_; rotate_left; intro w'; go_simp; with_reducible rfl; rotate_left; simp only [Cap.pz]; rfl
            refine take_ (i := 13) (N := some 61) (v := ?_) (a' := ?_) #[true, true, true, true, true, true, true, true, true, true, true, true, true, true, false, false, false, false, false, false, false, false, false, false, false, false, false, false] rfl rfl (by kernel_rfl) (fun _ _ _ h => h) (Or.inl ⟨by rfl, ?_⟩) hHeld ?_ ?_; rotate_left; rintro w' ⟨s0, s1, s2⟩; go_simp; with_reducible rfl; rotate_left; simp only [Cap.pz]; rfl
            refine pure_ (i := 14) (N := some 62) (v := ?_) (a' := ?_) #[true, true, true, true, true, true, true, true, true, true, true, true, true, true, true, false, false, false, false, false, false, false, false, false, false, false, false, false] rfl rfl (by kernel_rfl) (fun _ _ _ h => h) (Or.inl ⟨by rfl, ?_⟩) ?_ ?_; rotate_left; intro w'; go_simp; with_reducible rfl; rotate_left; simp only [Cap.pz]; rfl
            refine pure_ (i := 15) (N := some 63) (v := ?_) (a' := ?_) #[true, true, true, true, true, true, true, true, true, true, true, true, true, true, true, true, false, false, false, false, false, false, false, false, false, false, false, false] rfl rfl (by kernel_rfl) (fun _ _ _ h => h) (Or.inl ⟨by rfl, ?_⟩) ?_ ?_; rotate_left; intro w'; go_simp; with_reducible rfl; rotate_left; simp only [Cap.pz]; rfl
            refine take_ (i := 16) (N := some 64) (v := ?_) (a' := ?_) #[true, true, true, true, true, true, true, true, true, true, true, true, true, true, true, true, true, false, false, false, false, false, false, false, false, false, false, false] rfl rfl (by kernel_rfl) (fun _ _ _ h => h) (Or.inl ⟨by rfl, ?_⟩) hHeld ?_ ?_; rotate_left; rintro w' ⟨s0, s1, s2⟩; go_simp; with_reducible rfl; rotate_left; simp only [Cap.pz]; rfl
            refine pure_ (i := 17) (N := some 65) (v := ?_) (a' := ?_) #[true, true, true, true, true, true, true, true, true, true, true, true, true, true, true, true, true, true, false, false, false, false, false, false, false, false, false, false] rfl rfl (by kernel_rfl) (fun _ _ _ h => h) (Or.inl ⟨by rfl, ?_⟩) ?_ ?_; rotate_left; intro w'; go_simp; with_reducible rfl; rotate_left; simp only [Cap.pz]; rfl
            refine pure_ (i := 18) (N := some 66) (v := ?_) (a' := ?_) #[true, true, true, true, true, true, true, true, true, true, true, true, true, true, true, true, true, true, true, false, false, false, false, false, false, false, false, false] rfl rfl (by kernel_rfl) (fun _ _ _ h => h) (Or.inl ⟨by rfl, ?_⟩) ?_ ?_; rotate_left; intro w'; go_simp; with_reducible rfl; rotate_left; simp only [Cap.pz]; rfl
            refine pure_ (i := 19) (N := some 67) (v := ?_) (a' := ?_) #[true, true, true, true, true, true, true, true, true, true, true, true, true, true, true, true, true, true, true, true, false, false, false, false, false, false, false, false] rfl rfl (by kernel_rfl) (fun _ _ _ h => h) (Or.inl ⟨by rfl, ?_⟩) ?_ ?_; rotate_left; intro w'; go_simp; with_reducible rfl; rotate_left; simp only [Cap.pz]; rfl
            refine take_ (i := 20) (N := some 68) (v := ?_) (a' := ?_) #[true, true, true, true, true, true, true, true, true, true, true, true, true, true, true, true, true, true, true, true, true, false, false, false, false, false, false, false] rfl rfl (by kernel_rfl) (fun _ _ _ h => h) (Or.inl ⟨by rfl, ?_⟩) hHeld ?_ ?_; rotate_left; rintro w' ⟨s0, s1, s2⟩; go_simp; with_reducible rfl; rotate_left; simp only [Cap.pz]; rfl
            refine pure_ (i := 21) (N := some 69) (v := ?_) (a' := ?_) #[true, true, true, true, true, true, true, true, true, true, true, true, true, true, true, true, true, true, true, true, true, true, false, false, false, false, false, false] rfl rfl (by kernel_rfl) (fun _ _ _ h => h) (Or.inl ⟨by rfl, ?_⟩) ?_ ?_; rotate_left; intro w'; go_simp; with_reducible rfl; rotate_left; simp only [Cap.pz]; rfl
            refine pure_ (i := 22) (N := some 70) (v := ?_) (a' := ?_) #[true, true, true, true, true, true, true, true, true, true, true, true, true, true, true, true, true, true, true, true, true, true, true, false, false, false, false, false] rfl rfl (by kernel_rfl) (fun _ _ _ h => h) (Or.inl ⟨by rfl, ?_⟩) ?_ ?_; rotate_left; intro w'; go_simp; with_reducible rfl; rotate_left; simp only [Cap.pz]; rfl
            refine take_ (i := 23) (N := some 71) (v := ?_) (a' := ?_) #[true, true, true, true, true, true, true, true, true, true, true, true, true, true, true, true, true, true, true, true, true, true, true, true, false, false, false, false] rfl rfl (by kernel_rfl) (fun _ _ _ h => h) (Or.inl ⟨by rfl, ?_⟩) hHeld ?_ ?_; rotate_left; rintro w' ⟨s0, s1, s2⟩; go_simp; with_reducible rfl; rotate_left; simp only [Cap.pz]; rfl
            refine pure_ (i := 24) (N := some 72) (v := ?_) (a' := ?_) #[true, true, true, true, true, true, true, true, true, true, true, true, true, true, true, true, true, true, true, true, true, true, true, true, true, false, false, false] rfl rfl (by kernel_rfl) (fun _ _ _ h => h) (Or.inl ⟨by rfl, ?_⟩) ?_ ?_; rotate_left; intro w'; go_simp; with_reducible rfl; rotate_left; simp only [Cap.pz]; rfl
            refine last_ (i := 25) (N := none) #[true, true, true, true, true, true, true, true, true, true, true, true, true, true, true, true, true, true, true, true, true, true, true, true, true, true, false, false] rfl rfl (by kernel_rfl) (by decide) (fun Kq hK => ?_)
            have hcj := HGR.out
            have hfj := HFJ.out
            refine skip_ (w1 := ?_) (by rfl) rfl ?_ ?_
            rotate_left
            · go_simp
              rfl
            refine hK.out _ _ ?_
            clear hK Kq
            have hck : ∃ u, (w7.setCell ⟨R, j, none⟩ (.slice (some ⟨A, q, none⟩) c (cA - q))).cell? ⟨R, k, none⟩ = some u := red_two HGR.out HGK.out _
            have hfk : (w7.setCell ⟨R, j, none⟩ (.slice (some ⟨A, q, none⟩) c (cA - q))).frozen? ⟨R, k, none⟩ = false := by rw [World.frozen?_setCell]; exact HFK.out
            obtain ⟨u, hck⟩ := hck
            have HSW := Aside0.mk (HG.out.swap j k hj hkr)
            have hsw_ : rowV A c cA (s' k) = .slice (some ⟨A, q, none⟩) c (cA - q) := by unfold rowV; rw [HQ.out]
            have hsw2_ : rowV A c cA (s' j) = .slice (some ⟨A, p, none⟩) c (cA - p) := by unfold rowV; rw [HP.out]
            rw [hsw_, hsw2_] at HSW
            clear hsw_ hsw2_ hcj hfj
            have HT8 := Aside0.mk (HT.out.block (w' := w7.setCell ⟨R, j, none⟩ (.slice (some ⟨A, q, none⟩) c (cA - q))) (Below.heap_setCell _ _ _ gT hTR))
            have HB8 : Aside0 (Below w0.heap.size w0 (w7.setCell ⟨R, j, none⟩ (.slice (some ⟨A, q, none⟩) c (cA - q)))) := ⟨below_set HB.out h0R⟩
            generalize w7.setCell ⟨R, j, none⟩ (.slice (some ⟨A, q, none⟩) c (cA - q)) = w8 at hck hfk HSW HT8 HB8 ⊢
            refine pure_ (i := 26) (N := some 73) (v := ?_) (a' := ?_) #[true, true, true, true, true, true, true, true, true, true, true, true, true, true, true, true, true, true, true, true, true, true, true, true, true, true, true, false] rfl rfl (by kernel_rfl) (fun _ _ _ h => h) (Or.inl ⟨by rfl, ?_⟩) ?_ ?_; rotate_left; intro w'; go_simp; with_reducible rfl; rotate_left; simp only [Cap.pz]; rfl
            refine last_ (i := 27) (N := none) #[true, true, true, true, true, true, true, true, true, true, true, true, true, true, true, true, true, true, true, true, true, true, true, true, true, true, true, true] rfl rfl (by kernel_rfl) (by decide) (fun Kq hK => ?_)
            refine skip_ (w1 := ?_) (by rfl) rfl ?_ ?_
            rotate_left
            · go_simp
              rfl
            refine hK.out _ _ ?_
            clear hK Kq
            refine done_ (by kernel_rfl) ?_
            clear hck hfk hHeld HGD HGR HGK HFJ HFK HG HT HB HP HQ
            have HG := HSW
            have HT : Aside0 (TabInv (w8.setCell ⟨R, k, none⟩ (.slice (some ⟨A, p, none⟩) c (cA - p))) gT 255) := ⟨HT8.out.block (Below.heap_setCell _ _ _ gT hTR)⟩
            have HB : Aside0 (Below w0.heap.size w0 (w8.setCell ⟨R, k, none⟩ (.slice (some ⟨A, p, none⟩) c (cA - p)))) := ⟨below_set HB8.out h0R⟩
            clear HSW HT8 HB8
            obtain ⟨s2, hs2⟩ : ∃ s2, swp s' j k = s2 := ⟨_, rfl⟩
            obtain ⟨N2, hN2⟩ : ∃ N2, swp N j k = N2 := ⟨_, rfl⟩
            rw [hs2, hN2] at HG
            have HN2 := Aside0.mk hN2
            clear hs2 hN2
            obtain ⟨y, hy⟩ : ∃ y, N2 k n = y := ⟨_, rfl⟩
            have hyl := HG.out.byte k n hkr hnc
            have hce := HG.out.cell k n hkr hnc
            rw [hy] at hyl hce
            obtain ⟨q2, hq2⟩ : ∃ q2, s2 k * c = q2 := ⟨_, rfl⟩
            have hgr := HG.out.rows k hkr
            unfold rowV at hgr
            rw [hq2] at hgr hce
            obtain ⟨cR2, hgd⟩ := HG.out.hd
            have HY := Aside0.mk hy
            have HGF := Aside0.mk HG.out.fld
            have HGD := Aside0.mk hgd
            have HGR := Aside0.mk hgr
            have HCE := Aside0.mk hce
            clear hy hq2 hgd hgr hce
            generalize w8.setCell ⟨R, k, none⟩ (.slice (some ⟨A, p, none⟩) c (cA - p)) = w9 at *
            go_wp2
            have n0_ : Aside0 (GridP w9.drew g R A r c cA gT s2 N2) := ⟨HG.out.below (Drawn0.below (w' := w9.drewN 1) ⟨⟨1, rfl⟩⟩)⟩
            have n1_ : Aside0 (TabInv w9.drew gT 255) := ⟨HT.out.block rfl⟩
            have n2_ : Aside0 (Below w0.heap.size w0 w9.drew) := ⟨below_drew1 HB.out⟩
            have n3_ : Aside0 (w9.drew.cell? ⟨g, 1, none⟩ = some (.pointer (some ⟨gT, 0, none⟩))) := ⟨HGF.out⟩
            have n4_ : Aside0 (w9.drew.cell? ⟨g, 0, none⟩ = some (.slice (some ⟨R, 0, none⟩) r cR2)) := ⟨HGD.out⟩
            have n5_ : Aside0 (w9.drew.cell? ⟨R, k, none⟩ = some (.slice (some ⟨A, q2, none⟩) c (cA - q2))) := ⟨HGR.out⟩
            have n6_ : Aside0 (w9.drew.cell? ⟨A, q2 + n, none⟩ = some (.int .u8 (y : Int))) := ⟨HCE.out⟩
            clear HG HT HB HGF HGD HGR HCE
            have HG := n0_
            have HT := n1_
            have HB := n2_
            have HGF := n3_
            have HGD := n4_
            have HGR := n5_
            have HCE := n6_
            clear n0_ n1_ n2_ n3_ n4_ n5_ n6_
            refine start_ (n := 16) (S := fun w' => w'.cell? ⟨g, 1, none⟩ = some (.pointer (some ⟨gT, 0, none⟩)) ∧ w'.cell? ⟨g, 0, none⟩ = some (.slice (some ⟨R, 0, none⟩) r cR2) ∧ w'.cell? ⟨R, k, none⟩ = some (.slice (some ⟨A, q2, none⟩) c (cA - q2)) ∧ w'.cell? ⟨A, q2 + n, none⟩ = some (.int .u8 (y : Int))) (ds := []) #[false, false, false, false, false, false, false, false, false, false, false, false, false, false, false, false] (by kernel_rfl) rfl rfl ⟨HGF.out, HGD.out, HGR.out, HCE.out⟩ (fun hHeld => ?_)
            generalize w9.drew = w10 at HG HT HB HGF HGD HGR HCE hHeld ⊢
            refine pure_ (i := 0) (N := some 102) (v := ?_) (a' := ?_) #[true, false, false, false, false, false, false, false, false, false, false, false, false, false, false, false] rfl rfl (by kernel_rfl) (fun _ _ _ h => h) (Or.inl ⟨by rfl, ?_⟩) ?_ ?_; rotate_left; intro w'; go_simp; with_reducible rfl; rotate_left; simp only [Cap.pz]; rfl
            refine pure_ (i := 1) (N := some 103) (v := ?_) (a' := ?_) #[true, true, false, false, false, false, false, false, false, false, false, false, false, false, false, false] rfl rfl (by kernel_rfl) (fun _ _ _ h => h) (Or.inl ⟨by rfl, ?_⟩) ?_ ?_; rotate_left; intro w'; go_simp; with_reducible rfl; rotate_left; simp only [Cap.pz]; rfl
            refine pure_ (i := 2) (N := some 104) (v := ?_) (a' := ?_) #[true, true, true, false, false, false, false, false, false, false, false, false, false, false, false, false] rfl rfl (by kernel_rfl) (fun _ _ _ h => h) (Or.inl ⟨by rfl, ?_⟩) ?_ ?_; rotate_left; intro w'; go_simp; with_reducible rfl; rotate_left; simp only [Cap.pz]; rfl
            refine take_ (i := 3) (N := some 105) (v := ?_) (a' := ?_) #[true, true, true, true, false, false, false, false, false, false, false, false, false, false, false, false] rfl rfl (by kernel_rfl) (fun _ _ _ h => h) (Or.inl ⟨by rfl, ?_⟩) hHeld ?_ ?_; rotate_left; rintro w' ⟨s0, s1, s2, s3⟩; go_simp; with_reducible rfl; rotate_left; simp only [Cap.pz]; rfl
            refine pure_ (i := 4) (N := some 106) (v := ?_) (a' := ?_) #[true, true, true, true, true, false, false, false, false, false, false, false, false, false, false, false] rfl rfl (by kernel_rfl) (fun _ _ _ h => h) (Or.inl ⟨by rfl, ?_⟩) ?_ ?_; rotate_left; intro w'; go_simp; with_reducible rfl; rotate_left; simp only [Cap.pz]; rfl
            refine pure_ (i := 5) (N := some 107) (v := ?_) (a' := ?_) #[true, true, true, true, true, true, false, false, false, false, false, false, false, false, false, false] rfl rfl (by kernel_rfl) (fun _ _ _ h => h) (Or.inl ⟨by rfl, ?_⟩) ?_ ?_; rotate_left; intro w'; go_simp; with_reducible rfl; rotate_left; simp only [Cap.pz]; rfl
            refine pure_ (i := 6) (N := some 108) (v := ?_) (a' := ?_) #[true, true, true, true, true, true, true, false, false, false, false, false, false, false, false, false] rfl rfl (by kernel_rfl) (fun _ _ _ h => h) (Or.inl ⟨by rfl, ?_⟩) ?_ ?_; rotate_left; intro w'; go_simp; with_reducible rfl; rotate_left; simp only [Cap.pz]; rfl
            refine take_ (i := 7) (N := some 109) (v := ?_) (a' := ?_) #[true, true, true, true, true, true, true, true, false, false, false, false, false, false, false, false] rfl rfl (by kernel_rfl) (fun _ _ _ h => h) (Or.inl ⟨by rfl, ?_⟩) hHeld ?_ ?_; rotate_left; rintro w' ⟨s0, s1, s2, s3⟩; go_simp; with_reducible rfl; rotate_left; simp only [Cap.pz]; rfl
            refine pure_ (i := 8) (N := some 110) (v := ?_) (a' := ?_) #[true, true, true, true, true, true, true, true, true, false, false, false, false, false, false, false] rfl rfl (by kernel_rfl) (fun _ _ _ h => h) (Or.inl ⟨by rfl, ?_⟩) ?_ ?_; rotate_left; intro w'; go_simp; with_reducible rfl; rotate_left; simp only [Cap.pz]; rfl
            refine pure_ (i := 9) (N := some 111) (v := ?_) (a' := ?_) #[true, true, true, true, true, true, true, true, true, true, false, false, false, false, false, false] rfl rfl (by kernel_rfl) (fun _ _ _ h => h) (Or.inl ⟨by rfl, ?_⟩) ?_ ?_; rotate_left; intro w'; go_simp; with_reducible rfl; rotate_left; simp only [Cap.pz]; rfl
            refine take_ (i := 10) (N := some 112) (v := ?_) (a' := ?_) #[true, true, true, true, true, true, true, true, true, true, true, false, false, false, false, false] rfl rfl (by kernel_rfl) (fun _ _ _ h => h) (Or.inl ⟨by rfl, ?_⟩) hHeld ?_ ?_; rotate_left; rintro w' ⟨s0, s1, s2, s3⟩; go_simp; with_reducible rfl; rotate_left; simp only [Cap.pz]; rfl
            refine pure_ (i := 11) (N := some 113) (v := ?_) (a' := ?_) #[true, true, true, true, true, true, true, true, true, true, true, true, false, false, false, false] rfl rfl (by kernel_rfl) (fun _ _ _ h => h) (Or.inl ⟨by rfl, ?_⟩) ?_ ?_; rotate_left; intro w'; go_simp; with_reducible rfl; rotate_left; simp only [Cap.pz]; rfl
            refine pure_ (i := 12) (N := some 114) (v := ?_) (a' := ?_) #[true, true, true, true, true, true, true, true, true, true, true, true, true, false, false, false] rfl rfl (by kernel_rfl) (fun _ _ _ h => h) (Or.inl ⟨by rfl, ?_⟩) ?_ ?_; rotate_left; intro w'; go_simp; with_reducible rfl; rotate_left; simp only [Cap.pz]; rfl
            refine take_ (i := 13) (N := some 115) (v := ?_) (a' := ?_) #[true, true, true, true, true, true, true, true, true, true, true, true, true, true, false, false] rfl rfl (by kernel_rfl) (fun _ _ _ h => h) (Or.inl ⟨by rfl, ?_⟩) hHeld ?_ ?_; rotate_left; rintro w' ⟨s0, s1, s2, s3⟩; go_simp; with_reducible rfl; rotate_left; simp only [Cap.pz]; rfl
            refine one_ (i := 14) (N := some 116) #[true, true, true, true, true, true, true, true, true, true, true, true, true, true, true, false] rfl rfl (by kernel_rfl) (by decide) (fun Kq hK => ?_)
            refine goes_ Try.func105 (by kernel_rfl) rfl #[.pointer (some ⟨gT, 0, none⟩), .int .u8 (y : Int)] (by rfl) rfl rfl (by simp only [List.map_toArray, List.map_cons, List.map_nil]; rfl) ?_
            with_reducible refine (impl_tables8_inv.callsN gT y hyl w10 HT.out).mono ?_
            rintro e w' ⟨rfl, ⟨nd, rfl⟩⟩
            refine ⟨_, rfl, ?_⟩
            have n0_ : Aside0 (GridP (w10.drewN nd) g R A r c cA gT s2 N2) := ⟨HG.out.below (Drawn0.below (w' := w10.drewN nd) ⟨⟨nd, rfl⟩⟩)⟩
            have n1_ : Aside0 (TabInv (w10.drewN nd) gT 255) := ⟨HT.out.block rfl⟩
            have n2_ : Aside0 (Below w0.heap.size w0 (w10.drewN nd)) := ⟨below_step HB.out (Drawn0.below (w' := w10.drewN nd) ⟨⟨nd, rfl⟩⟩)⟩
            clear HG HT HB
            have HG := n0_
            have HT := n1_
            have HB := n2_
            clear n0_ n1_ n2_
            refine hK.out _ _ ⟨HGF.out, HGD.out, HGR.out, HCE.out⟩ (fun hHeld => ?_)
            clear hK Kq
            refine norm_ (a' := ?_) ?_ ?_; rotate_left; show Act.put _ (some 116) _ = _; simp only [Cap.pz]; rfl
            refine pure_ (i := 15) (N := some 10) (v := ?_) (a' := ?_) #[true, true, true, true, true, true, true, true, true, true, true, true, true, true, true, true] rfl rfl (by kernel_rfl) (fun _ _ _ h => h) (Or.inl ⟨by rfl, ?_⟩) ?_ ?_; rotate_left; intro w'; go_simp; with_reducible rfl; rotate_left; simp only [Cap.pz]; rfl
            refine done_ (by kernel_rfl) ?_
            clear hHeld HGF HGD HGR HCE
            go_wp2_with (go_at_call 123; (with_reducible refine (impl_grid_scale.callsN g R A r c cA gT s2 N2 k (tabInv y) hkr (red_inv y) hc1 hr hc w0 _ HG.out HT.out hTA h0 HB.out).mono ?_); rintro e w11 ⟨rfl, hG_, hT_, _, hB_⟩; clear HG HT HB; have HG := Aside0.mk hG_; have HT := Aside0.mk hT_; have HB := Aside0.mk hB_; clear hG_ hT_ hB_; obtain ⟨cR3, hgd⟩ := HG.out.hd)
            clear hgd
            obtain ⟨N3, hN3⟩ : ∃ N3, scaleM N2 k (tabInv y) c = N3 := ⟨_, rfl⟩
            rw [hN3] at HG
            have HN3 := Aside0.mk hN3
            clear hN3
            go_loopw [132] (fun v132 wr => ∃ i : Nat, i ≤ r ∧ v132 = .int .i64 (i : Int) ∧ Aside0 (GridP wr g R A r c cA gT s2 (clearM N3 k n c i)) ∧ Aside0 (TabInv wr gT 255) ∧ Aside0 (Below w0.heap.size w0 wr)) (fun v132 _ => r - (intOf v132).toNat)
            case atStart => exact ⟨0, Nat.zero_le _, rfl, HG, HT, HB⟩
            case round =>
              clear HG HT HB
              obtain ⟨i, hi, rfl, HG, HT, HB⟩ := hrel
              by_cases hli : i < r
              · obtain ⟨z, hz⟩ : ∃ z, clearM N3 k n c i i n = z := ⟨_, rfl⟩
                have hzl := HG.out.byte i n hli hnc
                have hce := HG.out.cell i n hli hnc
                rw [hz] at hzl hce
                obtain ⟨q3, hq3⟩ : ∃ q3, s2 i * c = q3 := ⟨_, rfl⟩
                have hgr := HG.out.rows i hli
                unfold rowV at hgr
                rw [hq3] at hgr hce
                obtain ⟨cR4, hgd⟩ := HG.out.hd
                have HZ := Aside0.mk hz
                clear hz hq3
                by_cases hik : i = k
                · have x2 : ((i : Int) == (k : Int)) = true := beq_iff_eq.mpr (by omega)
                  have x3 : ((i : Int) != (k : Int)) = false := bne_eq_false_iff_eq.mpr (by omega)
                  have HIK := Aside0.mk hik
                  clear hik
                  go_wp2
                  go_roundw
                  case rel => exact ⟨i + 1, by omega, by go_num, ⟨by rw [clearM_skip (Or.inl HIK.out)]; exact HG.out⟩, HT, HB⟩
                  case measure => simp [intOf]; omega
                · have x2 : ((i : Int) == (k : Int)) = false := beq_eq_false_iff_ne.mpr (by omega)
                  have x3 : ((i : Int) != (k : Int)) = true := bne_iff_ne.mpr (by omega)
                  by_cases hz0 : z = 0
                  · have x4 : ((z : Int) == 0) = true := beq_iff_eq.mpr (by omega)
                    have x5 : ((z : Int) != 0) = false := bne_eq_false_iff_eq.mpr (by omega)
                    go_wp2
                    go_roundw
                    case rel => exact ⟨i + 1, by omega, by go_num, ⟨by rw [clearM_skip (Or.inr (HZ.out.trans hz0))]; exact HG.out⟩, HT, HB⟩
                    case measure => simp [intOf]; omega
                  · have x4 : ((z : Int) == 0) = false := beq_eq_false_iff_ne.mpr (by omega)
                    have x5 : ((z : Int) != 0) = true := bne_iff_ne.mpr (by omega)
                    have HADD := Aside0.mk (impl_grid_add.callsN g R A r c cA gT s2 (clearM N3 k n c i) i k z hli hkr (fun e_ => hik e_.symm) hzl hc1 hr hc w0 wr HG.out HT.out hTA h0 HB.out)
                    go_wp2_with (go_at_call 124; (refine HADD.out.mono ?_); rintro e w12 ⟨rfl, hG_, hT_, _, hB_⟩; clear HADD HG HT HB; have HG := Aside0.mk hG_; have HT := Aside0.mk hT_; have HB := Aside0.mk hB_; clear hG_ hT_ hB_)
                    go_roundw
                    case rel => exact ⟨i + 1, by omega, by go_num, ⟨by rw [clearM_add hik (fun e_ => hz0 (HZ.out.symm.trans e_)), HZ.out]; exact HG.out⟩, HT, HB⟩
                    case measure => simp [intOf]; omega
              · have ei : i = r := by omega
                have e_ := redGo_some HN.out HK.out hkr (HF.out.trans (redAt_here hj hx_))
                have hwk := red_w (j := k) (by omega)
                have EI := Aside0.mk ei
                have EE := Aside0.mk e_
                clear ei e_
                go_wp2
                refine ⟨⟨n + 1, s2, by omega, by rw [EE.out]; rfl, rfl, ⟨by rw [EE.out]; unfold pivM; rw [HN2.out, HY.out, HN3.out]; have h := HG.out; rw [EI.out] at h; exact h⟩, HT, HB⟩, ?_⟩
                simp [intOf]
                omega
      · have c1 : decide ((k : Int) < (r : Int)) = false := decide_eq_false (by omega)
        go_wp2
        rw [Exit.noGoto_ret]
        go_ret
        have e_ := redGo_stop M r c (n := n) (by rw [HK.out]; exact hkr) (cols - n)
        rw [show n + (cols - n) = cols by omega] at e_
        refine ⟨?_, HB.out⟩
        rw [e_, HK.out]
        rfl
    · have c0 : decide ((n : Int) < (cols : Int)) = false := decide_eq_false (by omega)
      go_wp2
      rw [Exit.noGoto_ret]
      go_ret
      have e_ : n = cols := by omega
      refine ⟨?_, HB.out⟩
      rw [← e_, HK.out]
      rfl

end Go.Proofs.Ytcpmlelejlmpdaa.QFnCauchy
