-- A text of this session, printed by a program of its own (wip/tools: xpatch.py, xprint.sh, mkq.py). No condition.
import Derived.ChangeKeysEq
import Derived.Test.YtcpmlelejlmpdaaQFnCauchyx0
import Derived.Test.YtcpmlelejlmpdaaQFnCauchyx1
import Derived.Test.YtcpmlelejlmpdaaQFnCauchyx4
import Derived.Test.YtcpmlelejlmpdaaQFnCauchyx5
import Derived.Test.YtcpmlelejlmpdaaQFnCauchyx6
namespace Go.Proofs.Ytcpmlelejlmpdaa.QFnCauchy
open Go.RowKit Go.Proofs.YtcpmlelejlmpdaaW.PrintWords Go.Proofs.YtcpmlelejlmpdaaW.PrintLast Go.Proofs.YtcpmlelejlmpdaaW.PrintMore
attribute [local go_sem] max2_int min2_int max_two min_two max_three min_three max_four min_four   -- for this text's walks alone
set_option linter.unusedVariables false
set_option linter.unusedSimpArgs false

/-! ### impl_MatInv: function 61 -/
theorem GridP.far {W : World} {g R A r c cA : Nat} {gT : Nat} {s : Nat → Nat} {M : Nat → Nat → Nat} (h : GridP W g R A r c cA gT s M) {p : Addr} (hg : g ≠ p.block) (hR : R ≠ p.block) (hA : A ≠ p.block) (v : Value) : GridP (W.setCell p v) g R A r c cA gT s M :=
  h.only (A' := p.block) ⟨fun k _ hk => Below.heap_setCell W p v k hk, by rw [World.size_setCell]; exact Nat.le_refl _⟩ hg hR hA
/-- The other grid's rows below i, cleared with the first one's. -/
def clearO (N O : Nat → Nat → Nat) (rk col c co : Nat) : Nat → (Nat → Nat → Nat)
  | 0 => O
  | n + 1 => if n = rk ∨ clearM N rk col c n n col = 0 then clearO N O rk col c co n else addM (clearO N O rk col c co n) n rk (clearM N rk col c n n col) co
theorem clearO_skip {N O : Nat → Nat → Nat} {rk col c co n : Nat} (h : n = rk ∨ clearM N rk col c n n col = 0) : clearO N O rk col c co (n + 1) = clearO N O rk col c co n := by
  rw [clearO, if_pos h]
theorem clearO_add {N O : Nat → Nat → Nat} {rk col c co n : Nat} (h : ¬ n = rk) (h2 : ¬ clearM N rk col c n n col = 0) : clearO N O rk col c co (n + 1) = addM (clearO N O rk col c co n) n rk (clearM N rk col c n n col) co := by
  rw [clearO, if_neg (fun e => e.elim h h2)]
def pivO (N O : Nat → Nat → Nat) (a rk col r c co : Nat) : Nat → Nat → Nat := clearO (scaleM (swp N a rk) rk (tabInv (swp N a rk rk col)) c) (scaleM (swp O a rk) rk (tabInv (swp N a rk rk col)) co) rk col c co r
def redO (M O : Nat → Nat → Nat) (r c co : Nat) : Nat → (Nat → Nat → Nat)
  | 0 => O
  | n + 1 => if (redGo M r c n).2 < r then (match redAt (redGo M r c n).1 n (r - (redGo M r c n).2) (redGo M r c n).2 with
    | none => redO M O r c co n
    | some a => pivO (redGo M r c n).1 (redO M O r c co n) a (redGo M r c n).2 n r c co) else redO M O r c co n
theorem redO_succ (M O : Nat → Nat → Nat) (r c co n : Nat) : redO M O r c co (n + 1) = if (redGo M r c n).2 < r then (match redAt (redGo M r c n).1 n (r - (redGo M r c n).2) (redGo M r c n).2 with
    | none => redO M O r c co n
    | some a => pivO (redGo M r c n).1 (redO M O r c co n) a (redGo M r c n).2 n r c co) else redO M O r c co n := rfl
theorem redO_none {M N O : Nat → Nat → Nat} {r c co n k : Nat} (hN : (redGo M r c n).1 = N) (hk : (redGo M r c n).2 = k) (h : redAt N n (r - k) k = none) : redO M O r c co (n + 1) = redO M O r c co n := by
  rw [redO_succ, hN, hk, h]
  exact ite_self _
theorem redO_some {M N O Q : Nat → Nat → Nat} {r c co n k j : Nat} (hN : (redGo M r c n).1 = N) (hk : (redGo M r c n).2 = k) (hQ : redO M O r c co n = Q) (hkr : k < r) (h : redAt N n (r - k) k = some j) : redO M O r c co (n + 1) = pivO N Q j k n r c co := by
  rw [redO_succ, hN, hk, hQ, h, if_pos hkr]
theorem redO_stop (M O : Nat → Nat → Nat) (r c co : Nat) {n : Nat} (h : ¬ (redGo M r c n).2 < r) : ∀ d, redO M O r c co (n + d) = redO M O r c co n
  | 0 => rfl
  | d + 1 => by
    have ih := redO_stop M O r c co h d
    have ih2 := redGo_stop M r c h d
    show redO M O r c co (n + d + 1) = _
    rw [redO_succ, ih, ih2, if_neg h]
set_option maxHeartbeats 8000000 in
set_option maxRecDepth 100000 in
theorem impl_grid_reduce.callsO (g R A r c cA gT : Nat) (s : Nat → Nat) (M : Nat → Nat → Nat) (cols : Nat) (hcols : cols ≤ c) (hr1 : 1 ≤ r) (hc1 : 1 ≤ c) (hr : r ≤ 64) (hc : c ≤ 64) (w0 w : World) (hG : GridP w g R A r c cA gT s M) (hT : TabInv w gT 255) (hTA : gT ≠ A) (hTR : gT ≠ R) (h0 : w0.heap.size ≤ A) (h0R : w0.heap.size ≤ R) (hB0 : Below w0.heap.size w0 w) (gO RO AO co cAO : Nat) (so : Nat → Nat) (O : Nat → Nat → Nat) (hco1 : 1 ≤ co) (hco : co ≤ 64) (hGO : GridP w gO RO AO r co cAO gT so O) (hTAO : gT ≠ AO) (hTRO : gT ≠ RO) (h0O : w0.heap.size ≤ AO) (h0RO : w0.heap.size ≤ RO) (nOgR : gO ≠ R) (nOgA : gO ≠ A) (nORR : RO ≠ R) (nORA : RO ≠ A) (nOAR : AO ≠ R) (nOAA : AO ≠ A) (ngOR : g ≠ RO) (ngOA : g ≠ AO) :
    Calls Try.prog 107 #[.pointer (some ⟨g, 0, none⟩), .int .i64 (cols : Int), .pointer (some ⟨gO, 0, none⟩)] w fun e w' => e = .returned (.int .i64 ((redGo M r c cols).2 : Int)) ∧ (∃ s', GridP w' gO RO AO r co cAO gT s' (redO M O r c co cols)) ∧ Below w0.heap.size w0 w' := by
  have HG := Aside0.mk hG
  have HT := Aside0.mk hT
  have HB := Aside0.mk hB0
  have HO := Aside0.mk hGO
  clear hG hT hB0 hGO
  go_enter Try.func107, Try.ntmps107
  go_wp2
  go_step3
  go_wp2
  go_step3
  go_wp2
  go_loopw [7, 8] (fun v7 v8 wr => ∃ (n : Nat) (s' so' : Nat → Nat), n ≤ cols ∧ v7 = .int .i64 ((redGo M r c n).2 : Int) ∧ v8 = .int .i64 (n : Int) ∧ Aside0 (GridP wr g R A r c cA gT s' (redGo M r c n).1) ∧ Aside0 (GridP wr gO RO AO r co cAO gT so' (redO M O r c co n)) ∧ Aside0 (TabInv wr gT 255) ∧ Aside0 (Below w0.heap.size w0 wr)) (fun _ v8 _ => cols - (intOf v8).toNat)
  case atStart => exact ⟨0, s, so, Nat.zero_le _, rfl, rfl, HG, HO, HT, HB⟩
  case round =>
    clear HB HG HT HO
    obtain ⟨n, s', so', hn, rfl, rfl, HG, HO, HT, HB⟩ := hrel
    obtain ⟨Q, hQ⟩ : ∃ Q, redO M O r c co n = Q := ⟨_, rfl⟩
    rw [hQ] at HO
    have HQQ := Aside0.mk hQ
    clear hQ
    have hle := redGo_le M r c n
    obtain ⟨N, hN⟩ : ∃ N, (redGo M r c n).1 = N := ⟨_, rfl⟩
    obtain ⟨k, hk⟩ : ∃ k, (redGo M r c n).2 = k := ⟨_, rfl⟩
    rw [hN] at HG
    rw [hk] at hle
    have HN := Aside0.mk hN
    have HK := Aside0.mk hk
    rw [hk]
    clear hN hk
    by_cases hlt : n < cols
    · have c0 : decide ((n : Int) < (cols : Int)) = true := decide_eq_true (by omega)
      obtain ⟨cR, hgd⟩ := HG.out.hd
      by_cases hkr : k < r
      · have c1 : decide ((k : Int) < (r : Int)) = true := decide_eq_true (by omega)
        go_wp2
        clear hgd
        go_loopw [9] (fun v9 wr => ∃ j : Nat, j < r ∧ k ≤ j ∧ v9 = .int .i64 (j : Int) ∧ Aside0 (redAt N n (r - k) k = redAt N n (r - j) j) ∧ Aside0 (GridP wr g R A r c cA gT s' N) ∧ Aside0 (GridP wr gO RO AO r co cAO gT so' Q) ∧ Aside0 (TabInv wr gT 255) ∧ Aside0 (Below w0.heap.size w0 wr)) (fun v9 _ => r - (intOf v9).toNat)
        case atStart => exact ⟨k, hkr, Nat.le_refl _, rfl, ⟨rfl⟩, HG, HO, HT, HB⟩
        case round =>
          clear HG HT HB HO
          obtain ⟨j, hj, hkj, rfl, HF, HG, HO, HT, HB⟩ := hrel
          obtain ⟨cR, hgd⟩ := HG.out.hd
          have hgr := HG.out.rows j hj
          have hce := HG.out.cell j n hj (by omega)
          obtain ⟨p, hp⟩ : ∃ p, s' j * c = p := ⟨_, rfl⟩
          unfold rowV at hgr
          rw [hp] at hgr hce
          have HP := Aside0.mk hp
          have hnc : n < c := Nat.lt_of_lt_of_le hlt hcols
          have hw := red_w (j := j) (by omega)
          by_cases hx : N j n = 0
          · have x0 : (((N j n : Nat) : Int) == 0) = true := beq_iff_eq.mpr (by omega)
            by_cases hje : j + 1 = r
            · have x1 : (((j + 1 : Nat) : Int) == (r : Int)) = true := beq_iff_eq.mpr (by omega)
              go_wp2
              have e_ := redGo_none HN.out HK.out (HF.out.trans ((redAt_next hj hx).trans (by rw [hje]; exact redAt_end)))
              have eo_ := redO_none (O := O) (co := co) HN.out HK.out (HF.out.trans ((redAt_next hj hx).trans (by rw [hje]; exact redAt_end)))
              refine ⟨⟨n + 1, s', so', by omega, by rw [e_, HK.out], rfl, ⟨by rw [e_, HN.out]; exact HG.out⟩, ⟨by rw [eo_, HQQ.out]; exact HO.out⟩, HT, HB⟩, ?_⟩
              simp [intOf]
              omega
            · have x1 : (((j + 1 : Nat) : Int) == (r : Int)) = false := beq_eq_false_iff_ne.mpr (by omega)
              go_wp2
              go_roundw
              case rel => exact ⟨j + 1, by omega, by omega, rfl, ⟨HF.out.trans (redAt_next hj hx)⟩, HG, HO, HT, HB⟩
              case measure => simp [intOf]; omega
          · have x0 : (((N j n : Nat) : Int) == 0) = false := beq_eq_false_iff_ne.mpr (by omega)
            obtain ⟨q, hq⟩ : ∃ q, s' k * c = q := ⟨_, rfl⟩
            have hgk := HG.out.rows k hkr
            unfold rowV at hgk
            rw [hq] at hgk
            have HQ := Aside0.mk hq
            have HGD := Aside0.mk hgd
            have HGR := Aside0.mk hgr
            have HGK := Aside0.mk hgk
            have HFJ := Aside0.mk (HG.out.rfr j hj)
            have HFK := Aside0.mk (HG.out.rfr k hkr)
            clear hq hgk
            have hx_ := hx
            clear hx
            go_wp2
            clear hgd hgr hce
            have n0_ : Aside0 (GridP wr.drew gO RO AO r co cAO gT so' Q) := ⟨HO.out.below (Drawn0.below (w' := wr.drewN 1) ⟨⟨1, rfl⟩⟩)⟩
            clear HO
            have HO := n0_
            clear n0_
            have n0_ : Aside0 (GridP wr.drew g R A r c cA gT s' N) := ⟨HG.out.below (Drawn0.below (w' := wr.drewN 1) ⟨⟨1, rfl⟩⟩)⟩
            have n1_ : Aside0 (TabInv wr.drew gT 255) := ⟨HT.out.block rfl⟩
            have n2_ : Aside0 (Below w0.heap.size w0 wr.drew) := ⟨below_drew1 HB.out⟩
            have n3_ : Aside0 (wr.drew.cell? ⟨g, 0, none⟩ = some (.slice (some ⟨R, 0, none⟩) r cR)) := ⟨HGD.out⟩
            have n4_ : Aside0 (wr.drew.cell? ⟨R, j, none⟩ = some (.slice (some ⟨A, p, none⟩) c (cA - p))) := ⟨HGR.out⟩
            have n5_ : Aside0 (wr.drew.cell? ⟨R, k, none⟩ = some (.slice (some ⟨A, q, none⟩) c (cA - q))) := ⟨HGK.out⟩
            have n6_ : Aside0 (wr.drew.frozen? ⟨R, j, none⟩ = false) := ⟨HFJ.out⟩
            have n7_ : Aside0 (wr.drew.frozen? ⟨R, k, none⟩ = false) := ⟨HFK.out⟩
            clear HG HT HB HGD HGR HGK HFJ HFK
            have HG := n0_
            have HT := n1_
            have HB := n2_
            have HGD := n3_
            have HGR := n4_
            have HGK := n5_
            have HFJ := n6_
            have HFK := n7_
            clear n0_ n1_ n2_ n3_ n4_ n5_ n6_ n7_
            refine start_ (n := 28) (S := fun w' => w'.cell? ⟨g, 0, none⟩ = some (.slice (some ⟨R, 0, none⟩) r cR) ∧ w'.cell? ⟨R, j, none⟩ = some (.slice (some ⟨A, p, none⟩) c (cA - p)) ∧ w'.cell? ⟨R, k, none⟩ = some (.slice (some ⟨A, q, none⟩) c (cA - q))) (ds := [25, 27]) #[false, false, false, false, false, false, false, false, false, false, false, false, false, false, false, false, false, false, false, false, false, false, false, false, false, false, false, false] (by kernel_rfl) rfl rfl ⟨HGD.out, HGR.out, HGK.out⟩ (fun hHeld => ?_)
            generalize wr.drew = w7 at HG HO HT HB HGD HGR HGK HFJ HFK hHeld ⊢
            refine pure_ (i := 0) (N := some 48) (v := ?_) (a' := ?_) #[true, false, false, false, false, false, false, false, false, false, false, false, false, false, false, false, false, false, false, false, false, false, false, false, false, false, false, false] rfl rfl (by kernel_rfl) (fun _ _ _ h => h) (Or.inl ⟨by rfl, ?_⟩) ?_ ?_; rotate_left; intro w'; go_simp; with_reducible rfl; rotate_left; simp only [Cap.pz]; rfl
            refine pure_ (i := 1) (N := some 49) (v := ?_) (a' := ?_) #[true, true, false, false, false, false, false, false, false, false, false, false, false, false, false, false, false, false, false, false, false, false, false, false, false, false, false, false] rfl rfl (by kernel_rfl) (fun _ _ _ h => h) (Or.inl ⟨by rfl, ?_⟩) ?_ ?_; rotate_left; intro w'; go_simp; with_reducible rfl; rotate_left; simp only [Cap.pz]; rfl
            refine pure_ (i := 2) (N := some 50) (v := ?_) (a' := ?_) #[true, true, true, false, false, false, false, false, false, false, false, false, false, false, false, false, false, false, false, false, false, false, false, false, false, false, false, false] rfl rfl (by kernel_rfl) (fun _ _ _ h => h) (Or.inl ⟨by rfl, ?_⟩) ?_ ?_; rotate_left; intro w'; go_simp; with_reducible rfl; rotate_left; simp only [Cap.pz]; rfl
            refine take_ (i := 3) (N := some 51) (v := ?_) (a' := ?_) #[true, true, true, true, false, false, false, false, false, false, false, false, false, false, false, false, false, false, false, false, false, false, false, false, false, false, false, false] rfl rfl (by kernel_rfl) (fun _ _ _ h => h) (Or.inl ⟨by rfl, ?_⟩) hHeld ?_ ?_; rotate_left; rintro w' ⟨s0, s1, s2⟩; go_simp; with_reducible rfl; rotate_left; simp only [Cap.pz]; rfl
            refine pure_ (i := 4) (N := some 52) (v := ?_) (a' := ?_) #[true, true, true, true, true, false, false, false, false, false, false, false, false, false, false, false, false, false, false, false, false, false, false, false, false, false, false, false] rfl rfl (by kernel_rfl) (fun _ _ _ h => h) (Or.inl ⟨by rfl, ?_⟩) ?_ ?_; rotate_left; intro w'; go_simp; with_reducible rfl; rotate_left; simp only [Cap.pz]; rfl
            refine pure_ (i := 5) (N := some 53) (v := ?_) (a' := ?_) #[true, true, true, true, true, true, false, false, false, false, false, false, false, false, false, false, false, false, false, false, false, false, false, false, false, false, false, false] rfl rfl (by kernel_rfl) (fun _ _ _ h => h) (Or.inl ⟨by rfl, ?_⟩) ?_ ?_; rotate_left; intro w'; go_simp; with_reducible rfl; rotate_left; simp only [Cap.pz]; rfl
            refine pure_ (i := 6) (N := some 54) (v := ?_) (a' := ?_) #[true, true, true, true, true, true, true, false, false, false, false, false, false, false, false, false, false, false, false, false, false, false, false, false, false, false, false, false] rfl rfl (by kernel_rfl) (fun _ _ _ h => h) (Or.inl ⟨by rfl, ?_⟩) ?_ ?_; rotate_left; intro w'; go_simp; with_reducible rfl; rotate_left; simp only [Cap.pz]; rfl
            refine pure_ (i := 7) (N := some 55) (v := ?_) (a' := ?_) #[true, true, true, true, true, true, true, true, false, false, false, false, false, false, false, false, false, false, false, false, false, false, false, false, false, false, false, false] rfl rfl (by kernel_rfl) (fun _ _ _ h => h) (Or.inl ⟨by rfl, ?_⟩) ?_ ?_; rotate_left; intro w'; go_simp; with_reducible rfl; rotate_left; simp only [Cap.pz]; rfl
            refine take_ (i := 8) (N := some 56) (v := ?_) (a' := ?_) #[true, true, true, true, true, true, true, true, true, false, false, false, false, false, false, false, false, false, false, false, false, false, false, false, false, false, false, false] rfl rfl (by kernel_rfl) (fun _ _ _ h => h) (Or.inl ⟨by rfl, ?_⟩) hHeld ?_ ?_; rotate_left; rintro w' ⟨s0, s1, s2⟩; go_simp; with_reducible rfl; rotate_left; simp only [Cap.pz]; rfl
            refine pure_ (i := 9) (N := some 57) (v := ?_) (a' := ?_) #[true, true, true, true, true, true, true, true, true, true, false, false, false, false, false, false, false, false, false, false, false, false, false, false, false, false, false, false] rfl rfl (by kernel_rfl) (fun _ _ _ h => h) (Or.inl ⟨by rfl, ?_⟩) ?_ ?_; rotate_left; intro w'; go_simp; with_reducible rfl; rotate_left; simp only [Cap.pz]; rfl
            refine pure_ (i := 10) (N := some 58) (v := ?_) (a' := ?_) #[true, true, true, true, true, true, true, true, true, true, true, false, false, false, false, false, false, false, false, false, false, false, false, false, false, false, false, false] rfl rfl (by kernel_rfl) (fun _ _ _ h => h) (Or.inl ⟨by rfl, ?_⟩) ?_ ?_; rotate_left; intro w'; go_simp; with_reducible rfl; rotate_left; simp only [Cap.pz]; rfl
            refine pure_ (i := 11) (N := some 59) (v := ?_) (a' := ?_) #[true, true, true, true, true, true, true, true, true, true, true, true, false, false, false, false, false, false, false, false, false, false, false, false, false, false, false, false] rfl rfl (by kernel_rfl) (fun _ _ _ h => h) (Or.inl ⟨by rfl, ?_⟩) ?_ ?_; rotate_left; intro w'; go_simp; with_reducible rfl; rotate_left; simp only [Cap.pz]; rfl
            refine pure_ (i := 12) (N := some 60) (v := ?_) (a' := ?_) #[true, true, true, true, true, true, true, true, true, true, true, true, true, false, false, false, false, false, false, false, false, false, false, false, false, false, false, false] rfl rfl (by kernel_rfl) (fun _ _ _ h => h) (Or.inl ⟨by rfl, ?_⟩) ?_ ?_; rotate_left; intro w'; go_simp; with_reducible rfl; rotate_left; simp only [Cap.pz]; rfl
            refine take_ (i := 13) (N := some 61) (v := ?_) (a' := ?_) #[true, true, true, true, true, true, true, true, true, true, true, true, true, true, false, false, false, false, false, false, false, false, false, false, false, false, false, false] rfl rfl (by kernel_rfl) (fun _ _ _ h => h) (Or.inl ⟨by rfl, ?_⟩) hHeld ?_ ?_; rotate_left; rintro w' ⟨s0, s1, s2⟩; go_simp; with_reducible rfl; rotate_left; simp only [Cap.pz]; rfl
            refine pure_ (i := 14) (N := some 62) (v := ?_) (a' := ?_) #[true, true, true, true, true, true, true, true, true, true, true, true, true, true, true, false, false, false, false, false, false, false, false, false, false, false, false, false] rfl rfl (by kernel_rfl) (fun _ _ _ h => h) (Or.inl ⟨by rfl, ?_⟩) ?_ ?_; rotate_left; intro w'; go_simp; with_reducible rfl; rotate_left; simp only [Cap.pz]; rfl
            refine pure_ (i := 15) (N := some 63) (v := ?_) (a' := ?_) #[true, true, true, true, true, true, true, true, true, true, true, true, true, true, true, true, false, false, false, false, false, false, false, false, false, false, false, false] rfl rfl (by kernel_rfl) (fun _ _ _ h => h) (Or.inl ⟨by rfl, ?_⟩) ?_ ?_; rotate_left; intro w'; go_simp; with_reducible rfl; rotate_left; simp only [Cap.pz]; rfl
            refine take_ (i := 16) (N := some 64) (v := ?_) (a' := ?_) #[true, true, true, true, true, true, true, true, true, true, true, true, true, true, true, true, true, false, false, false, false, false, false, false, false, false, false, false] rfl rfl (by kernel_rfl) (fun _ _ _ h => h) (Or.inl ⟨by rfl, ?_⟩) hHeld ?_ ?_; rotate_left; rintro w' ⟨s0, s1, s2⟩; go_simp; with_reducible rfl; rotate_left; simp only [Cap.pz]; rfl
            refine pure_ (i := 17) (N := some 65) (v := ?_) (a' := ?_) #[true, true, true, true, true, true, true, true, true, true, true, true, true, true, true, true, true, true, false, false, false, false, false, false, false, false, false, false] rfl rfl (by kernel_rfl) (fun _ _ _ h => h) (Or.inl ⟨by rfl, ?_⟩) ?_ ?_; rotate_left; intro w'; go_simp; with_reducible rfl; rotate_left; simp only [Cap.pz]; rfl
            refine pure_ (i := 18) (N := some 66) (v := ?_) (a' := ?_) #[true, true, true, true, true, true, true, true, true, true, true, true, true, true, true, true, true, true, true, false, false, false, false, false, false, false, false, false] rfl rfl (by kernel_rfl) (fun _ _ _ h => h) (Or.inl ⟨by rfl, ?_⟩) ?_ ?_; rotate_left; intro w'; go_simp; with_reducible rfl; rotate_left; simp only [Cap.pz]; rfl
            refine pure_ (i := 19) (N := some 67) (v := ?_) (a' := ?_) #[true, true, true, true, true, true, true, true, true, true, true, true, true, true, true, true, true, true, true, true, false, false, false, false, false, false, false, false] rfl rfl (by kernel_rfl) (fun _ _ _ h => h) (Or.inl ⟨by rfl, ?_⟩) ?_ ?_; rotate_left; intro w'; go_simp; with_reducible rfl; rotate_left; simp only [Cap.pz]; rfl
            refine take_ (i := 20) (N := some 68) (v := ?_) (a' := ?_) #[true, true, true, true, true, true, true, true, true, true, true, true, true, true, true, true, true, true, true, true, true, false, false, false, false, false, false, false] rfl rfl (by kernel_rfl) (fun _ _ _ h => h) (Or.inl ⟨by rfl, ?_⟩) hHeld ?_ ?_; rotate_left; rintro w' ⟨s0, s1, s2⟩; go_simp; with_reducible rfl; rotate_left; simp only [Cap.pz]; rfl
            refine pure_ (i := 21) (N := some 69) (v := ?_) (a' := ?_) #[true, true, true, true, true, true, true, true, true, true, true, true, true, true, true, true, true, true, true, true, true, true, false, false, false, false, false, false] rfl rfl (by kernel_rfl) (fun _ _ _ h => h) (Or.inl ⟨by rfl, ?_⟩) ?_ ?_; rotate_left; intro w'; go_simp; with_reducible rfl; rotate_left; simp only [Cap.pz]; rfl
            refine pure_ (i := 22) (N := some 70) (v := ?_) (a' := ?_) #[true, true, true, true, true, true, true, true, true, true, true, true, true, true, true, true, true, true, true, true, true, true, true, false, false, false, false, false] rfl rfl (by kernel_rfl) (fun _ _ _ h => h) (Or.inl ⟨by rfl, ?_⟩) ?_ ?_; rotate_left; intro w'; go_simp; with_reducible rfl; rotate_left; simp only [Cap.pz]; rfl
            refine take_ (i := 23) (N := some 71) (v := ?_) (a' := ?_) #[true, true, true, true, true, true, true, true, true, true, true, true, true, true, true, true, true, true, true, true, true, true, true, true, false, false, false, false] rfl rfl (by kernel_rfl) (fun _ _ _ h => h) (Or.inl ⟨by rfl, ?_⟩) hHeld ?_ ?_; rotate_left; rintro w' ⟨s0, s1, s2⟩; go_simp; with_reducible rfl; rotate_left; simp only [Cap.pz]; rfl
            refine pure_ (i := 24) (N := some 72) (v := ?_) (a' := ?_) #[true, true, true, true, true, true, true, true, true, true, true, true, true, true, true, true, true, true, true, true, true, true, true, true, true, false, false, false] rfl rfl (by kernel_rfl) (fun _ _ _ h => h) (Or.inl ⟨by rfl, ?_⟩) ?_ ?_; rotate_left; intro w'; go_simp; with_reducible rfl; rotate_left; simp only [Cap.pz]; rfl
            refine last_ (i := 25) (N := none) #[true, true, true, true, true, true, true, true, true, true, true, true, true, true, true, true, true, true, true, true, true, true, true, true, true, true, false, false] rfl rfl (by kernel_rfl) (by decide) (fun Kq hK => ?_)
            have hcj := HGR.out
            have hfj := HFJ.out
            refine skip_ (w1 := ?_) (by rfl) rfl ?_ ?_
            rotate_left
            · go_simp
              rfl
            refine hK.out _ _ ?_
            clear hK Kq
            have hck : ∃ u, (w7.setCell ⟨R, j, none⟩ (.slice (some ⟨A, q, none⟩) c (cA - q))).cell? ⟨R, k, none⟩ = some u := red_two HGR.out HGK.out _
            have hfk : (w7.setCell ⟨R, j, none⟩ (.slice (some ⟨A, q, none⟩) c (cA - q))).frozen? ⟨R, k, none⟩ = false := by rw [World.frozen?_setCell]; exact HFK.out
            obtain ⟨u, hck⟩ := hck
            have HSW := Aside0.mk (HG.out.swap j k hj hkr)
            have hsw_ : rowV A c cA (s' k) = .slice (some ⟨A, q, none⟩) c (cA - q) := by unfold rowV; rw [HQ.out]
            have hsw2_ : rowV A c cA (s' j) = .slice (some ⟨A, p, none⟩) c (cA - p) := by unfold rowV; rw [HP.out]
            rw [hsw_, hsw2_] at HSW
            clear hsw_ hsw2_ hcj hfj
            have HT8 := Aside0.mk (HT.out.block (w' := w7.setCell ⟨R, j, none⟩ (.slice (some ⟨A, q, none⟩) c (cA - q))) (Below.heap_setCell _ _ _ gT hTR))
            have HB8 : Aside0 (Below w0.heap.size w0 (w7.setCell ⟨R, j, none⟩ (.slice (some ⟨A, q, none⟩) c (cA - q)))) := ⟨below_set HB.out h0R⟩
            have HO8 : Aside0 (GridP (w7.setCell ⟨R, j, none⟩ (.slice (some ⟨A, q, none⟩) c (cA - q))) gO RO AO r co cAO gT so' Q) := ⟨HO.out.far (p := ⟨R, j, none⟩) nOgR nORR nOAR _⟩
            generalize w7.setCell ⟨R, j, none⟩ (.slice (some ⟨A, q, none⟩) c (cA - q)) = w8 at hck hfk HSW HT8 HB8 HO8 ⊢
            refine pure_ (i := 26) (N := some 73) (v := ?_) (a' := ?_) #[true, true, true, true, true, true, true, true, true, true, true, true, true, true, true, true, true, true, true, true, true, true, true, true, true, true, true, false] rfl rfl (by kernel_rfl) (fun _ _ _ h => h) (Or.inl ⟨by rfl, ?_⟩) ?_ ?_; rotate_left; intro w'; go_simp; with_reducible rfl; rotate_left; simp only [Cap.pz]; rfl
            refine last_ (i := 27) (N := none) #[true, true, true, true, true, true, true, true, true, true, true, true, true, true, true, true, true, true, true, true, true, true, true, true, true, true, true, true] rfl rfl (by kernel_rfl) (by decide) (fun Kq hK => ?_)
            refine skip_ (w1 := ?_) (by rfl) rfl ?_ ?_
            rotate_left
            · go_simp
              rfl
            refine hK.out _ _ ?_
            clear hK Kq
            refine done_ (by kernel_rfl) ?_
            clear hck hfk hHeld HGD HGR HGK HFJ HFK HG HT HB HP HQ HO
            have HO : Aside0 (GridP (w8.setCell ⟨R, k, none⟩ (.slice (some ⟨A, p, none⟩) c (cA - p))) gO RO AO r co cAO gT so' Q) := ⟨HO8.out.far (p := ⟨R, k, none⟩) nOgR nORR nOAR _⟩
            clear HO8
            have HG := HSW
            have HT : Aside0 (TabInv (w8.setCell ⟨R, k, none⟩ (.slice (some ⟨A, p, none⟩) c (cA - p))) gT 255) := ⟨HT8.out.block (Below.heap_setCell _ _ _ gT hTR)⟩
            have HB : Aside0 (Below w0.heap.size w0 (w8.setCell ⟨R, k, none⟩ (.slice (some ⟨A, p, none⟩) c (cA - p)))) := ⟨below_set HB8.out h0R⟩
            clear HSW HT8 HB8
            obtain ⟨s2, hs2⟩ : ∃ s2, swp s' j k = s2 := ⟨_, rfl⟩
            obtain ⟨N2, hN2⟩ : ∃ N2, swp N j k = N2 := ⟨_, rfl⟩
            rw [hs2, hN2] at HG
            have HN2 := Aside0.mk hN2
            clear hs2 hN2
            generalize w8.setCell ⟨R, k, none⟩ (.slice (some ⟨A, p, none⟩) c (cA - p)) = w9 at *
            obtain ⟨po, hpo⟩ : ∃ po, so' j * co = po := ⟨_, rfl⟩
            obtain ⟨qo, hqo⟩ : ∃ qo, so' k * co = qo := ⟨_, rfl⟩
            have hoj := HO.out.rows j hj
            have hok := HO.out.rows k hkr
            unfold rowV at hoj hok
            rw [hpo] at hoj
            rw [hqo] at hok
            obtain ⟨cRO, hod⟩ := HO.out.hd
            have HPO := Aside0.mk hpo
            have HQO := Aside0.mk hqo
            have HOD := Aside0.mk hod
            have HOJ := Aside0.mk hoj
            have HOK := Aside0.mk hok
            have HFJ := Aside0.mk (HO.out.rfr j hj)
            have HFK := Aside0.mk (HO.out.rfr k hkr)
            clear hpo hqo hoj hok hod
            go_wp2
            have n0_ : Aside0 (GridP w9.drew g R A r c cA gT s2 N2) := ⟨HG.out.below (Drawn0.below (w' := w9.drewN 1) ⟨⟨1, rfl⟩⟩)⟩
            have n1_ : Aside0 (GridP w9.drew gO RO AO r co cAO gT so' Q) := ⟨HO.out.below (Drawn0.below (w' := w9.drewN 1) ⟨⟨1, rfl⟩⟩)⟩
            have n2_ : Aside0 (TabInv w9.drew gT 255) := ⟨HT.out.block rfl⟩
            have n3_ : Aside0 (Below w0.heap.size w0 w9.drew) := ⟨below_drew1 HB.out⟩
            have n4_ : Aside0 (w9.drew.cell? ⟨gO, 0, none⟩ = some (.slice (some ⟨RO, 0, none⟩) r cRO)) := ⟨HOD.out⟩
            have n5_ : Aside0 (w9.drew.cell? ⟨RO, j, none⟩ = some (.slice (some ⟨AO, po, none⟩) co (cAO - po))) := ⟨HOJ.out⟩
            have n6_ : Aside0 (w9.drew.cell? ⟨RO, k, none⟩ = some (.slice (some ⟨AO, qo, none⟩) co (cAO - qo))) := ⟨HOK.out⟩
            have n7_ : Aside0 (w9.drew.frozen? ⟨RO, j, none⟩ = false) := ⟨HFJ.out⟩
            have n8_ : Aside0 (w9.drew.frozen? ⟨RO, k, none⟩ = false) := ⟨HFK.out⟩
            clear HG HO HT HB HOD HOJ HOK HFJ HFK
            have HG := n0_
            have HO := n1_
            have HT := n2_
            have HB := n3_
            have HOD := n4_
            have HOJ := n5_
            have HOK := n6_
            have HFJ := n7_
            have HFK := n8_
            clear n0_ n1_ n2_ n3_ n4_ n5_ n6_ n7_ n8_
            refine start_ (n := 28) (S := fun w' => w'.cell? ⟨gO, 0, none⟩ = some (.slice (some ⟨RO, 0, none⟩) r cRO) ∧ w'.cell? ⟨RO, j, none⟩ = some (.slice (some ⟨AO, po, none⟩) co (cAO - po)) ∧ w'.cell? ⟨RO, k, none⟩ = some (.slice (some ⟨AO, qo, none⟩) co (cAO - qo))) (ds := [25, 27]) #[false, false, false, false, false, false, false, false, false, false, false, false, false, false, false, false, false, false, false, false, false, false, false, false, false, false, false, false] (by kernel_rfl) rfl rfl ⟨HOD.out, HOJ.out, HOK.out⟩ (fun hHeld => ?_)
            generalize w9.drew = w7 at HG HO HT HB HOD HOJ HOK HFJ HFK hHeld ⊢
            refine pure_ (i := 0) (N := some 76) (v := ?_) (a' := ?_) #[true, false, false, false, false, false, false, false, false, false, false, false, false, false, false, false, false, false, false, false, false, false, false, false, false, false, false, false] rfl rfl (by kernel_rfl) (fun _ _ _ h => h) (Or.inl ⟨by rfl, ?_⟩) ?_ ?_; rotate_left; intro w'; go_simp; with_reducible rfl; rotate_left; simp only [Cap.pz]; rfl
            refine pure_ (i := 1) (N := some 77) (v := ?_) (a' := ?_) #[true, true, false, false, false, false, false, false, false, false, false, false, false, false, false, false, false, false, false, false, false, false, false, false, false, false, false, false] rfl rfl (by kernel_rfl) (fun _ _ _ h => h) (Or.inl ⟨by rfl, ?_⟩) ?_ ?_; rotate_left; intro w'; go_simp; with_reducible rfl; rotate_left; simp only [Cap.pz]; rfl
            refine pure_ (i := 2) (N := some 78) (v := ?_) (a' := ?_) #[true, true, true, false, false, false, false, false, false, false, false, false, false, false, false, false, false, false, false, false, false, false, false, false, false, false, false, false] rfl rfl (by kernel_rfl) (fun _ _ _ h => h) (Or.inl ⟨by rfl, ?_⟩) ?_ ?_; rotate_left; intro w'; go_simp; with_reducible rfl; rotate_left; simp only [Cap.pz]; rfl
            refine take_ (i := 3) (N := some 79) (v := ?_) (a' := ?_) #[true, true, true, true, false, false, false, false, false, false, false, false, false, false, false, false, false, false, false, false, false, false, false, false, false, false, false, false] rfl rfl (by kernel_rfl) (fun _ _ _ h => h) (Or.inl ⟨by rfl, ?_⟩) hHeld ?_ ?_; rotate_left; rintro w' ⟨s0, s1, s2⟩; go_simp; with_reducible rfl; rotate_left; simp only [Cap.pz]; rfl
            refine pure_ (i := 4) (N := some 80) (v := ?_) (a' := ?_) #[true, true, true, true, true, false, false, false, false, false, false, false, false, false, false, false, false, false, false, false, false, false, false, false, false, false, false, false] rfl rfl (by kernel_rfl) (fun _ _ _ h => h) (Or.inl ⟨by rfl, ?_⟩) ?_ ?_; rotate_left; intro w'; go_simp; with_reducible rfl; rotate_left; simp only [Cap.pz]; rfl
            refine pure_ (i := 5) (N := some 81) (v := ?_) (a' := ?_) #[true, true, true, true, true, true, false, false, false, false, false, false, false, false, false, false, false, false, false, false, false, false, false, false, false, false, false, false] rfl rfl (by kernel_rfl) (fun _ _ _ h => h) (Or.inl ⟨by rfl, ?_⟩) ?_ ?_; rotate_left; intro w'; go_simp; with_reducible rfl; rotate_left; simp only [Cap.pz]; rfl
            refine pure_ (i := 6) (N := some 82) (v := ?_) (a' := ?_) #[true, true, true, true, true, true, true, false, false, false, false, false, false, false, false, false, false, false, false, false, false, false, false, false, false, false, false, false] rfl rfl (by kernel_rfl) (fun _ _ _ h => h) (Or.inl ⟨by rfl, ?_⟩) ?_ ?_; rotate_left; intro w'; go_simp; with_reducible rfl; rotate_left; simp only [Cap.pz]; rfl
            refine pure_ (i := 7) (N := some 83) (v := ?_) (a' := ?_) #[true, true, true, true, true, true, true, true, false, false, false, false, false, false, false, false, false, false, false, false, false, false, false, false, false, false, false, false] rfl rfl (by kernel_rfl) (fun _ _ _ h => h) (Or.inl ⟨by rfl, ?_⟩) ?_ ?_; rotate_left; intro w'; go_simp; with_reducible rfl; rotate_left; simp only [Cap.pz]; rfl
            refine take_ (i := 8) (N := some 84) (v := ?_) (a' := ?_) #[true, true, true, true, true, true, true, true, true, false, false, false, false, false, false, false, false, false, false, false, false, false, false, false, false, false, false, false] rfl rfl (by kernel_rfl) (fun _ _ _ h => h) (Or.inl ⟨by rfl, ?_⟩) hHeld ?_ ?_; rotate_left; rintro w' ⟨s0, s1, s2⟩; go_simp; with_reducible rfl; rotate_left; simp only [Cap.pz]; rfl
            refine pure_ (i := 9) (N := some 85) (v := ?_) (a' := ?_) #[true, true, true, true, true, true, true, true, true, true, false, false, false, false, false, false, false, false, false, false, false, false, false, false, false, false, false, false] rfl rfl (by kernel_rfl) (fun _ _ _ h => h) (Or.inl ⟨by rfl, ?_⟩) ?_ ?_; rotate_left; intro w'; go_simp; with_reducible rfl; rotate_left; simp only [Cap.pz]; rfl
            refine pure_ (i := 10) (N := some 86) (v := ?_) (a' := ?_) #[true, true, true, true, true, true, true, true, true, true, true, false, false, false, false, false, false, false, false, false, false, false, false, false, false, false, false, false] rfl rfl (by kernel_rfl) (fun _ _ _ h => h) (Or.inl ⟨by rfl, ?_⟩) ?_ ?_; rotate_left; intro w'; go_simp; with_reducible rfl; rotate_left; simp only [Cap.pz]; rfl
            refine pure_ (i := 11) (N := some 87) (v := ?_) (a' := ?_) #[true, true, true, true, true, true, true, true, true, true, true, true, false, false, false, false, false, false, false, false, false, false, false, false, false, false, false, false] rfl rfl (by kernel_rfl) (fun _ _ _ h => h) (Or.inl ⟨by rfl, ?_⟩) ?_ ?_; rotate_left; intro w'; go_simp; with_reducible rfl; rotate_left; simp only [Cap.pz]; rfl
            refine pure_ (i := 12) (N := some 88) (v := ?_) (a' := ?_) #[true, true, true, true, true, true, true, true, true, true, true, true, true, false, false, false, false, false, false, false, false, false, false, false, false, false, false, false] rfl rfl (by kernel_rfl) (fun _ _ _ h => h) (Or.inl ⟨by rfl, ?_⟩) ?_ ?_; rotate_left; intro w'; go_simp; with_reducible rfl; rotate_left; simp only [Cap.pz]; rfl
            refine take_ (i := 13) (N := some 89) (v := ?_) (a' := ?_) #[true, true, true, true, true, true, true, true, true, true, true, true, true, true, false, false, false, false, false, false, false, false, false, false, false, false, false, false] rfl rfl (by kernel_rfl) (fun _ _ _ h => h) (Or.inl ⟨by rfl, ?_⟩) hHeld ?_ ?_; rotate_left; rintro w' ⟨s0, s1, s2⟩; go_simp; with_reducible rfl; rotate_left; simp only [Cap.pz]; rfl
            refine pure_ (i := 14) (N := some 90) (v := ?_) (a' := ?_) #[true, true, true, true, true, true, true, true, true, true, true, true, true, true, true, false, false, false, false, false, false, false, false, false, false, false, false, false] rfl rfl (by kernel_rfl) (fun _ _ _ h => h) (Or.inl ⟨by rfl, ?_⟩) ?_ ?_; rotate_left; intro w'; go_simp; with_reducible rfl; rotate_left; simp only [Cap.pz]; rfl
            refine pure_ (i := 15) (N := some 91) (v := ?_) (a' := ?_) #[true, true, true, true, true, true, true, true, true, true, true, true, true, true, true, true, false, false, false, false, false, false, false, false, false, false, false, false] rfl rfl (by kernel_rfl) (fun _ _ _ h => h) (Or.inl ⟨by rfl, ?_⟩) ?_ ?_; rotate_left; intro w'; go_simp; with_reducible rfl; rotate_left; simp only [Cap.pz]; rfl
            refine take_ (i := 16) (N := some 92) (v := ?_) (a' := ?_) #[true, true, true, true, true, true, true, true, true, true, true, true, true, true, true, true, true, false, false, false, false, false, false, false, false, false, false, false] rfl rfl (by kernel_rfl) (fun _ _ _ h => h) (Or.inl ⟨by rfl, ?_⟩) hHeld ?_ ?_; rotate_left; rintro w' ⟨s0, s1, s2⟩; go_simp; with_reducible rfl; rotate_left; simp only [Cap.pz]; rfl
            refine pure_ (i := 17) (N := some 93) (v := ?_) (a' := ?_) #[true, true, true, true, true, true, true, true, true, true, true, true, true, true, true, true, true, true, false, false, false, false, false, false, false, false, false, false] rfl rfl (by kernel_rfl) (fun _ _ _ h => h) (Or.inl ⟨by rfl, ?_⟩) ?_ ?_; rotate_left; intro w'; go_simp; with_reducible rfl; rotate_left; simp only [Cap.pz]; rfl
            refine pure_ (i := 18) (N := some 94) (v := ?_) (a' := ?_) #[true, true, true, true, true, true, true, true, true, true, true, true, true, true, true, true, true, true, true, false, false, false, false, false, false, false, false, false] rfl rfl (by kernel_rfl) (fun _ _ _ h => h) (Or.inl ⟨by rfl, ?_⟩) ?_ ?_; rotate_left; intro w'; go_simp; with_reducible rfl; rotate_left; simp only [Cap.pz]; rfl
            refine pure_ (i := 19) (N := some 95) (v := ?_) (a' := ?_) #[true, true, true, true, true, true, true, true, true, true, true, true, true, true, true, true, true, true, true, true, false, false, false, false, false, false, false, false] rfl rfl (by kernel_rfl) (fun _ _ _ h => h) (Or.inl ⟨by rfl, ?_⟩) ?_ ?_; rotate_left; intro w'; go_simp; with_reducible rfl; rotate_left; simp only [Cap.pz]; rfl
            refine take_ (i := 20) (N := some 96) (v := ?_) (a' := ?_) #[true, true, true, true, true, true, true, true, true, true, true, true, true, true, true, true, true, true, true, true, true, false, false, false, false, false, false, false] rfl rfl (by kernel_rfl) (fun _ _ _ h => h) (Or.inl ⟨by rfl, ?_⟩) hHeld ?_ ?_; rotate_left; rintro w' ⟨s0, s1, s2⟩; go_simp; with_reducible rfl; rotate_left; simp only [Cap.pz]; rfl
            refine pure_ (i := 21) (N := some 97) (v := ?_) (a' := ?_) #[true, true, true, true, true, true, true, true, true, true, true, true, true, true, true, true, true, true, true, true, true, true, false, false, false, false, false, false] rfl rfl (by kernel_rfl) (fun _ _ _ h => h) (Or.inl ⟨by rfl, ?_⟩) ?_ ?_; rotate_left; intro w'; go_simp; with_reducible rfl; rotate_left; simp only [Cap.pz]; rfl
            refine pure_ (i := 22) (N := some 98) (v := ?_) (a' := ?_) #[true, true, true, true, true, true, true, true, true, true, true, true, true, true, true, true, true, true, true, true, true, true, true, false, false, false, false, false] rfl rfl (by kernel_rfl) (fun _ _ _ h => h) (Or.inl ⟨by rfl, ?_⟩) ?_ ?_; rotate_left; intro w'; go_simp; with_reducible rfl; rotate_left; simp only [Cap.pz]; rfl
            refine take_ (i := 23) (N := some 99) (v := ?_) (a' := ?_) #[true, true, true, true, true, true, true, true, true, true, true, true, true, true, true, true, true, true, true, true, true, true, true, true, false, false, false, false] rfl rfl (by kernel_rfl) (fun _ _ _ h => h) (Or.inl ⟨by rfl, ?_⟩) hHeld ?_ ?_; rotate_left; rintro w' ⟨s0, s1, s2⟩; go_simp; with_reducible rfl; rotate_left; simp only [Cap.pz]; rfl
            refine pure_ (i := 24) (N := some 100) (v := ?_) (a' := ?_) #[true, true, true, true, true, true, true, true, true, true, true, true, true, true, true, true, true, true, true, true, true, true, true, true, true, false, false, false] rfl rfl (by kernel_rfl) (fun _ _ _ h => h) (Or.inl ⟨by rfl, ?_⟩) ?_ ?_; rotate_left; intro w'; go_simp; with_reducible rfl; rotate_left; simp only [Cap.pz]; rfl
            refine last_ (i := 25) (N := none) #[true, true, true, true, true, true, true, true, true, true, true, true, true, true, true, true, true, true, true, true, true, true, true, true, true, true, false, false] rfl rfl (by kernel_rfl) (by decide) (fun Kq hK => ?_)
            have hcj := HOJ.out
            have hfj := HFJ.out
            refine skip_ (w1 := ?_) (by rfl) rfl ?_ ?_
            rotate_left
            · go_simp
              rfl
            refine hK.out _ _ ?_
            clear hK Kq
            have hck : ∃ u, (w7.setCell ⟨RO, j, none⟩ (.slice (some ⟨AO, qo, none⟩) co (cAO - qo))).cell? ⟨RO, k, none⟩ = some u := red_two HOJ.out HOK.out _
            have hfk : (w7.setCell ⟨RO, j, none⟩ (.slice (some ⟨AO, qo, none⟩) co (cAO - qo))).frozen? ⟨RO, k, none⟩ = false := by rw [World.frozen?_setCell]; exact HFK.out
            obtain ⟨u, hck⟩ := hck
            have HSW := Aside0.mk (HO.out.swap j k hj hkr)
            have hsw_ : rowV AO co cAO (so' k) = .slice (some ⟨AO, qo, none⟩) co (cAO - qo) := by unfold rowV; rw [HQO.out]
            have hsw2_ : rowV AO co cAO (so' j) = .slice (some ⟨AO, po, none⟩) co (cAO - po) := by unfold rowV; rw [HPO.out]
            rw [hsw_, hsw2_] at HSW
            clear hsw_ hsw2_ hcj hfj
            have HT8 := Aside0.mk (HT.out.block (w' := (w7.setCell ⟨RO, j, none⟩ (.slice (some ⟨AO, qo, none⟩) co (cAO - qo)))) (Below.heap_setCell _ _ _ gT hTRO))
            have HB8 : Aside0 (Below w0.heap.size w0 (w7.setCell ⟨RO, j, none⟩ (.slice (some ⟨AO, qo, none⟩) co (cAO - qo)))) := ⟨below_set HB.out h0RO⟩
            have HG8 : Aside0 (GridP (w7.setCell ⟨RO, j, none⟩ (.slice (some ⟨AO, qo, none⟩) co (cAO - qo))) g R A r c cA gT s2 N2) := ⟨HG.out.far (p := ⟨RO, j, none⟩) ngOR nORR.symm nORA.symm _⟩
            generalize w7.setCell ⟨RO, j, none⟩ (.slice (some ⟨AO, qo, none⟩) co (cAO - qo)) = w8 at hck hfk HSW HT8 HB8 HG8 ⊢
            refine pure_ (i := 26) (N := some 101) (v := ?_) (a' := ?_) #[true, true, true, true, true, true, true, true, true, true, true, true, true, true, true, true, true, true, true, true, true, true, true, true, true, true, true, false] rfl rfl (by kernel_rfl) (fun _ _ _ h => h) (Or.inl ⟨by rfl, ?_⟩) ?_ ?_; rotate_left; intro w'; go_simp; with_reducible rfl; rotate_left; simp only [Cap.pz]; rfl
            refine last_ (i := 27) (N := none) #[true, true, true, true, true, true, true, true, true, true, true, true, true, true, true, true, true, true, true, true, true, true, true, true, true, true, true, true] rfl rfl (by kernel_rfl) (by decide) (fun Kq hK => ?_)
            refine skip_ (w1 := ?_) (by rfl) rfl ?_ ?_
            rotate_left
            · go_simp
              rfl
            refine hK.out _ _ ?_
            clear hK Kq
            refine done_ (by kernel_rfl) ?_
            clear hck hfk hHeld HOD HOJ HOK HFJ HFK HO HT HPO HQO HG HB
            have HO := HSW
            have HG : Aside0 (GridP (w8.setCell ⟨RO, k, none⟩ (.slice (some ⟨AO, po, none⟩) co (cAO - po))) g R A r c cA gT s2 N2) := ⟨HG8.out.far (p := ⟨RO, k, none⟩) ngOR nORR.symm nORA.symm _⟩
            have HT : Aside0 (TabInv (w8.setCell ⟨RO, k, none⟩ (.slice (some ⟨AO, po, none⟩) co (cAO - po))) gT 255) := ⟨HT8.out.block (Below.heap_setCell _ _ _ gT hTRO)⟩
            have HB : Aside0 (Below w0.heap.size w0 (w8.setCell ⟨RO, k, none⟩ (.slice (some ⟨AO, po, none⟩) co (cAO - po)))) := ⟨below_set HB8.out h0RO⟩
            clear HSW HT8 HB8 HG8
            generalize w8.setCell ⟨RO, k, none⟩ (.slice (some ⟨AO, po, none⟩) co (cAO - po)) = w9 at *
            obtain ⟨so2, hs2⟩ : ∃ s2, swp so' j k = s2 := ⟨_, rfl⟩
            obtain ⟨Q2, hN2⟩ : ∃ N2, swp Q j k = N2 := ⟨_, rfl⟩
            rw [hs2, hN2] at HO
            have HQ2 := Aside0.mk hN2
            clear hs2 hN2
            obtain ⟨y, hy⟩ : ∃ y, N2 k n = y := ⟨_, rfl⟩
            have hyl := HG.out.byte k n hkr hnc
            have hce := HG.out.cell k n hkr hnc
            rw [hy] at hyl hce
            obtain ⟨q2, hq2⟩ : ∃ q2, s2 k * c = q2 := ⟨_, rfl⟩
            have hgr := HG.out.rows k hkr
            unfold rowV at hgr
            rw [hq2] at hgr hce
            obtain ⟨cR2, hgd⟩ := HG.out.hd
            have HY := Aside0.mk hy
            have HGF := Aside0.mk HG.out.fld
            have HGD := Aside0.mk hgd
            have HGR := Aside0.mk hgr
            have HCE := Aside0.mk hce
            clear hy hq2 hgd hgr hce
            go_wp2
            have n0_ : Aside0 (GridP w9.drew gO RO AO r co cAO gT so2 Q2) := ⟨HO.out.below (Drawn0.below (w' := w9.drewN 1) ⟨⟨1, rfl⟩⟩)⟩
            clear HO
            have HO := n0_
            clear n0_
            have n0_ : Aside0 (GridP w9.drew g R A r c cA gT s2 N2) := ⟨HG.out.below (Drawn0.below (w' := w9.drewN 1) ⟨⟨1, rfl⟩⟩)⟩
            have n1_ : Aside0 (TabInv w9.drew gT 255) := ⟨HT.out.block rfl⟩
            have n2_ : Aside0 (Below w0.heap.size w0 w9.drew) := ⟨below_drew1 HB.out⟩
            have n3_ : Aside0 (w9.drew.cell? ⟨g, 1, none⟩ = some (.pointer (some ⟨gT, 0, none⟩))) := ⟨HGF.out⟩
            have n4_ : Aside0 (w9.drew.cell? ⟨g, 0, none⟩ = some (.slice (some ⟨R, 0, none⟩) r cR2)) := ⟨HGD.out⟩
            have n5_ : Aside0 (w9.drew.cell? ⟨R, k, none⟩ = some (.slice (some ⟨A, q2, none⟩) c (cA - q2))) := ⟨HGR.out⟩
            have n6_ : Aside0 (w9.drew.cell? ⟨A, q2 + n, none⟩ = some (.int .u8 (y : Int))) := ⟨HCE.out⟩
            clear HG HT HB HGF HGD HGR HCE
            have HG := n0_
            have HT := n1_
            have HB := n2_
            have HGF := n3_
            have HGD := n4_
            have HGR := n5_
            have HCE := n6_
            clear n0_ n1_ n2_ n3_ n4_ n5_ n6_
            refine start_ (n := 16) (S := fun w' => w'.cell? ⟨g, 1, none⟩ = some (.pointer (some ⟨gT, 0, none⟩)) ∧ w'.cell? ⟨g, 0, none⟩ = some (.slice (some ⟨R, 0, none⟩) r cR2) ∧ w'.cell? ⟨R, k, none⟩ = some (.slice (some ⟨A, q2, none⟩) c (cA - q2)) ∧ w'.cell? ⟨A, q2 + n, none⟩ = some (.int .u8 (y : Int))) (ds := []) #[false, false, false, false, false, false, false, false, false, false, false, false, false, false, false, false] (by kernel_rfl) rfl rfl ⟨HGF.out, HGD.out, HGR.out, HCE.out⟩ (fun hHeld => ?_)
            generalize w9.drew = w10 at HG HO HT HB HGF HGD HGR HCE hHeld ⊢
            refine pure_ (i := 0) (N := some 102) (v := ?_) (a' := ?_) #[true, false, false, false, false, false, false, false, false, false, false, false, false, false, false, false] rfl rfl (by kernel_rfl) (fun _ _ _ h => h) (Or.inl ⟨by rfl, ?_⟩) ?_ ?_; rotate_left; intro w'; go_simp; with_reducible rfl; rotate_left; simp only [Cap.pz]; rfl
            refine pure_ (i := 1) (N := some 103) (v := ?_) (a' := ?_) #[true, true, false, false, false, false, false, false, false, false, false, false, false, false, false, false] rfl rfl (by kernel_rfl) (fun _ _ _ h => h) (Or.inl ⟨by rfl, ?_⟩) ?_ ?_; rotate_left; intro w'; go_simp; with_reducible rfl; rotate_left; simp only [Cap.pz]; rfl
            refine pure_ (i := 2) (N := some 104) (v := ?_) (a' := ?_) #[true, true, true, false, false, false, false, false, false, false, false, false, false, false, false, false] rfl rfl (by kernel_rfl) (fun _ _ _ h => h) (Or.inl ⟨by rfl, ?_⟩) ?_ ?_; rotate_left; intro w'; go_simp; with_reducible rfl; rotate_left; simp only [Cap.pz]; rfl
            refine take_ (i := 3) (N := some 105) (v := ?_) (a' := ?_) #[true, true, true, true, false, false, false, false, false, false, false, false, false, false, false, false] rfl rfl (by kernel_rfl) (fun _ _ _ h => h) (Or.inl ⟨by rfl, ?_⟩) hHeld ?_ ?_; rotate_left; rintro w' ⟨s0, s1, s2, s3⟩; go_simp; with_reducible rfl; rotate_left; simp only [Cap.pz]; rfl
            refine pure_ (i := 4) (N := some 106) (v := ?_) (a' := ?_) #[true, true, true, true, true, false, false, false, false, false, false, false, false, false, false, false] rfl rfl (by kernel_rfl) (fun _ _ _ h => h) (Or.inl ⟨by rfl, ?_⟩) ?_ ?_; rotate_left; intro w'; go_simp; with_reducible rfl; rotate_left; simp only [Cap.pz]; rfl
            refine pure_ (i := 5) (N := some 107) (v := ?_) (a' := ?_) #[true, true, true, true, true, true, false, false, false, false, false, false, false, false, false, false] rfl rfl (by kernel_rfl) (fun _ _ _ h => h) (Or.inl ⟨by rfl, ?_⟩) ?_ ?_; rotate_left; intro w'; go_simp; with_reducible rfl; rotate_left; simp only [Cap.pz]; rfl
            refine pure_ (i := 6) (N := some 108) (v := ?_) (a' := ?_) #[true, true, true, true, true, true, true, false, false, false, false, false, false, false, false, false] rfl rfl (by kernel_rfl) (fun _ _ _ h => h) (Or.inl ⟨by rfl, ?_⟩) ?_ ?_; rotate_left; intro w'; go_simp; with_reducible rfl; rotate_left; simp only [Cap.pz]; rfl
            refine take_ (i := 7) (N := some 109) (v := ?_) (a' := ?_) #[true, true, true, true, true, true, true, true, false, false, false, false, false, false, false, false] rfl rfl (by kernel_rfl) (fun _ _ _ h => h) (Or.inl ⟨by rfl, ?_⟩) hHeld ?_ ?_; rotate_left; rintro w' ⟨s0, s1, s2, s3⟩; go_simp; with_reducible rfl; rotate_left; simp only [Cap.pz]; rfl
            refine pure_ (i := 8) (N := some 110) (v := ?_) (a' := ?_) #[true, true, true, true, true, true, true, true, true, false, false, false, false, false, false, false] rfl rfl (by kernel_rfl) (fun _ _ _ h => h) (Or.inl ⟨by rfl, ?_⟩) ?_ ?_; rotate_left; intro w'; go_simp; with_reducible rfl; rotate_left; simp only [Cap.pz]; rfl
            refine pure_ (i := 9) (N := some 111) (v := ?_) (a' := ?_) #[true, true, true, true, true, true, true, true, true, true, false, false, false, false, false, false] rfl rfl (by kernel_rfl) (fun _ _ _ h => h) (Or.inl ⟨by rfl, ?_⟩) ?_ ?_; rotate_left; intro w'; go_simp; with_reducible rfl; rotate_left; simp only [Cap.pz]; rfl
            refine take_ (i := 10) (N := some 112) (v := ?_) (a' := ?_) #[true, true, true, true, true, true, true, true, true, true, true, false, false, false, false, false] rfl rfl (by kernel_rfl) (fun _ _ _ h => h) (Or.inl ⟨by rfl, ?_⟩) hHeld ?_ ?_; rotate_left; rintro w' ⟨s0, s1, s2, s3⟩; go_simp; with_reducible rfl; rotate_left; simp only [Cap.pz]; rfl
            refine pure_ (i := 11) (N := some 113) (v := ?_) (a' := ?_) #[true, true, true, true, true, true, true, true, true, true, true, true, false, false, false, false] rfl rfl (by kernel_rfl) (fun _ _ _ h => h) (Or.inl ⟨by rfl, ?_⟩) ?_ ?_; rotate_left; intro w'; go_simp; with_reducible rfl; rotate_left; simp only [Cap.pz]; rfl
            refine pure_ (i := 12) (N := some 114) (v := ?_) (a' := ?_) #[true, true, true, true, true, true, true, true, true, true, true, true, true, false, false, false] rfl rfl (by kernel_rfl) (fun _ _ _ h => h) (Or.inl ⟨by rfl, ?_⟩) ?_ ?_; rotate_left; intro w'; go_simp; with_reducible rfl; rotate_left; simp only [Cap.pz]; rfl
            refine take_ (i := 13) (N := some 115) (v := ?_) (a' := ?_) #[true, true, true, true, true, true, true, true, true, true, true, true, true, true, false, false] rfl rfl (by kernel_rfl) (fun _ _ _ h => h) (Or.inl ⟨by rfl, ?_⟩) hHeld ?_ ?_; rotate_left; rintro w' ⟨s0, s1, s2, s3⟩; go_simp; with_reducible rfl; rotate_left; simp only [Cap.pz]; rfl
            refine one_ (i := 14) (N := some 116) #[true, true, true, true, true, true, true, true, true, true, true, true, true, true, true, false] rfl rfl (by kernel_rfl) (by decide) (fun Kq hK => ?_)
            refine goes_ Try.func105 (by kernel_rfl) rfl #[.pointer (some ⟨gT, 0, none⟩), .int .u8 (y : Int)] (by rfl) rfl rfl (by simp only [List.map_toArray, List.map_cons, List.map_nil]; rfl) ?_
            with_reducible refine (impl_tables8_inv.callsN gT y hyl w10 HT.out).mono ?_
            rintro e w' ⟨rfl, ⟨nd, rfl⟩⟩
            refine ⟨_, rfl, ?_⟩
            have n0_ : Aside0 (GridP (w10.drewN nd) gO RO AO r co cAO gT so2 Q2) := ⟨HO.out.below (Drawn0.below (w' := w10.drewN nd) ⟨⟨nd, rfl⟩⟩)⟩
            clear HO
            have HO := n0_
            clear n0_
            have n0_ : Aside0 (GridP (w10.drewN nd) g R A r c cA gT s2 N2) := ⟨HG.out.below (Drawn0.below (w' := w10.drewN nd) ⟨⟨nd, rfl⟩⟩)⟩
            have n1_ : Aside0 (TabInv (w10.drewN nd) gT 255) := ⟨HT.out.block rfl⟩
            have n2_ : Aside0 (Below w0.heap.size w0 (w10.drewN nd)) := ⟨below_step HB.out (Drawn0.below (w' := w10.drewN nd) ⟨⟨nd, rfl⟩⟩)⟩
            clear HG HT HB
            have HG := n0_
            have HT := n1_
            have HB := n2_
            clear n0_ n1_ n2_
            refine hK.out _ _ ⟨HGF.out, HGD.out, HGR.out, HCE.out⟩ (fun hHeld => ?_)
            clear hK Kq
            refine norm_ (a' := ?_) ?_ ?_; rotate_left; show Act.put _ (some 116) _ = _; simp only [Cap.pz]; rfl
            refine pure_ (i := 15) (N := some 10) (v := ?_) (a' := ?_) #[true, true, true, true, true, true, true, true, true, true, true, true, true, true, true, true] rfl rfl (by kernel_rfl) (fun _ _ _ h => h) (Or.inl ⟨by rfl, ?_⟩) ?_ ?_; rotate_left; intro w'; go_simp; with_reducible rfl; rotate_left; simp only [Cap.pz]; rfl
            refine done_ (by kernel_rfl) ?_
            clear hHeld HGF HGD HGR HCE
            go_wp2_with (first | (go_at_call 123; (with_reducible refine (impl_grid_scale.callsN g R A r c cA gT s2 N2 k (tabInv y) hkr (red_inv y) hc1 hr hc w0 _ HG.out HT.out hTA h0 HB.out).mono ?_); rintro e w11 ⟨rfl, hG_, hT_, hon_, hB_⟩; have hO_ := HO.out.only hon_ nOgA nORA nOAA; clear HG HT HB HO; have HG := Aside0.mk hG_; have HO := Aside0.mk hO_; have HT := Aside0.mk hT_; have HB := Aside0.mk hB_; clear hG_ hT_ hB_ hO_ hon_) | (go_at_call 123; (with_reducible refine (impl_grid_scale.callsN gO RO AO r co cAO gT so2 Q2 k (tabInv y) hkr (red_inv y) hco1 hr hco w0 _ HO.out HT.out hTAO h0O HB.out).mono ?_); rintro e w11 ⟨rfl, hO_, hT_, hon_, hB_⟩; have hG_ := HG.out.only hon_ ngOA nOAR.symm nOAA.symm; clear HG HT HB HO; have HG := Aside0.mk hG_; have HO := Aside0.mk hO_; have HT := Aside0.mk hT_; have HB := Aside0.mk hB_; clear hG_ hT_ hB_ hO_ hon_; obtain ⟨cR3, hgd⟩ := HG.out.hd))
            clear hgd
            obtain ⟨N3, hN3⟩ : ∃ N3, scaleM N2 k (tabInv y) c = N3 := ⟨_, rfl⟩
            rw [hN3] at HG
            have HN3 := Aside0.mk hN3
            clear hN3
            obtain ⟨Q3, hQ3⟩ : ∃ N3, scaleM Q2 k (tabInv y) co = N3 := ⟨_, rfl⟩
            rw [hQ3] at HO
            have HQ3 := Aside0.mk hQ3
            clear hQ3
            go_loopw [132] (fun v132 wr => ∃ i : Nat, i ≤ r ∧ v132 = .int .i64 (i : Int) ∧ Aside0 (GridP wr g R A r c cA gT s2 (clearM N3 k n c i)) ∧ Aside0 (GridP wr gO RO AO r co cAO gT so2 (clearO N3 Q3 k n c co i)) ∧ Aside0 (TabInv wr gT 255) ∧ Aside0 (Below w0.heap.size w0 wr)) (fun v132 _ => r - (intOf v132).toNat)
            case atStart => exact ⟨0, Nat.zero_le _, rfl, HG, HO, HT, HB⟩
            case round =>
              clear HG HT HB HO
              obtain ⟨i, hi, rfl, HG, HO, HT, HB⟩ := hrel
              by_cases hli : i < r
              · obtain ⟨z, hz⟩ : ∃ z, clearM N3 k n c i i n = z := ⟨_, rfl⟩
                have hzl := HG.out.byte i n hli hnc
                have hce := HG.out.cell i n hli hnc
                rw [hz] at hzl hce
                obtain ⟨q3, hq3⟩ : ∃ q3, s2 i * c = q3 := ⟨_, rfl⟩
                have hgr := HG.out.rows i hli
                unfold rowV at hgr
                rw [hq3] at hgr hce
                obtain ⟨cR4, hgd⟩ := HG.out.hd
                have HZ := Aside0.mk hz
                clear hz hq3
                by_cases hik : i = k
                · have x2 : ((i : Int) == (k : Int)) = true := beq_iff_eq.mpr (by omega)
                  have x3 : ((i : Int) != (k : Int)) = false := bne_eq_false_iff_eq.mpr (by omega)
                  have HIK := Aside0.mk hik
                  clear hik
                  go_wp2
                  go_roundw
                  case rel => exact ⟨i + 1, by omega, by go_num, ⟨by rw [clearM_skip (Or.inl HIK.out)]; exact HG.out⟩, ⟨by rw [clearO_skip (Or.inl HIK.out)]; exact HO.out⟩, HT, HB⟩
                  case measure => simp [intOf]; omega
                · have x2 : ((i : Int) == (k : Int)) = false := beq_eq_false_iff_ne.mpr (by omega)
                  have x3 : ((i : Int) != (k : Int)) = true := bne_iff_ne.mpr (by omega)
                  by_cases hz0 : z = 0
                  · have x4 : ((z : Int) == 0) = true := beq_iff_eq.mpr (by omega)
                    have x5 : ((z : Int) != 0) = false := bne_eq_false_iff_eq.mpr (by omega)
                    go_wp2
                    go_roundw
                    case rel => exact ⟨i + 1, by omega, by go_num, ⟨by rw [clearM_skip (Or.inr (HZ.out.trans hz0))]; exact HG.out⟩, ⟨by rw [clearO_skip (Or.inr (HZ.out.trans hz0))]; exact HO.out⟩, HT, HB⟩
                    case measure => simp [intOf]; omega
                  · have x4 : ((z : Int) == 0) = false := beq_eq_false_iff_ne.mpr (by omega)
                    have x5 : ((z : Int) != 0) = true := bne_iff_ne.mpr (by omega)
                    have HADD := Aside0.mk (impl_grid_add.callsN g R A r c cA gT s2 (clearM N3 k n c i) i k z hli hkr (fun e_ => hik e_.symm) hzl hc1 hr hc w0 wr HG.out HT.out hTA h0 HB.out)
                    go_wp2_with (first | (go_at_call 124; (with_reducible refine HADD.out.mono ?_); rintro e w12 ⟨rfl, hG_, hT_, hon_, hB_⟩; have hO_ := HO.out.only hon_ nOgA nORA nOAA; clear HADD HG HT HB HO; have HADO := Aside0.mk (impl_grid_add.callsN gO RO AO r co cAO gT so2 (clearO N3 Q3 k n c co i) i k z hli hkr (fun e_ => hik e_.symm) hzl hco1 hr hco w0 w12 hO_ hT_ hTAO h0O hB_); have HG := Aside0.mk hG_; clear hO_ hT_ hB_ hG_ hon_) | (go_at_call 124; (with_reducible refine HADO.out.mono ?_); rintro e w13 ⟨rfl, hO_, hT_, hon_, hB_⟩; have hG_ := HG.out.only hon_ ngOA nOAR.symm nOAA.symm; clear HADO HG; have HG := Aside0.mk hG_; have HO := Aside0.mk hO_; have HT := Aside0.mk hT_; have HB := Aside0.mk hB_; clear hG_ hT_ hB_ hO_ hon_))
                    go_roundw
                    case rel => exact ⟨i + 1, by omega, by go_num, ⟨by rw [clearM_add hik (fun e_ => hz0 (HZ.out.symm.trans e_)), HZ.out]; exact HG.out⟩, ⟨by rw [clearO_add hik (fun e_ => hz0 (HZ.out.symm.trans e_)), HZ.out]; exact HO.out⟩, HT, HB⟩
                    case measure => simp [intOf]; omega
              · have ei : i = r := by omega
                have e_ := redGo_some HN.out HK.out hkr (HF.out.trans (redAt_here hj hx_))
                have eo_ := redO_some (O := O) (co := co) HN.out HK.out HQQ.out hkr (HF.out.trans (redAt_here hj hx_))
                have hwk := red_w (j := k) (by omega)
                have EI := Aside0.mk ei
                have EE := Aside0.mk e_
                have EO := Aside0.mk eo_
                clear ei e_ eo_
                go_wp2
                refine ⟨⟨n + 1, s2, so2, by omega, by rw [EE.out]; rfl, rfl, ⟨by rw [EE.out]; unfold pivM; rw [HN2.out, HY.out, HN3.out]; have h := HG.out; rw [EI.out] at h; exact h⟩, ⟨by rw [EO.out]; unfold pivO; rw [HN2.out, HQ2.out, HY.out, HN3.out, HQ3.out]; have h := HO.out; rw [EI.out] at h; exact h⟩, HT, HB⟩, ?_⟩
                simp [intOf]
                omega
      · have c1 : decide ((k : Int) < (r : Int)) = false := decide_eq_false (by omega)
        go_wp2
        rw [Exit.noGoto_ret]
        go_ret
        have e_ := redGo_stop M r c (n := n) (by rw [HK.out]; exact hkr) (cols - n)
        rw [show n + (cols - n) = cols by omega] at e_
        have eo_ := redO_stop M O r c co (n := n) (by rw [HK.out]; exact hkr) (cols - n)
        rw [show n + (cols - n) = cols by omega] at eo_
        refine ⟨?_, ⟨so', by rw [eo_, HQQ.out]; exact HO.out⟩, HB.out⟩
        rw [e_, HK.out]
        rfl
    · have c0 : decide ((n : Int) < (cols : Int)) = false := decide_eq_false (by omega)
      go_wp2
      rw [Exit.noGoto_ret]
      go_ret
      have e_ : n = cols := by omega
      refine ⟨?_, ⟨so', by rw [← e_, HQQ.out]; exact HO.out⟩, HB.out⟩
      rw [← e_, HK.out]
      rfl
/-- A grid's bytes, row behind row. -/
def gridL (M : Nat → Nat → Nat) (r c : Nat) : List Int := (List.range (r * c)).map fun p => ((M (p / c) (p % c) : Nat) : Int)
theorem gridL_len (M : Nat → Nat → Nat) (r c : Nat) : (gridL M r c).length = r * c := by simp [gridL]
theorem gridL_rd (M : Nat → Nat → Nat) (r c i j : Nat) (hi : i < r) (hj : j < c) : rd (gridL M r c) ((i * c + j : Nat) : Int) = ((M i j : Nat) : Int) := by
  have h1 : (i * c + j) / c = i := by rw [Nat.mul_comm, Nat.mul_add_div (by omega), Nat.div_eq_of_lt hj, Nat.add_zero]
  have h2 : (i * c + j) % c = j := by rw [Nat.mul_comm, Nat.mul_add_mod, Nat.mod_eq_of_lt hj]
  have h3 : i * c + j < r * c := by have := (mul_lt hi (show 1 ≤ c by omega)).2; omega
  unfold rd gridL
  rw [Int.toNat_natCast, List.getD_eq_getElem?_getD, List.getElem?_map, List.getElem?_range h3, Option.map_some, h1, h2]
  rfl
set_option maxHeartbeats 8000000 in
set_option maxRecDepth 100000 in
theorem impl_grid_matrix.callsP (g R A r c cA gT : Nat) (s : Nat → Nat) (M : Nat → Nat → Nat) (hr1 : 1 ≤ r) (hc1 : 1 ≤ c) (hr : r ≤ 64) (hc : c ≤ 64) (w : World) (hG : GridP w g R A r c cA gT s M) :
    Calls Try.prog 79 #[.pointer (some ⟨g, 0, none⟩)] w fun e w' => ∃ v, e = .returned (.agg #[.int .i64 (r : Int), .int .i64 (c : Int), v]) ∧ Kd.R (Kd.int .i64) 2 w' w.heap.size (fun _ => True) v (gridL M r c) ∧ Below w.heap.size w w' := by
  obtain ⟨L, hL⟩ : ∃ L, gridL M r c = L := ⟨_, rfl⟩
  have HLEN := Aside0.mk (show L.length = r * c by rw [← hL]; exact gridL_len M r c)
  have HRD := Aside0.mk (show ∀ i j, i < r → j < c → rd L ((i * c + j : Nat) : Int) = ((M i j : Nat) : Int) from fun i j hi hj => by rw [← hL]; exact gridL_rd M r c i j hi hj)
  rw [hL]
  clear hL
  have hrc : r * c ≤ 64 * 64 := Nat.mul_le_mul hr hc
  obtain ⟨cR, hgd⟩ := hG.hd
  have hg0 := hG.rows 0 (by omega)
  unfold rowV at hg0
  obtain ⟨p0, hp0⟩ : ∃ p0, s 0 * c = p0 := ⟨_, rfl⟩
  rw [hp0] at hg0
  clear hp0
  have HGD := Aside0.mk hgd
  have HG0 := Aside0.mk hg0
  have HG := Aside0.mk hG
  have HRC := Aside0.mk hrc
  have hr0 : 0 < r := by omega
  clear hgd hg0 hG hrc
  go_enter Try.func79, Try.ntmps79
  go_wp2_with ((with_reducible refine gate_dst (N := 2) rfl ?_); refine box_event ?hg (N := 2) ?hd (cs := #[.int .i64 0, .int .i64 0, .slice none 0 0]) (t := 34) ?hr ?_; (case hd => rfl); (case hg => rfl); (case hr => first | (go_simp; done) | (go_simp; rfl)); intro g2 hg w1 hbox hb; have HB := Aside0.mk hb; have BK2 := Aside0.mk hbox; have GE2 := Aside0.mk (show w.heap.size ≤ g2 by rw [hg]; exact Nat.le_refl _); clear hb hbox hg)
  have n0_ : Aside0 (w1.drew.heap[g2]? = some (.cells #[.int .i64 0, .int .i64 0, .slice none 0 0] 34 (0, 0))) := ⟨blk_drew BK2.out⟩
  have n1_ : Aside0 (Below w.heap.size w w1.drew) := ⟨below_drew1 HB.out⟩
  clear BK2 HB
  have BK2 := n0_
  have HB := n1_
  clear n0_ n1_
  refine start_ (n := 15) (S := fun w' => w'.cell? ⟨g, 0, none⟩ = some (.slice (some ⟨R, 0, none⟩) r cR) ∧ w'.cell? ⟨R, 0, none⟩ = some (.slice (some ⟨A, p0, none⟩) c (cA - p0))) (ds := [14]) #[false, false, false, false, false, false, false, false, false, false, false, false, false, false, false] (by kernel_rfl) rfl rfl ⟨pw_cell_below HB.out HGD.out, pw_cell_below HB.out HG0.out⟩ (fun hHeld => ?_)
  generalize w1.drew = w7 at BK2 HB hHeld ⊢
  refine pure_ (i := 0) (N := some 8) (v := ?_) (a' := ?_) #[true, false, false, false, false, false, false, false, false, false, false, false, false, false, false] rfl rfl (by kernel_rfl) (fun _ _ _ h => h) (Or.inl ⟨by rfl, ?_⟩) ?_ ?_; rotate_left; intro w'; go_simp; with_reducible rfl; rotate_left; simp only [Cap.pz]; rfl
  refine pure_ (i := 1) (N := some 9) (v := ?_) (a' := ?_) #[true, true, false, false, false, false, false, false, false, false, false, false, false, false, false] rfl rfl (by kernel_rfl) (fun _ _ _ h => h) (Or.inl ⟨by rfl, ?_⟩) ?_ ?_; rotate_left; intro w'; go_simp; with_reducible rfl; rotate_left; simp only [Cap.pz]; rfl
  refine pure_ (i := 2) (N := some 10) (v := ?_) (a' := ?_) #[true, true, true, false, false, false, false, false, false, false, false, false, false, false, false] rfl rfl (by kernel_rfl) (fun _ _ _ h => h) (Or.inl ⟨by rfl, ?_⟩) ?_ ?_; rotate_left; intro w'; go_simp; with_reducible rfl; rotate_left; simp only [Cap.pz]; rfl
  refine take_ (i := 3) (N := some 11) (v := ?_) (a' := ?_) #[true, true, true, true, false, false, false, false, false, false, false, false, false, false, false] rfl rfl (by kernel_rfl) (fun _ _ _ h => h) (Or.inl ⟨by rfl, ?_⟩) hHeld ?_ ?_; rotate_left; rintro w' ⟨s0, s1⟩; go_simp; with_reducible rfl; rotate_left; simp only [Cap.pz]; rfl
  refine pure_ (i := 4) (N := some 12) (v := ?_) (a' := ?_) #[true, true, true, true, true, false, false, false, false, false, false, false, false, false, false] rfl rfl (by kernel_rfl) (fun _ _ _ h => h) (Or.inl ⟨by rfl, ?_⟩) ?_ ?_; rotate_left; intro w'; go_simp; with_reducible rfl; rotate_left; simp only [Cap.pz]; rfl
  refine pure_ (i := 5) (N := some 13) (v := ?_) (a' := ?_) #[true, true, true, true, true, true, false, false, false, false, false, false, false, false, false] rfl rfl (by kernel_rfl) (fun _ _ _ h => h) (Or.inl ⟨by rfl, ?_⟩) ?_ ?_; rotate_left; intro w'; go_simp; with_reducible rfl; rotate_left; simp only [Cap.pz]; rfl
  refine pure_ (i := 6) (N := some 14) (v := ?_) (a' := ?_) #[true, true, true, true, true, true, true, false, false, false, false, false, false, false, false] rfl rfl (by kernel_rfl) (fun _ _ _ h => h) (Or.inl ⟨by rfl, ?_⟩) ?_ ?_; rotate_left; intro w'; go_simp; with_reducible rfl; rotate_left; simp only [Cap.pz]; rfl
  refine pure_ (i := 7) (N := some 15) (v := ?_) (a' := ?_) #[true, true, true, true, true, true, true, true, false, false, false, false, false, false, false] rfl rfl (by kernel_rfl) (fun _ _ _ h => h) (Or.inl ⟨by rfl, ?_⟩) ?_ ?_; rotate_left; intro w'; go_simp; with_reducible rfl; rotate_left; simp only [Cap.pz]; rfl
  refine take_ (i := 8) (N := some 16) (v := ?_) (a' := ?_) #[true, true, true, true, true, true, true, true, true, false, false, false, false, false, false] rfl rfl (by kernel_rfl) (fun _ _ _ h => h) (Or.inl ⟨by rfl, ?_⟩) hHeld ?_ ?_; rotate_left; rintro w' ⟨s0, s1⟩; go_simp; with_reducible rfl; rotate_left; simp only [Cap.pz]; rfl
  refine pure_ (i := 9) (N := some 17) (v := ?_) (a' := ?_) #[true, true, true, true, true, true, true, true, true, true, false, false, false, false, false] rfl rfl (by kernel_rfl) (fun _ _ _ h => h) (Or.inl ⟨by rfl, ?_⟩) ?_ ?_; rotate_left; intro w'; go_simp; with_reducible rfl; rotate_left; simp only [Cap.pz]; rfl
  refine take_ (i := 10) (N := some 18) (v := ?_) (a' := ?_) #[true, true, true, true, true, true, true, true, true, true, true, false, false, false, false] rfl rfl (by kernel_rfl) (fun _ _ _ h => h) (Or.inl ⟨by rfl, ?_⟩) hHeld ?_ ?_; rotate_left; rintro w' ⟨s0, s1⟩; go_simp; with_reducible rfl; rotate_left; simp only [Cap.pz]; rfl
  refine pure_ (i := 11) (N := some 19) (v := ?_) (a' := ?_) #[true, true, true, true, true, true, true, true, true, true, true, true, false, false, false] rfl rfl (by kernel_rfl) (fun _ _ _ h => h) (Or.inl ⟨by rfl, ?_⟩) ?_ ?_; rotate_left; intro w'; go_simp; with_reducible rfl; rotate_left; simp only [Cap.pz]; rfl
  refine pure_ (i := 12) (N := some 20) (v := ?_) (a' := ?_) #[true, true, true, true, true, true, true, true, true, true, true, true, true, false, false] rfl rfl (by kernel_rfl) (fun _ _ _ h => h) (Or.inl ⟨by rfl, ?_⟩) ?_ ?_; rotate_left; intro w'; go_simp; with_reducible rfl; rotate_left; simp only [Cap.pz]; rfl
  refine one_ (i := 13) (N := some 3) #[true, true, true, true, true, true, true, true, true, true, true, true, true, true, false] rfl rfl (by kernel_rfl) (by decide) (fun Kq hK => ?_)
  refine value_ (w1 := ?_) (v := ?_) (by rfl) rfl ?_ ?_
  rotate_left 2
  · go_simp
    constructor
    · rfl
    · rfl
  refine hK.out _ _ ⟨pw_cell_below (below_alloc HB.out _) HGD.out, pw_cell_below (below_alloc HB.out _) HG0.out⟩ (fun hHeld => ?_)
  clear hK Kq
  refine norm_ (a' := ?_) ?_ ?_; rotate_left; show Act.put _ (some 3) _ = _; simp only [Cap.pz]; rfl
  refine last_ (i := 14) (N := none) #[true, true, true, true, true, true, true, true, true, true, true, true, true, true, true] rfl rfl (by kernel_rfl) (by decide) (fun Kq hK => ?_)
  have hB2_ := below_alloc HB.out (.cells #[.int .i64 0, .int .i64 0, .slice none 0 0] 34 (0, 0))
  have hn_ := blk_new w7 (.cells #[.int .i64 0, .int .i64 0, .slice none 0 0] 34 (0, 0))
  have hsz_ := below_size HB.out
  refine skip_ (w1 := (w7.alloc (.cells #[.int .i64 0, .int .i64 0, .slice none 0 0] 34 (0, 0))).setRow w7.heap.size #[.int .i64 (r : Int), .int .i64 (c : Int), .slice none 0 0]) (by rfl) rfl (grid_put 34 (.tmp 3) (.tmp 20) rfl w7.heap.size _ _ rfl rfl hn_ (by kernel_rfl) rfl (by simp [Value.oneCell'])) ?_
  refine hK.out _ _ ?_
  clear hK Kq
  refine done_ (by kernel_rfl) ?_
  have n0_ : Aside0 (((w7.alloc (.cells #[.int .i64 0, .int .i64 0, .slice none 0 0] 34 (0, 0))).setRow w7.heap.size #[.int .i64 (r : Int), .int .i64 (c : Int), .slice none 0 0]).heap[w7.heap.size]? = some (.cells #[.int .i64 (r : Int), .int .i64 (c : Int), .slice none 0 0] 34 (0, 0))) := ⟨setRow_heap _ _ _ _ 34 (0, 0) hn_⟩
  have n1_ : Aside0 (Below w.heap.size w ((w7.alloc (.cells #[.int .i64 0, .int .i64 0, .slice none 0 0] 34 (0, 0))).setRow w7.heap.size #[.int .i64 (r : Int), .int .i64 (c : Int), .slice none 0 0])) := ⟨grid_row hB2_ hsz_ _⟩
  have n2_ : Aside0 (((w7.alloc (.cells #[.int .i64 0, .int .i64 0, .slice none 0 0] 34 (0, 0))).setRow w7.heap.size #[.int .i64 (r : Int), .int .i64 (c : Int), .slice none 0 0]).heap[g2]? = some (.cells #[.int .i64 0, .int .i64 0, .slice none 0 0] 34 (0, 0))) := ⟨(setRow_other _ _ _ _ (Nat.ne_of_lt (blk_lt BK2.out))).trans (blk_alloc BK2.out _)⟩
  have NE2 := Aside0.mk (Nat.ne_of_lt (blk_lt BK2.out))
  have GEm := Aside0.mk hsz_
  clear HB BK2 hHeld hB2_ hn_ hsz_
  generalize w7.heap.size = gm at n0_ n1_ n2_ NE2 GEm ⊢
  generalize (w7.alloc (.cells #[.int .i64 0, .int .i64 0, .slice none 0 0] 34 (0, 0))).setRow gm #[.int .i64 (r : Int), .int .i64 (c : Int), .slice none 0 0] = w8 at n0_ n1_ n2_ ⊢
  have BKm := n0_
  have HB := n1_
  have BK2 := n2_
  clear n0_ n1_ n2_
  have hgd := pw_cell_below HB.out HGD.out
  go_wp2
  clear hgd
  go_loopw [26] (fun v26 wr => ∃ (i : Nat) (vL : Value), i ≤ r ∧ v26 = .int .i64 (i : Int) ∧ Aside0 (wr.heap[gm]? = some (.cells #[.int .i64 (r : Int), .int .i64 (c : Int), vL] 34 (0, 0))) ∧ Aside0 (wr.heap[g2]? = some (.cells #[.int .i64 0, .int .i64 0, .slice none 0 0] 34 (0, 0))) ∧ Aside0 ((Kd.int .i64).R 2 wr w.heap.size (fun k => k ≠ gm ∧ k ≠ g2) vL (L.take (i * c))) ∧ Aside0 (Below w.heap.size w wr)) (fun v26 _ => r - (intOf v26).toNat)
  case atStart => exact ⟨0, _, Nat.zero_le _, rfl, BKm, BK2, ⟨by rw [Nat.zero_mul, List.take_zero]; exact Kd.R_nil _ _ _ _ _⟩, HB⟩
  case round =>
    clear HB BKm BK2
    obtain ⟨i, vL, hi, rfl, BKm, BK2, HR, HB⟩ := hrel
    by_cases hlt : i < r
    · have hgr := pw_cell_below HB.out (HG.out.rows i hlt)
      obtain ⟨m1, m2⟩ := mul_lt hlt hc1
      obtain ⟨m3, m4⟩ := mul_lt (HG.out.slt i hlt) hc1
      obtain ⟨q, hq⟩ : ∃ q, i * c = q := ⟨_, rfl⟩
      obtain ⟨p, hp⟩ : ∃ p, s i * c = p := ⟨_, rfl⟩
      unfold rowV at hgr
      rw [hp] at hgr m3 m4
      rw [hq] at m1 m2 HR
      have HP := Aside0.mk hq
      have HPA := Aside0.mk hp
      have HM := Aside0.mk m2
      have HCAP := Aside0.mk (show p + c ≤ cA from Nat.le_trans m4 HG.out.cap)
      clear hp hq m1 m2 m3 m4
      go_wp2
      clear hgr
      go_loopw [32] (fun v32 wr => ∃ (j : Nat) (vL : Value), j ≤ c ∧ v32 = .int .i64 (j : Int) ∧ Aside0 (wr.heap[gm]? = some (.cells #[.int .i64 (r : Int), .int .i64 (c : Int), vL] 34 (0, 0))) ∧ Aside0 (wr.heap[g2]? = some (.cells #[.int .i64 0, .int .i64 0, .slice none 0 0] 34 (0, 0))) ∧ Aside0 ((Kd.int .i64).R 2 wr w.heap.size (fun k => k ≠ gm ∧ k ≠ g2) vL (L.take (q + j))) ∧ Aside0 (Below w.heap.size w wr)) (fun v32 _ => c - (intOf v32).toNat)
      case atStart => exact ⟨0, _, Nat.zero_le _, rfl, BKm, BK2, HR, HB⟩
      case round =>
        clear HB BKm BK2 HR
        obtain ⟨j, vL, hj, rfl, BKm, BK2, HR, HB⟩ := hrel
        by_cases hlj : j < c
        · have hpj : q + j < r * c := by have := HM.out; omega
          have hce := pw_cell_below HB.out (HG.out.cell i j hlt hlj)
          rw [HPA.out] at hce
          have HPJ := Aside0.mk (show q + j < L.length by rw [HLEN.out]; exact hpj)
          have hxb : 0 ≤ rd L ((q + j : Nat) : Int) ∧ rd L ((q + j : Nat) : Int) < 256 := by rw [← HP.out, HRD.out i j hlt hlj]; have := HG.out.byte i j hlt hlj; omega
          have hxe := HRD.out i j hlt hlj
          rw [HP.out] at hxe
          rw [← hxe] at hce
          obtain ⟨x, hx⟩ : ∃ x, rd L ((q + j : Nat) : Int) = x := ⟨_, rfl⟩
          rw [hx] at hce hxb
          clear hxe
          have HX := Aside0.mk hx
          have hid := i64_id2 hxb.1 hxb.2
          have hcz := (blk_cell BKm.out 2).trans rfl
          have HTL := Aside0.mk (show ((L.take (q + j)).length + 1) * 8 ≤ 140737488355328 by rw [List.length_take]; have := HRC.out; omega)
          have hmz : wr.cell? ⟨gm, 2, none⟩ = some vL := (blk_cell BKm.out 2).trans rfl
          clear hx hpj hcz
          go_wp2_with ((with_reducible refine gate_dst (N := 41) rfl ?_); refine Kd.R_append (Kd.int .i64) (w0 := w) w.heap.size rfl (.tmp 37) (.tmp 40) 24 2 (.int .i64 0) 8 rfl Try.underlying24 (by kernel_rfl) rfl (by decide) (by omega) vL (L.take (q + j)) x [.int .i64 x] (fun k => k ≠ gm ∧ k ≠ g2) (fun _ => False) rfl rfl rfl (fun _ hk => hk.elim) (fun k hk => (by have h1 := blk_lt BKm.out; have h2 := blk_lt BK2.out; omega)) HR.out HB.out (below_size HB.out) (by have := HTL.out; omega) ?_; intro vL2 w8 ho hb hg hat; have nM_ : some gm ≠ vL.ownBlock := (fun e => (HR.out.1 gm e.symm).1 rfl); have n2_ : some g2 ≠ vL.ownBlock := (fun e => (HR.out.1 g2 e.symm).2 rfl); rw [← HX.out, take_rd L (q + j) HPJ.out] at ho; have n0_ : Aside0 (w8.heap[gm]? = some (.cells #[.int .i64 (r : Int), .int .i64 (c : Int), vL] 34 (0, 0))) := ⟨blk_grown BKm.out hg nM_⟩; have n1_ : Aside0 (w8.heap[g2]? = some (.cells #[.int .i64 0, .int .i64 0, .slice none 0 0] 34 (0, 0))) := ⟨blk_grown BK2.out hg n2_⟩; have n2_ : Aside0 (((Kd.int .i64).R 2 w8 w.heap.size (fun k => k ≠ gm ∧ k ≠ g2) vL2 (L.take (q + j + 1)))) := ⟨ho⟩; have n3_ : Aside0 (Below w.heap.size w w8) := ⟨hb⟩; clear BKm BK2 HR HB; have BKm := n0_; have BK2 := n1_; have HR := n2_; have HB := n3_; clear n0_ n1_ n2_ n3_; clear ho hb hg hat nM_ n2_; obtain ⟨AL2, cL2, eL2⟩ := Kd.R_slice HR.out; have hlen_ : (L.take (q + j + 1)).length = q + j + 1 := (by rw [List.length_take]; have := HPJ.out; omega); rw [hlen_] at eL2; clear hlen_; subst eL2; have hcm : w8.cell? ⟨gm, 2, none⟩ = some vL := (blk_cell BKm.out 2).trans rfl; have hfm := blk_frozen BKm.out 2)
          clear hcm hfm
          go_roundw
          case rel => exact ⟨j + 1, _, by omega, by go_num, ⟨blk_put BKm.out 2 _ rfl⟩, ⟨blk_far BK2.out NE2.out _⟩, ⟨Kd.R_step HR.out (fun k ho _ => Below.heap_setCell _ _ _ k ho.1)⟩, ⟨below_set HB.out GEm.out⟩⟩
          case measure => simp [intOf]; omega
        · have ej : j = c := by omega
          go_wp2
          go_roundw
          case rel => exact ⟨i + 1, _, by omega, by go_num, BKm, BK2, ⟨by have h := HR.out; rw [ej, ← HP.out, ← Nat.succ_mul] at h; exact h⟩, HB⟩
          case measure => simp [intOf]; omega
    · have ei : i = r := by omega
      have hL := HR.out
      rw [ei, ← HLEN.out, List.take_length] at hL
      obtain ⟨AL, cL, eL⟩ := Kd.R_slice hL
      subst eL
      have HL := Aside0.mk hL
      clear hL HR
      have hm0 : wr.cell? ⟨gm, 0, none⟩ = some (.int .i64 (r : Int)) := (blk_cell BKm.out 0).trans rfl
      have hm1 : wr.cell? ⟨gm, 1, none⟩ = some (.int .i64 (c : Int)) := (blk_cell BKm.out 1).trans rfl
      have hm2 : wr.cell? ⟨gm, 2, none⟩ = some (.slice AL L.length cL) := (blk_cell BKm.out 2).trans rfl
      have h20 : wr.cell? ⟨g2, 0, none⟩ = some (.int .i64 0) := (blk_cell BK2.out 0).trans rfl
      have h21 : wr.cell? ⟨g2, 1, none⟩ = some (.int .i64 0) := (blk_cell BK2.out 1).trans rfl
      have h22 : wr.cell? ⟨g2, 2, none⟩ = some (.slice none 0 0) := (blk_cell BK2.out 2).trans rfl
      have f20 := blk_frozen BK2.out 0
      have f21 := blk_frozen BK2.out 1
      have f22 := blk_frozen BK2.out 2
      go_wp2
      refine bodyPost_ret (results_cell_row rfl _ _ g2 34 #[.int .i64 (r : Int), .int .i64 (c : Int), .slice AL L.length cL] (0, 0) _ rfl (by refine blk_put (cs := #[.int .i64 (r : Int), .int .i64 (c : Int), .slice none 0 0]) ?_ 2 _ rfl; refine blk_put (cs := #[.int .i64 (r : Int), .int .i64 0, .slice none 0 0]) ?_ 1 _ rfl; refine blk_put (cs := #[.int .i64 0, .int .i64 0, .slice none 0 0]) ?_ 0 _ rfl; exact BK2.out) Try.underlying34 rfl (by kernel_rfl)) rfl ?_
      exact ⟨_, rfl, Kd.R_mono (Kd.R_step (Kd.R_step (Kd.R_step HL.out (fun k ho _ => Below.heap_setCell _ _ _ k ho.2)) (fun k ho _ => Below.heap_setCell _ _ _ k ho.2)) (fun k ho _ => Below.heap_setCell _ _ _ k ho.2)) (fun _ _ => trivial), below_set (below_set (below_set HB.out GE2.out) GE2.out) GE2.out⟩
theorem sq_eq (n : Int) (w : World) : (Op.equalIn 10000 137 (.agg #[.int .i64 n, .int .i64 n]) (.agg #[.int .i64 n, .int .i64 n])).run Try.prog w = .ok true w := by
  obtain ⟨i, hi⟩ : ∃ i, Try.prog.info? 2 = some i := by rw [← Option.isSome_iff_exists]; kernel_rfl
  have hc : Try.prog.cellsOf 2 = 1 := by kernel_rfl
  have p0 : ∀ w : World, (part 2 #[.int .i64 n, .int .i64 n] (0 * 1)).run Try.prog w = .ok (.int .i64 n) w := fun _ => by kernel_rfl
  have p1 : ∀ w : World, (part 2 #[.int .i64 n, .int .i64 n] (1 * 1)).run Try.prog w = .ok (.int .i64 n) w := fun _ => by kernel_rfl
  refine (run_equalIn_array (P := Try.prog) w 9999 #[.int .i64 n, .int .i64 n] #[.int .i64 n, .int .i64 n] (t := 137) (e := 2) (n := 2) (i := i) (by kernel_rfl) hi).trans ?_
  rw [hc]
  have e2 : ∀ w : World, (Op.equalIn 9999 2 (.int .i64 n) (.int .i64 n)).run Try.prog w = .ok (n == n) w := fun w => run_equalIn_int w 9998 2 .i64 .i64 n n Try.underlying2
  rw [show List.range 2 = [0, 1] from rfl]
  simp only [Op.eqItems, Sem.run_bind, p0, p1, e2, Result.andThen_ok, beq_self_eq_true, Bool.not_true, Bool.false_eq_true, if_false, Sem.run_pure]
/-- The unit matrix, up to a row. -/
def idT (n : Nat) : Nat → List Int
  | 0 => List.replicate (n * n) 0
  | i + 1 => (idT n i).set (i * n + i) 1
theorem idT_byte (n : Nat) : ∀ i, ∀ x ∈ idT n i, 0 ≤ x ∧ x < 256
  | 0, x, hx => by
    have := List.eq_of_mem_replicate hx
    omega
  | i + 1, x, hx => by
    rcases List.mem_or_eq_of_mem_set hx with h | h
    · exact idT_byte n i x h
    · omega
/-- The program's MatInv of a square matrix of full rank. -/
def impl_MatInv.f (k : Nat) (a0_0 : Int) (a0_1 : Int) (l0_2 : List Int) : Option (Int × Int × Int × (List Int)) := (impl_MatrixFault.f k a0_0 a0_1 l0_2).bind fun t => (if t = 0 ∧ a0_0 = a0_1 ∧ MxOk a0_0 a0_1 l0_2 ∧ (redGo (mxOf a0_1.toNat l0_2) a0_0.toNat a0_1.toNat a0_1.toNat).2 = a0_0.toNat then (some (0, a0_0, a0_0, gridL (redO (mxOf a0_1.toNat l0_2) (mxOf a0_1.toNat (idT a0_1.toNat a0_1.toNat)) a0_1.toNat a0_1.toNat a0_1.toNat a0_1.toNat) a0_1.toNat a0_1.toNat)) else (none))
theorem impl_MatInv.mono : ∀ a0 a1 a2 k, LeO (impl_MatInv.f k a0 a1 a2) (impl_MatInv.f (k + 1) a0 a1 a2) := by
  intro a0 a1 a2 k
  unfold impl_MatInv.f
  exact LeO.bind (impl_MatrixFault.mono _ _ _ _) (fun _ => LeO.refl _)
set_option maxHeartbeats 8000000 in
set_option maxRecDepth 100000 in
theorem impl_MatInv.callsN (k n : Nat) (A0_2 : Option Addr) (c0_2 : Nat) (l0_2 : List Int) (hn1 : 1 ≤ n) (hn : n ≤ 64) (hl : l0_2.length = n * n) (hv : ∀ x ∈ l0_2, 0 ≤ x ∧ x < 256) (w : World) (hr0_2 : Kd.C (Kd.int .i64) w A0_2 l0_2.length l0_2) (hc0_2 : l0_2.length ≤ c0_2) (h : impl_MatrixFault.f k n n l0_2 = some 0) (hrk : (redGo (mxOf n l0_2) n n n).2 = n) :
    Calls Try.prog 61 #[.agg #[.int .i64 (n : Int), .int .i64 (n : Int), .slice A0_2 l0_2.length c0_2]] w fun e w' => ∃ v3_ : Value, e = .returned (.agg #[.int .i64 0, .int .i64 (n : Int), .int .i64 (n : Int), v3_]) ∧ Kd.R (Kd.int .i64) 2 w' w.heap.size (fun _ => True) v3_ (gridL (redO (mxOf n l0_2) (mxOf n (idT n n)) n n n n) n n) ∧ Below w.heap.size w w' := by
  have HL := Aside0.mk hl
  have HV := Aside0.mk hv
  have HR := Aside0.mk hr0_2
  have HF := Aside0.mk h
  have HRK := Aside0.mk hrk
  clear hl hv hr0_2 h hrk
  go_enter Try.func61, Try.ntmps61
  have hsq := fun W => sq_eq (n : Int) W
  go_wp2_with (first | (go_at_call 74; (with_reducible refine (impl_MatrixFault.calls k n n A0_2 c0_2 l0_2 0 _ (Kd.C_below HR.out (below_alloc (below_alloc (below_alloc (Below.refl _ w) _) _) _)) hc0_2 HF.out).mono ?_); rintro e w7 ⟨rfl, hb_⟩; have BQ_ := blk_new w (.cells #[.int .i64 (n : Int), .int .i64 (n : Int), .slice A0_2 l0_2.length c0_2] 34); have BQ2_ := blk_new (w.alloc (.cells #[.int .i64 (n : Int), .int .i64 (n : Int), .slice A0_2 l0_2.length c0_2] 34)) (.cells #[.int .i64 0, .int .i64 0, .int .i64 0, .slice none 0 0] 36); have BQ3_ := blk_new ((w.alloc (.cells #[.int .i64 (n : Int), .int .i64 (n : Int), .slice A0_2 l0_2.length c0_2] 34)).alloc (.cells #[.int .i64 0, .int .i64 0, .int .i64 0, .slice none 0 0] 36)) (.cells #[.int .i64 (n : Int), .int .i64 (n : Int)] 137); rw [World.size_alloc] at BQ2_; rw [World.size_alloc, World.size_alloc] at BQ3_; have B1 := Aside0.mk (blk_below (blk_alloc (blk_alloc BQ_ _) _) hb_); have B2 := Aside0.mk (blk_below (blk_alloc BQ2_ _) hb_); have B3 := Aside0.mk (blk_below BQ3_ hb_); have HB := Aside0.mk (below_step (below_alloc (below_alloc (below_alloc (Below.refl _ w) _) _) _) hb_); clear BQ_ BQ2_ BQ3_ hb_; have z0 := (blk_cell B1.out 0).trans rfl; have z1 := (blk_cell B1.out 1).trans rfl; have z2 := (blk_cell B1.out 2).trans rfl; have y0 := (blk_cell B3.out 0).trans rfl; have y1 := (blk_cell B3.out 1).trans rfl) | (go_at_call 75; (with_reducible refine (impl_makeTables8.calls _).mono ?_); rintro e w8 ⟨gT, rfl, hgT_, hT_, hb_⟩; have HT := Aside0.mk hT_; clear z0 z1 z2 y0 y1; have n0_ : Aside0 (w8.heap[w.heap.size]? = some (.cells #[.int .i64 (n : Int), .int .i64 (n : Int), .slice A0_2 l0_2.length c0_2] 34 (0, 0))) := ⟨blk_below B1.out hb_⟩; have n1_ : Aside0 (w8.heap[w.heap.size + 1]? = some (.cells #[.int .i64 0, .int .i64 0, .int .i64 0, .slice none 0 0] 36 (0, 0))) := ⟨blk_below B2.out hb_⟩; have n2_ : Aside0 (Below w.heap.size w w8) := ⟨below_step HB.out hb_⟩; clear B1 B2 HB; have B1 := n0_; have B2 := n1_; have HB := n2_; clear n0_ n1_ n2_; clear hgT_ hT_ hb_; have z0 := (blk_cell B1.out 0).trans rfl; have z1 := (blk_cell B1.out 1).trans rfl; have z2 := (blk_cell B1.out 2).trans rfl) | (go_at_call 76; (with_reducible refine (impl_gridOf.callsN n n gT A0_2 c0_2 l0_2 hn1 hn1 hn hn HL.out HV.out _ (Kd.C_below HR.out HB.out)).mono ?_); rintro e w9 ⟨g, R, A, cA, rfl, g1_, g2_, g3_, hX_, hb_⟩; have HX := Aside0.mk (hX_.perm (World.block_lt_of_cell? _ _ hX_.fld) HV.out); have HN := Aside0.mk (show gT ≠ A ∧ gT ≠ R ∧ w.heap.size + 1 < A ∧ w.heap.size + 1 < R ∧ w.heap.size + 1 < g from by have q1 := HT.out.lt; have q2 := blk_lt B2.out; exact ⟨by omega, by omega, by omega, by omega, by omega⟩); have W8 := Aside0.mk (show w8.heap.size ≤ A ∧ w8.heap.size ≤ R from ⟨g3_, g2_⟩); have B18 := B1; have B28 := B2; have HB8 := HB; have H89 := Aside0.mk hb_; clear z0 z1 z2; have n0_ : Aside0 (w9.heap[w.heap.size]? = some (.cells #[.int .i64 (n : Int), .int .i64 (n : Int), .slice A0_2 l0_2.length c0_2] 34 (0, 0))) := ⟨blk_below B1.out hb_⟩; have n1_ : Aside0 (w9.heap[w.heap.size + 1]? = some (.cells #[.int .i64 0, .int .i64 0, .int .i64 0, .slice none 0 0] 36 (0, 0))) := ⟨blk_below B2.out hb_⟩; have n2_ : Aside0 (TabInv w9 gT 255) := ⟨HT.out.below hb_⟩; have n3_ : Aside0 (Below w.heap.size w w9) := ⟨below_step HB.out hb_⟩; clear B1 B2 HT HB; have B1 := n0_; have B2 := n1_; have HT := n2_; have HB := n3_; clear n0_ n1_ n2_ n3_; clear g1_ g2_ g3_ hX_ hb_; have z0 := (blk_cell B1.out 0).trans rfl; have z1 := (blk_cell B1.out 1).trans rfl; have z2 := (blk_cell B1.out 2).trans rfl) | (go_at_call 77; (with_reducible refine (impl_newGrid.callsN n n gT hn1 hn1 hn hn _).mono ?_); rintro e w10 ⟨gO, RO, AO, cAO, rfl, g1_, g2_, g3_, hO_, hb_⟩; have HO := Aside0.mk hO_; have HS := Aside0.mk (show (g < gO ∧ g < RO ∧ g < AO) ∧ (R < gO ∧ R < RO ∧ R < AO) ∧ (A < gO ∧ A < RO ∧ A < AO) ∧ gT < AO ∧ gT < RO from by have q1 := HT.out.lt; have q2 := HX.out.glt; have q3 := HX.out.Rlt; have q4 := HX.out.Alt; exact ⟨⟨by omega, by omega, by omega⟩, ⟨by omega, by omega, by omega⟩, ⟨by omega, by omega, by omega⟩, by omega, by omega⟩); clear z0 z1 z2; have H810 := Aside0.mk (below_step H89.out hb_); have n0_ : Aside0 (w10.heap[w.heap.size]? = some (.cells #[.int .i64 (n : Int), .int .i64 (n : Int), .slice A0_2 l0_2.length c0_2] 34 (0, 0))) := ⟨blk_below B1.out hb_⟩; have n1_ : Aside0 (w10.heap[w.heap.size + 1]? = some (.cells #[.int .i64 0, .int .i64 0, .int .i64 0, .slice none 0 0] 36 (0, 0))) := ⟨blk_below B2.out hb_⟩; have n2_ : Aside0 (TabInv w10 gT 255) := ⟨HT.out.below hb_⟩; have n3_ : Aside0 (GridP w10 g R A n n cA gT (fun i => i) (mxOf n l0_2)) := ⟨HX.out.below hb_⟩; have n4_ : Aside0 (Below w.heap.size w w10) := ⟨below_step HB.out hb_⟩; clear B1 B2 HT HX HB; have B1 := n0_; have B2 := n1_; have HT := n2_; have HX := n3_; have HB := n4_; clear n0_ n1_ n2_ n3_ n4_; clear g1_ g2_ g3_ hO_ hb_ H89; obtain ⟨cRO, hod⟩ := HO.out.hd))
  clear hod
  go_loopw [41] (fun v41 wr => ∃ i : Nat, i ≤ n ∧ v41 = .int .i64 (i : Int) ∧ Aside0 (GridIn wr gO RO AO n n cAO gT (idT n i)) ∧ Aside0 (GridP wr g R A n n cA gT (fun i => i) (mxOf n l0_2)) ∧ Aside0 (TabInv wr gT 255) ∧ Aside0 (wr.heap[w.heap.size]? = some (.cells #[.int .i64 (n : Int), .int .i64 (n : Int), .slice A0_2 l0_2.length c0_2] 34 (0, 0))) ∧ Aside0 (wr.heap[w.heap.size + 1]? = some (.cells #[.int .i64 0, .int .i64 0, .int .i64 0, .slice none 0 0] 36 (0, 0))) ∧ Aside0 (Below w.heap.size w wr) ∧ Aside0 (Below w8.heap.size w8 wr)) (fun v41 _ => n - (intOf v41).toNat)
  case atStart => exact ⟨0, Nat.zero_le _, rfl, HO, HX, HT, B1, B2, HB, H810⟩
  case round =>
    clear HO HX HT B1 B2 HB H810
    obtain ⟨i, hi, rfl, HO, HX, HT, B1, B2, HB, H810⟩ := hrel
    by_cases hlt : i < n
    · obtain ⟨m1, m2⟩ := mul_lt hlt hn1
      have hni : i * n + i < n * n := by omega
      obtain ⟨cR2, hod⟩ := HO.out.hd
      have hor := HO.out.rows i hlt
      have hoc := HO.out.cell (i * n + i) hni
      have hof := HO.out.free (i * n + i) hni
      obtain ⟨p, hp⟩ : ∃ p, i * n = p := ⟨_, rfl⟩
      unfold rowV at hor
      rw [hp] at hor hoc hof hni
      obtain ⟨x, hx⟩ : ∃ x, rd (idT n i) ((p + i : Nat) : Int) = x := ⟨_, rfl⟩
      rw [hx] at hoc
      have HP := Aside0.mk hp
      have HNI := Aside0.mk hni
      clear hp hx m1 m2 hni
      go_wp2
      go_roundw
      case rel => exact ⟨i + 1, by omega, by go_num, ⟨by have h := HO.out.put (p + i) HNI.out 1; rw [idT, HP.out]; exact h⟩, ⟨HX.out.far (p := ⟨AO, p + i, none⟩) (by have := HS.out; show g ≠ AO; omega) (by have := HS.out; show R ≠ AO; omega) (by have := HS.out; show A ≠ AO; omega) _⟩, ⟨HT.out.block (Below.heap_setCell _ _ _ gT (by have := HS.out; show gT ≠ AO; omega))⟩, ⟨blk_far B1.out (by have h1 := HS.out; have h2 := HN.out; show w.heap.size ≠ AO; omega) _⟩, ⟨blk_far B2.out (by have h1 := HS.out; have h2 := HN.out; show w.heap.size + 1 ≠ AO; omega) _⟩, ⟨below_set HB.out (by have h1 := HS.out; have h2 := HN.out; omega)⟩, ⟨below_set H810.out (by have h1 := HS.out; have h2 := W8.out; omega)⟩⟩
      case measure => simp [intOf]; omega
    · obtain rfl : i = n := by omega
      go_wp2
      have n0_ : Aside0 (wr.drew.heap[w.heap.size]? = some (.cells #[.int .i64 (i : Int), .int .i64 (i : Int), .slice A0_2 l0_2.length c0_2] 34 (0, 0))) := ⟨blk_drew B1.out⟩
      have n1_ : Aside0 (wr.drew.heap[w.heap.size + 1]? = some (.cells #[.int .i64 0, .int .i64 0, .int .i64 0, .slice none 0 0] 36 (0, 0))) := ⟨blk_drew B2.out⟩
      have n2_ : Aside0 (GridP wr.drew gO RO AO i i cAO gT (fun i => i) (mxOf i (idT i i))) := ⟨(HO.out.perm (World.block_lt_of_cell? _ _ HO.out.fld) (idT_byte i i)).below (Drawn0.below (w' := wr.drewN 1) ⟨⟨1, rfl⟩⟩)⟩
      have n3_ : Aside0 (GridP wr.drew g R A i i cA gT (fun i => i) (mxOf i l0_2)) := ⟨HX.out.below (Drawn0.below (w' := wr.drewN 1) ⟨⟨1, rfl⟩⟩)⟩
      have n4_ : Aside0 (TabInv wr.drew gT 255) := ⟨HT.out.block rfl⟩
      have n5_ : Aside0 (Below w.heap.size w wr.drew) := ⟨below_drew1 HB.out⟩
      have n6_ : Aside0 (Below w8.heap.size w8 wr.drew) := ⟨below_drew1 H810.out⟩
      clear B1 B2 HO HX HT HB H810
      have B1 := n0_
      have B2 := n1_
      have HO := n2_
      have HX := n3_
      have HT := n4_
      have HB := n5_
      have H810 := n6_
      clear n0_ n1_ n2_ n3_ n4_ n5_ n6_
      refine start_ (n := 8) (S := fun w' => w'.cell? ⟨w.heap.size, 0, none⟩ = some (.int .i64 (i : Int)) ∧ w'.cell? ⟨w.heap.size, 1, none⟩ = some (.int .i64 (i : Int))) (ds := []) #[false, false, false, false, false, false, false, false] (by kernel_rfl) rfl rfl ⟨(blk_cell B1.out 0).trans rfl, (blk_cell B1.out 1).trans rfl⟩ (fun hHeld => ?_)
      generalize wr.drew = w12 at B1 B2 HO HX HT HB H810 hHeld ⊢
      refine pure_ (i := 0) (N := some 54) (v := ?_) (a' := ?_) #[true, false, false, false, false, false, false, false] rfl rfl (by kernel_rfl) (fun _ _ _ h => h) (Or.inl ⟨by rfl, ?_⟩) ?_ ?_; rotate_left; intro w'; go_simp; with_reducible rfl; rotate_left; simp only [Cap.pz]; rfl
      refine pure_ (i := 1) (N := some 55) (v := ?_) (a' := ?_) #[true, true, false, false, false, false, false, false] rfl rfl (by kernel_rfl) (fun _ _ _ h => h) (Or.inl ⟨by rfl, ?_⟩) ?_ ?_; rotate_left; intro w'; go_simp; with_reducible rfl; rotate_left; simp only [Cap.pz]; rfl
      refine take_ (i := 2) (N := some 56) (v := ?_) (a' := ?_) #[true, true, true, false, false, false, false, false] rfl rfl (by kernel_rfl) (fun _ _ _ h => h) (Or.inl ⟨by rfl, ?_⟩) hHeld ?_ ?_; rotate_left; rintro w' ⟨s0, s1⟩; go_simp; with_reducible rfl; rotate_left; simp only [Cap.pz]; rfl
      refine pure_ (i := 3) (N := some 57) (v := ?_) (a' := ?_) #[true, true, true, true, false, false, false, false] rfl rfl (by kernel_rfl) (fun _ _ _ h => h) (Or.inl ⟨by rfl, ?_⟩) ?_ ?_; rotate_left; intro w'; go_simp; with_reducible rfl; rotate_left; simp only [Cap.pz]; rfl
      refine pure_ (i := 5) (N := some 59) (v := ?_) (a' := ?_) #[true, true, true, true, false, true, false, false] rfl rfl (by kernel_rfl) (fun _ _ _ h => h) (Or.inl ⟨by rfl, ?_⟩) ?_ ?_; rotate_left; intro w'; go_simp; with_reducible rfl; rotate_left; simp only [Cap.pz]; rfl
      refine take_ (i := 6) (N := some 60) (v := ?_) (a' := ?_) #[true, true, true, true, false, true, true, false] rfl rfl (by kernel_rfl) (fun _ _ _ h => h) (Or.inl ⟨by rfl, ?_⟩) hHeld ?_ ?_; rotate_left; rintro w' ⟨s0, s1⟩; go_simp; with_reducible rfl; rotate_left; simp only [Cap.pz]; rfl
      refine one_ (i := 4) (N := some 58) #[true, true, true, true, true, true, true, false] rfl rfl (by kernel_rfl) (by decide) (fun Kq hK => ?_)
      refine goes_ Try.func107 (by kernel_rfl) rfl #[.pointer (some ⟨g, 0, none⟩), .int .i64 (i : Int), .pointer (some ⟨gO, 0, none⟩)] (by rfl) rfl rfl (by simp only [List.map_toArray, List.map_cons, List.map_nil]; rfl) ?_
      have h1_ := HS.out
      have h2_ := HN.out
      have h3_ := W8.out
      with_reducible refine (impl_grid_reduce.callsO g R A i i cA gT _ _ i (Nat.le_refl _) hn1 hn1 hn hn w8 w12 HX.out HT.out h2_.1 h2_.2.1 h3_.1 h3_.2 H810.out gO RO AO i cAO _ _ hn1 hn HO.out (by omega) (by omega) (by omega) (by omega) (by omega) (by omega) (by omega) (by omega) (by omega) (by omega) (by omega) (by omega)).mono ?_
      rintro e w13 ⟨he_, ⟨s2, hO2_⟩, hb_⟩
      rw [HRK.out] at he_
      subst he_
      refine ⟨_, rfl, ?_⟩
      have HO2 := Aside0.mk hO2_
      have n0_ : Aside0 (w13.heap[w.heap.size]? = some (.cells #[.int .i64 (i : Int), .int .i64 (i : Int), .slice A0_2 l0_2.length c0_2] 34 (0, 0))) := ⟨blk_below B18.out hb_⟩
      have n1_ : Aside0 (w13.heap[w.heap.size + 1]? = some (.cells #[.int .i64 0, .int .i64 0, .int .i64 0, .slice none 0 0] 36 (0, 0))) := ⟨blk_below B28.out hb_⟩
      have n2_ : Aside0 (Below w.heap.size w w13) := ⟨below_step HB8.out hb_⟩
      clear B1 B2 HB
      have B1 := n0_
      have B2 := n1_
      have HB := n2_
      clear n0_ n1_ n2_
      clear hb_ hO2_ h1_ h2_ h3_
      refine hK.out _ _ ⟨(blk_cell B1.out 0).trans rfl, (blk_cell B1.out 1).trans rfl⟩ (fun hHeld => ?_)
      clear hK Kq
      refine norm_ (a' := ?_) ?_ ?_; rotate_left; show Act.put _ (some 58) _ = _; simp only [Cap.pz]; rfl
      refine pure_ (i := 7) (N := some 61) (v := ?_) (a' := ?_) #[true, true, true, true, true, true, true, true] rfl rfl (by kernel_rfl) (fun _ _ _ h => h) (Or.inl ⟨by rfl, ?_⟩) ?_ ?_; rotate_left; intro w'; go_simp; with_reducible rfl; rotate_left; simp only [Cap.pz]; rfl
      refine done_ (by kernel_rfl) ?_
      clear hHeld
      have hnn : decide ((i : Int) < (i : Int)) = false := decide_eq_false (by omega)
      have HOP2 := HO2
      go_wp2_with (go_at_call 79; (with_reducible refine (impl_grid_matrix.callsP gO RO AO i i cAO gT s2 _ hn1 hn1 hn hn _ HOP2.out).mono ?_); rintro e w15 ⟨vm, rfl, ho_, hb_⟩; have BKr := Aside0.mk (blk_below B2.out hb_); have HOm := Aside0.mk (Kd.R_lower ho_ HB.out.size); have HZ := Aside0.mk (below_step HB.out hb_); clear ho_ hb_; obtain ⟨Am, cm, em⟩ := Kd.R_slice HOm.out; subst em; have hz0 : w15.cell? ⟨w.heap.size + 1, 0, none⟩ = some (.int .i64 0) := (blk_cell BKr.out 0).trans rfl; have hz1 : w15.cell? ⟨w.heap.size + 1, 1, none⟩ = some (.int .i64 0) := (blk_cell BKr.out 1).trans rfl; have hz2 : w15.cell? ⟨w.heap.size + 1, 2, none⟩ = some (.int .i64 0) := (blk_cell BKr.out 2).trans rfl; have hz3 : w15.cell? ⟨w.heap.size + 1, 3, none⟩ = some (.slice none 0 0) := (blk_cell BKr.out 3).trans rfl; have hf0 := blk_frozen BKr.out 0; have hf1 := blk_frozen BKr.out 1; have hf2 := blk_frozen BKr.out 2; have hf3 := blk_frozen BKr.out 3)
      refine bodyPost_ret (results_cell_row rfl _ _ (w.heap.size + 1) 36 #[.int .i64 0, .int .i64 (i : Int), .int .i64 (i : Int), .slice Am _ cm] (0, 0) _ rfl (by refine blk_put (cs := #[.int .i64 0, .int .i64 (i : Int), .int .i64 (i : Int), .slice none 0 0]) ?_ 3 _ rfl; refine blk_put (cs := #[.int .i64 0, .int .i64 (i : Int), .int .i64 0, .slice none 0 0]) ?_ 2 _ rfl; refine blk_put (cs := #[.int .i64 0, .int .i64 0, .int .i64 0, .slice none 0 0]) ?_ 1 _ rfl; refine blk_put (cs := #[.int .i64 0, .int .i64 0, .int .i64 0, .slice none 0 0]) ?_ 0 _ rfl; exact BKr.out) Try.underlying36 rfl (by kernel_rfl)) rfl ?_
      exact ⟨_, rfl, Kd.R_mono (Kd.R_far (p := ⟨w.heap.size + 1, 3, none⟩) (Kd.R_far (p := ⟨w.heap.size + 1, 2, none⟩) (Kd.R_far (p := ⟨w.heap.size + 1, 1, none⟩) (Kd.R_far (p := ⟨w.heap.size + 1, 0, none⟩) (Kd.R_types HOm.out BKr.out (by decide)) (fun _ hk => hk.2) _) (fun _ hk => hk.2) _) (fun _ hk => hk.2) _) (fun _ hk => hk.2) _) (fun _ _ => trivial), below_set (below_set (below_set (below_set HZ.out (by omega)) (by omega)) (by omega)) (by omega)⟩

theorem impl_MatInv.calls (k : Nat) (a0_0 : Int) (a0_1 : Int) (A0_2 : Option Addr) (c0_2 : Nat) (l0_2 : List Int) (r1 : Int) (r2 : Int) (r3 : Int) (r4 : List Int) (w : World) (hr0_2 : Kd.C (Kd.int .i64) w A0_2 l0_2.length l0_2) (hc0_2 : l0_2.length ≤ c0_2) (h : impl_MatInv.f k a0_0 a0_1 l0_2 = some (r1, r2, r3, r4)) :
    Calls Try.prog 61 #[.agg #[.int .i64 a0_0, .int .i64 a0_1, .slice A0_2 l0_2.length c0_2]] w fun e w' => ∃ v3_ : Value, e = .returned (.agg #[.int .i64 r1, .int .i64 r2, .int .i64 r3, v3_]) ∧ Kd.R (Kd.int .i64) 2 w' w.heap.size (fun _ => True) v3_ r4 ∧ Below w.heap.size w w' := by
  obtain ⟨t, h1, h2⟩ := Option.bind_eq_some_iff.mp h
  by_cases hc : t = 0 ∧ a0_0 = a0_1 ∧ MxOk a0_0 a0_1 l0_2 ∧ (redGo (mxOf a0_1.toNat l0_2) a0_0.toNat a0_1.toNat a0_1.toNat).2 = a0_0.toNat
  · rw [if_pos hc] at h2
    obtain ⟨rfl, rfl, hm, hrk⟩ := hc
    obtain ⟨m1, m2, m3, m4, m5, m6⟩ := hm
    obtain ⟨p, rfl⟩ := Int.eq_ofNat_of_zero_le (show 0 ≤ a0_0 by omega)
    simp only [Option.some.injEq, Prod.mk.injEq] at h2
    obtain ⟨rfl, rfl, rfl, rfl⟩ := h2
    exact impl_MatInv.callsN k p A0_2 c0_2 l0_2 (by omega) (by omega) (by exact_mod_cast m5) m6 w hr0_2 hc0_2 h1 hrk
  · rw [if_neg hc] at h2
    cases h2

end Go.Proofs.Ytcpmlelejlmpdaa.QFnCauchy
