-- A text of this session, printed by a program of its own (wip/tools: xpatch.py, xprint.sh, mkq.py). No condition.
import Derived.Test.YtcpmlelejlmpdaaQFnExactCodeRowx0
import Derived.Test.YtcpmlelejlmpdaaQFnExactCodeRowx2
import Derived.Test.YtcpmlelejlmpdaaQFnExactCodeRowx3
namespace Go.Proofs.Ytcpmlelejlmpdaa.QFnExactCodeRow
open Go.RowKit Go.Proofs.YtcpmlelejlmpdaaW.PrintWords Go.Proofs.YtcpmlelejlmpdaaW.PrintLast Go.Proofs.YtcpmlelejlmpdaaW.PrintMore
attribute [local go_sem] max2_int min2_int max_two min_two max_three min_three max_four min_four   -- for this text's walks alone
set_option linter.unusedVariables false
set_option linter.unusedSimpArgs false

/-! ### impl_plant_row: function 67 -/
/-- By which factors a shard is made. -/
def rowC (K M G i j : Nat) : Int := if i < K then (if j = i then 1 else 0) else if i < K + M then ((tabInv (xr i j) : Nat) : Int) else if j % G = i - K - M then 1 else 0
def rowL (K M G i : Nat) : List Int := (List.range K).map (rowC K M G i)
theorem rowL_len (K M G i : Nat) : (rowL K M G i).length = K := by unfold rowL; simp
theorem rowL_get (K M G i j : Nat) (h : j < K) : (rowL K M G i)[j]? = some (rowC K M G i j) := by unfold rowL; rw [List.getElem?_map, List.getElem?_range h]; rfl
theorem row_ext {K : Nat} {l l' : List Int} (h : l.length = K) (h' : l'.length = K) (e : ∀ j, j < K → l[j]? = l'[j]?) : l = l' := by
  apply List.ext_getElem?
  intro t
  by_cases ht : t < K
  · exact e t ht
  · rw [List.getElem?_eq_none (by omega), List.getElem?_eq_none (by omega)]
theorem row_one (K M G i : Nat) (h : i < K) : (List.replicate K (0 : Int)).set i 1 = rowL K M G i := by
  refine row_ext (K := K) (by simp) (rowL_len _ _ _ _) (fun t ht => ?_)
  rw [rowL_get _ _ _ _ _ ht, List.getElem?_set, List.length_replicate]
  unfold rowC
  simp only [if_pos h]
  by_cases e : i = t
  · subst e
    rw [if_pos rfl, if_pos rfl]
  · rw [if_neg e, List.getElem?_replicate, if_pos ht, if_neg (fun x => e x.symm)]
/-- The ones of a group, up to a place. -/
def rowG (K G l n : Nat) : List Int := (List.range K).map fun j => if j < n ∧ j % G = l then 1 else 0
theorem rowG_len (K G l n : Nat) : (rowG K G l n).length = K := by unfold rowG; simp
theorem rowG_get (K G l n j : Nat) (h : j < K) : (rowG K G l n)[j]? = some (if j < n ∧ j % G = l then 1 else 0) := by unfold rowG; rw [List.getElem?_map, List.getElem?_range h]; rfl
theorem rowG_zero (K G l : Nat) : List.replicate K (0 : Int) = rowG K G l l := by
  refine row_ext (K := K) (by simp) (rowG_len _ _ _ _) (fun t ht => ?_)
  rw [rowG_get _ _ _ _ _ ht, List.getElem?_replicate, if_pos ht, if_neg]
  rintro ⟨h1, h2⟩
  have := Nat.mod_le t G
  omega
theorem rowG_set (K G l n : Nat) (hl : l < G) (hn : n % G = l) (hK : n < K) : (rowG K G l n).set n 1 = rowG K G l (n + G) := by
  refine row_ext (K := K) (by simp [rowG_len]) (rowG_len _ _ _ _) (fun t ht => ?_)
  rw [rowG_get _ _ _ _ _ ht, List.getElem?_set, rowG_len, rowG_get _ _ _ _ _ ht]
  by_cases e : n = t
  · subst e
    rw [if_pos rfl, if_pos hK, if_pos ⟨by omega, hn⟩]
  · rw [if_neg e]
    by_cases h1 : t < n
    · by_cases h2 : t % G = l
      · rw [if_pos ⟨h1, h2⟩, if_pos ⟨by omega, h2⟩]
      · rw [if_neg (fun h => h2 h.2), if_neg (fun h => h2 h.2)]
    · rw [if_neg (fun h => h1 h.1), if_neg]
      rintro ⟨h2, h3⟩
      have e1 := Nat.div_add_mod t G
      have e2 := Nat.div_add_mod n G
      rw [h3] at e1
      rw [hn] at e2
      have h4 : G * (n / G) < G * (t / G) := by omega
      have h5 : n / G < t / G := Nat.lt_of_mul_lt_mul_left h4
      have h6 : G * (n / G + 1) ≤ G * (t / G) := Nat.mul_le_mul_left G h5
      rw [Nat.mul_add, Nat.mul_one] at h6
      omega
theorem rowG_last (K M G i n : Nat) (h1 : ¬ i < K) (h2 : ¬ i < K + M) (hn : K ≤ n) : rowG K G (i - K - M) n = rowL K M G i := by
  refine row_ext (K := K) (rowG_len _ _ _ _) (rowL_len _ _ _ _) (fun t ht => ?_)
  rw [rowG_get _ _ _ _ _ ht, rowL_get _ _ _ _ _ ht]
  unfold rowC
  rw [if_neg h1, if_neg h2]
  by_cases h3 : t % G = i - K - M
  · rw [if_pos ⟨by omega, h3⟩, if_pos h3]
  · rw [if_neg (fun h => h3 h.2), if_neg h3]
/-- The row behind a copy into it. -/
theorem row_after {w2 : World} {base gO K cO : Nat} {curL : List Value} {L : List Int} (hh : w2.heap[gO]? = some (.cells (splice curL 0 (L.map (Value.int .u8))).toArray 5 (0, 0))) (hL : L.length = K) (hc : curL.length = cO) (hK : K ≤ cO) (hm : cO ≤ maxLen) (hb : base ≤ gO) :
    (Kd.int .u8).R 5 w2 base (fun _ => True) (.slice (some ⟨gO, 0, none⟩) K cO) L := by
  subst hL
  refine Kd.R_of_own ⟨by simp [encs], .inr ⟨gO, cO, _, rfl, hb, hh, hK, hm, ?_, ?_⟩⟩ (fun _ _ => trivial)
  · have := length_splice curL 0 (L.map (Value.int .u8)) (by simp; omega)
    simp only [List.size_toArray]
    omega
  · simp only [splice, List.take_zero, List.nil_append, Nat.mul_one, Nat.zero_add]
    rw [List.take_append_of_le_length (by simp), List.take_of_length_le (by simp)]
    rfl
theorem own_cur {w1 : World} {K gO cO e base : Nat} {inn : List Value} (h : w1.ownsRow base e 1 (.slice (some ⟨gO, 0, none⟩) K cO) K inn) :
    ∃ cur : Array Value, w1.heap[gO]? = some (.cells cur.toList.toArray e (0, 0)) ∧ K ≤ cO ∧ cO ≤ maxLen ∧ cur.toList.length = cO := by
  rcases h.2 with ⟨h, _⟩ | ⟨g, cap, cur, he, hb, hh, h1, h2, h3, h4⟩
  · simp at h
  · simp only [Value.slice.injEq, Option.some.injEq, Addr.mk.injEq, and_true, true_and] at he
    obtain ⟨rfl, rfl⟩ := he
    exact ⟨cur, by simpa using hh, h1, h2, by simpa using h3⟩
theorem two_src {w w1 : World} {K M G i bA : Nat} (h1 : ¬ i < K) (h2 : i < K + M) (hb : Aside0 (Below w.heap.size w w1)) {cs : List Value} (hc : ∀ (j : Nat) (u : Value), cs[j]? = some u → w.cell? ((⟨bA, 0, none⟩ : Addr).add ((i - K) * (Kd.raw 33).sz + j)) = some u) (hr : (Kd.raw 33).K w (globAt K (i - K) K) cs) (hK : K ≤ 32 := by omega) :
    ∀ j v, ((rowL K M G i).map (Value.int .u8))[j]? = some v → w1.cell? ((⟨bA, (i - K) * 33 + 1, none⟩ : Addr).add j) = some v := by
  intro j v hv
  rw [List.getElem?_map] at hv
  by_cases hj : j < K
  · rw [rowL_get _ _ _ _ _ hj] at hv
    obtain rfl := Option.some.inj hv
    obtain ⟨rfl, _, _⟩ := hr
    have h3 := hc (1 + j) (.int .u8 (rowC K M G i j)) (by
      unfold globAt rowAt
      rw [show 1 + j = j + 1 by omega, List.getElem?_cons_succ, List.getElem?_map, List.getElem?_range (by omega)]
      unfold rowC
      rw [if_neg h1, if_pos h2, show K + (i - K) = i by omega]
      show some (Value.int .u8 ((if j < K then tabInv (xr i j) else 0 : Nat) : Int)) = _
      rw [if_pos hj])
    rw [add_plain] at h3
    have h4 := pw_cell_below hb.out h3
    have e : (⟨bA, (i - K) * 33 + 1, none⟩ : Addr).add j = ⟨bA, (i - K) * (Kd.raw 33).sz + (1 + j), none⟩ := by
      have z : (Kd.raw 33).sz = 33 := rfl
      rw [z]
      unfold Addr.add
      split
      · simp_all
      · simp; omega
    rw [e]
    exact h4
  · rw [List.getElem?_eq_none (by rw [rowL_len]; omega)] at hv
    simp at hv

set_option maxHeartbeats 8000000 in
set_option maxRecDepth 100000 in
theorem impl_plant_row.one (g K M G i : Nat) (hK1 : 1 ≤ K) (hK : K ≤ 32) (hM : M ≤ 16) (hG : G ≤ 32) (h1 : i < K) (w : World) (hp : PlantIn w g K M G) :
    Calls Try.prog 67 #[.pointer (some ⟨g, 0, none⟩), .int .i64 (i : Int)] w fun e w' => ∃ v, e = .returned v ∧ (Kd.int .u8).R 5 w' w.heap.size (fun _ => True) v (rowL K M G i) ∧ Below w.heap.size w w' := by
  have hk0 := hp.k
  have c1 : decide ((i : Int) < (K : Int)) = true := decide_eq_true (by omega)
  go_enter Try.func67, Try.ntmps67
  go_wp2_with ((with_reducible refine gate_dst (N := 14) rfl ?_); refine Kd.R_make (Kd.int .u8) _ 5 rfl (N := 14) rfl 78 _ _ rfl (K : Int) rfl rfl Try.underlying78 (.int .u8 0) 1 (by kernel_rfl) rfl (by decide) (by omega) 0 (ok := fun _ => True) (okp := fun _ => True) rfl (fun _ hk => hk) trivial (by omega) (by simp; omega) (Below.refl _ _) (Nat.le_refl _) ?_; intro v1 w1 ho hb hg_ hnew_; clear hg_ hnew_; rw [Int.toNat_natCast] at ho; obtain ⟨gO, cO, eO, hgO, hlO, cellsO, hcO⟩ := Kd.R_form ho (by simp; omega); rw [List.length_replicate] at eO; subst eO; have hp1 := hp.below hb; have hk1 := hp1.k; have hm1 := hp1.m; have hn1 := hp1.n; clear hcO; obtain ⟨hx0, hf0⟩ := Kd.R_celln 0 ho (i : Int) (by omega) (by omega); rw [Int.toNat_natCast] at hx0 hf0; have HO := Aside0.mk ho; have HB := Aside0.mk hb; have GO := Aside0.mk hgO; have NEo := Aside0.mk (show g ≠ gO from fun e_ => by have := hp.lt; omega); clear ho hb hgO)
  go_ret
  have h1_ := (Kd.R_putg HO.out (i : Int) 1).1
  rw [Int.toNat_natCast, row_one K M G i h1] at h1_
  exact ⟨_, rfl, h1_, below_set HB.out GO.out⟩
set_option maxHeartbeats 8000000 in
set_option maxRecDepth 100000 in
theorem impl_plant_row.two (g K M G i : Nat) (hK1 : 1 ≤ K) (hK : K ≤ 32) (hM : M ≤ 16) (hG : G ≤ 32) (h1 : ¬ i < K) (h2 : i < K + M) (w : World) (hp : PlantIn w g K M G) :
    Calls Try.prog 67 #[.pointer (some ⟨g, 0, none⟩), .int .i64 (i : Int)] w fun e w' => ∃ v, e = .returned v ∧ (Kd.int .u8).R 5 w' w.heap.size (fun _ => True) v (rowL K M G i) ∧ Below w.heap.size w w' := by
  have hk0 := hp.k
  have c1 : decide ((i : Int) < (K : Int)) = false := decide_eq_false (by omega)
  have c2 : decide ((i : Int) < (K : Int) + (M : Int)) = true := decide_eq_true (by omega)
  have b1 : (K : Int) ≤ 32 := by omega
  have b2 : (M : Int) ≤ 16 := by omega
  obtain ⟨A0, cA0, hA0, hC0⟩ := hp.gl
  obtain ⟨ad, rfl, hcell⟩ := hC0.1.2.2 (by omega)
  obtain ⟨bA, rfl⟩ := hC0.2 _ rfl
  obtain ⟨cs_, hcl_, hcr_, hcc_⟩ := hcell (i - K) (globAt K (i - K) K) (by unfold globs; rw [List.getElem?_map, List.getElem?_range (by omega)]; rfl)
  have hi0 : 0 ≤ (i : Int) - (K : Int) := by omega
  have hi1 : decide ((i : Int) - (K : Int) < (M : Int)) = true := decide_eq_true (by omega)
  have hi2 : ((i : Int) - (K : Int)).toNat = i - K := by omega
  have HCC := Aside0.mk hcc_
  clear hcell hcc_ hC0
  go_enter Try.func67, Try.ntmps67
  go_wp2_with (first | ((with_reducible refine gate_dst (N := 14) rfl ?_); refine Kd.R_make (Kd.int .u8) _ 5 rfl (N := 14) rfl 78 _ _ rfl (K : Int) rfl rfl Try.underlying78 (.int .u8 0) 1 (by kernel_rfl) rfl (by decide) (by omega) 0 (ok := fun _ => True) (okp := fun _ => True) rfl (fun _ hk => hk) trivial (by omega) (by simp; omega) (Below.refl _ _) (Nat.le_refl _) ?_; intro v1 w1 ho hb hg_ hnew_; clear hg_ hnew_; rw [Int.toNat_natCast] at ho; obtain ⟨gO, cO, eO, hgO, hlO, cellsO, hcO⟩ := Kd.R_form ho (by simp; omega); rw [List.length_replicate] at eO; subst eO; have hp1 := hp.below hb; have hk1 := hp1.k; have hm1 := hp1.m; have hn1 := hp1.n; clear hcO; have hA1 : w1.cell? ⟨g, 4, none⟩ = some (.slice (some ⟨bA, 0, none⟩) M cA0) := pw_cell_below hb hA0; have hb0_ := Aside0.mk hb; obtain ⟨inn_, hown_⟩ := Kd.R_own ho; rw [List.length_replicate] at hown_; obtain ⟨cur_, hh_, hcap_, hmx_, hsz_⟩ := own_cur hown_; clear hown_; have HO := Aside0.mk ho; have HB := Aside0.mk hb; have GO := Aside0.mk hgO; have NEo := Aside0.mk (show g ≠ gO from fun e_ => by have := hp.lt; omega); clear ho hb hgO) | ((with_reducible refine gate_dst (N := 78) rfl ?_); with_reducible refine wpList_copy_splice rfl (.tmp 67) (.tmp 77) 78 78 rfl 5 Try.underlying78 (by kernel_rfl) _ _ _ _ _ _ rfl rfl gO 0 cur_.toList 5 hh_ ((rowL K M G i).map (Value.int .u8)) (by rw [List.length_map, rowL_len]; show K = min 32 K; omega) (fun _ => ⟨rfl, _, rfl, two_src h1 h2 hb0_ HCC.out hcr_ hK⟩) (by rw [List.length_map, rowL_len]; omega) (by simp [Value.oneCell']) w.heap.size w HB.out GO.out ?_; intro w2 hg2 hb2; have H2 := Aside0.mk hg2.out; have B2 := Aside0.mk hb2; clear hg2 hb2))
  go_ret
  exact ⟨_, rfl, row_after H2.out (rowL_len _ _ _ _) (by simpa using hsz_) hcap_ hmx_ GO.out, B2.out⟩
/-- A whole struct written. -/
theorem row_put {W : World} {oi : Oper} {a : Act} (ty : TypeId) (x y : Operand) (ho : oi.op = .store ty x y) (g : Nat) (old cells : Array Value) (hx : a.eval x = .pointer (some ⟨g, 0, none⟩)) (hy : a.eval y = .agg cells)
    (hb : W.heap[g]? = some (.cells old ty (0, 0))) (hi : (Try.prog.info? ty).map (·.size) = some cells.size) (hs : old.size = cells.size) (h1 : cells.all (·.oneCell') = true) : (execOp a.eval oi).run Try.prog W = .ok .skip (W.setRow g cells) := by
  unfold execOp
  simp only [ho, hx, hy, Instr.storeAt, Instr.sureAddr, Sem.run_bind, Sem.run_pure, Result.andThen_ok, run_storeVar_row W g ty ty old cells hb hi hs h1]
set_option maxHeartbeats 8000000 in
set_option maxRecDepth 100000 in
theorem impl_plant_row.three (g K M G i : Nat) (hK1 : 1 ≤ K) (hK : K ≤ 32) (hM : M ≤ 16) (hG : G ≤ 32) (h1 : ¬ i < K) (h2 : ¬ i < K + M) (h3 : i < K + M + G) (w : World) (hp : PlantIn w g K M G) :
    Calls Try.prog 67 #[.pointer (some ⟨g, 0, none⟩), .int .i64 (i : Int)] w fun e w' => ∃ v, e = .returned v ∧ (Kd.int .u8).R 5 w' w.heap.size (fun _ => True) v (rowL K M G i) ∧ Below w.heap.size w w' := by
  have hk0 := hp.k
  have c1 : decide ((i : Int) < (K : Int)) = false := decide_eq_false (by omega)
  have c2 : decide ((i : Int) < (K : Int) + (M : Int)) = false := decide_eq_false (by omega)
  have b1 : (K : Int) ≤ 32 := by omega
  have b2 : (M : Int) ≤ 16 := by omega
  have b3 : (i : Int) ≤ 100 := by omega
  obtain ⟨A0, cA0, hA0, hC0⟩ := hp.lo
  obtain ⟨ad, rfl, hcell⟩ := hC0.1.2.2 (by omega)
  obtain ⟨bA, rfl⟩ := hC0.2 _ rfl
  obtain ⟨cs_, hcl_, ⟨rfl, _, _⟩, hcc_⟩ := hcell (i - K - M) (locAt K M (i - K - M)) (by unfold locs; rw [List.getElem?_map, List.getElem?_range (by omega)]; rfl)
  have hq0 := hcc_ 0 _ rfl
  have hq1 := hcc_ 1 _ rfl
  rw [add_plain] at hq0 hq1
  have hL : (i - K - M) < G := by omega
  have Q0 : Aside0 (w.cell? ⟨bA, (i - K - M) * 2, none⟩ = some (.int .i64 ((K + M + (i - K - M) : Nat) : Int))) := ⟨hq0⟩
  have Q1 : Aside0 (w.cell? ⟨bA, (i - K - M) * 2 + 1, none⟩ = some (.int .i64 (((i - K - M) : Nat) : Int))) := ⟨hq1⟩
  have HA0 := Aside0.mk hA0
  clear hcell hcc_ hC0 hq0 hq1 hcl_
  go_enter Try.func67, Try.ntmps67
  go_wp2_with ((with_reducible refine gate_dst (N := 14) rfl ?_); refine Kd.R_make (Kd.int .u8) _ 5 rfl (N := 14) rfl 78 _ _ rfl (K : Int) rfl rfl Try.underlying78 (.int .u8 0) 1 (by kernel_rfl) rfl (by decide) (by omega) 0 (ok := fun _ => True) (okp := fun _ => True) rfl (fun _ hk => hk) trivial (by omega) (by simp; omega) (Below.refl _ _) (Nat.le_refl _) ?_; intro v1 w1 ho hb hg_ hnew_; clear hg_ hnew_; rw [Int.toNat_natCast] at ho; obtain ⟨gO, cO, eO, hgO, hlO, cellsO, hcO⟩ := Kd.R_form ho (by simp; omega); rw [List.length_replicate] at eO; subst eO; have hp1 := hp.below hb; have hk1 := hp1.k; have hm1 := hp1.m; have hn1 := hp1.n; clear hcO; have hA1 : w1.cell? ⟨g, 5, none⟩ = some (.slice (some ⟨bA, 0, none⟩) G cA0) := pw_cell_below hb hA0; have HO := Aside0.mk ho; have HB := Aside0.mk hb; have GO := Aside0.mk hgO; have NEo := Aside0.mk (show g ≠ gO from fun e_ => by have := hp.lt; omega); clear ho hb hgO)
  clear hk0 hk1 hm1 hn1 hp1 hA1 hA0
  have n0_ := Aside0.mk (Kd.R_drew HO.out)
  have n1_ := Aside0.mk (below_drew1 HB.out)
  clear HO HB
  have HO := n0_
  have HB := n1_
  clear n0_ n1_
  have hw1 : IntKind.i64.wrap ((i : Int) - (K : Int)) = ((i - K : Nat) : Int) := by rw [IntKind.wrap_i64]; omega
  have hw2 : IntKind.i64.wrap (((i - K : Nat) : Int) - (M : Int)) = (((i - K - M) : Nat) : Int) := by rw [IntKind.wrap_i64]; omega
  have hL2 : (((i - K - M) : Nat) : Int) < (G : Int) := by omega
  refine start_ (n := 17) (S := fun w' => w'.cell? ⟨g, 5, none⟩ = some (.slice (some ⟨bA, 0, none⟩) G cA0) ∧ w'.cell? ⟨g, 2, none⟩ = some (.int .i64 (M : Int)) ∧ w'.cell? ⟨bA, (i - K - M) * 2, none⟩ = some (.int .i64 ((K + M + (i - K - M) : Nat) : Int)) ∧ w'.cell? ⟨bA, (i - K - M) * 2 + 1, none⟩ = some (.int .i64 (((i - K - M) : Nat) : Int))) (ds := [16]) #[false, false, false, false, false, false, false, false, false, false, false, false, false, false, false, false, false] (by kernel_rfl) rfl rfl ⟨pw_cell_below HB.out HA0.out, (hp.below HB.out).m, pw_cell_below HB.out Q0.out, pw_cell_below HB.out Q1.out⟩ (fun hHeld => ?_)
  generalize w1.drew = w7 at HO HB hHeld ⊢
  refine pure_ (i := 0) (N := some 20) (v := ?_) (a' := ?_) #[true, false, false, false, false, false, false, false, false, false, false, false, false, false, false, false, false] rfl rfl (by kernel_rfl) (fun _ _ _ h => h) (Or.inl ⟨by rfl, ?_⟩) ?_ ?_; rotate_left; intro w'; go_simp; with_reducible rfl; rotate_left; simp only [Cap.pz]; rfl
  refine pure_ (i := 1) (N := some 21) (v := ?_) (a' := ?_) #[true, true, false, false, false, false, false, false, false, false, false, false, false, false, false, false, false] rfl rfl (by kernel_rfl) (fun _ _ _ h => h) (Or.inl ⟨by rfl, ?_⟩) ?_ ?_; rotate_left; intro w'; go_simp; with_reducible rfl; rotate_left; simp only [Cap.pz]; rfl
  refine pure_ (i := 2) (N := some 22) (v := ?_) (a' := ?_) #[true, true, true, false, false, false, false, false, false, false, false, false, false, false, false, false, false] rfl rfl (by kernel_rfl) (fun _ _ _ h => h) (Or.inl ⟨by rfl, ?_⟩) ?_ ?_; rotate_left; intro w'; go_simp; with_reducible rfl; rotate_left; simp only [Cap.pz]; rfl
  refine take_ (i := 3) (N := some 23) (v := ?_) (a' := ?_) #[true, true, true, true, false, false, false, false, false, false, false, false, false, false, false, false, false] rfl rfl (by kernel_rfl) (fun _ _ _ h => h) (Or.inl ⟨by rfl, ?_⟩) hHeld ?_ ?_; rotate_left; rintro w' ⟨s0, s1, s2, s3⟩; go_simp; with_reducible rfl; rotate_left; simp only [Cap.pz]; rfl
  refine pure_ (i := 4) (N := some 24) (v := ?_) (a' := ?_) #[true, true, true, true, true, false, false, false, false, false, false, false, false, false, false, false, false] rfl rfl (by kernel_rfl) (fun _ _ _ h => h) (Or.inl ⟨by rfl, ?_⟩) ?_ ?_; rotate_left; intro w'; go_simp; with_reducible rfl; rotate_left; simp only [Cap.pz]; rfl
  refine pure_ (i := 5) (N := some 25) (v := ?_) (a' := ?_) #[true, true, true, true, true, true, false, false, false, false, false, false, false, false, false, false, false] rfl rfl (by kernel_rfl) (fun _ _ _ h => h) (Or.inl ⟨by rfl, ?_⟩) ?_ ?_; rotate_left; intro w'; go_simp; with_reducible rfl; rotate_left; simp only [Cap.pz]; rfl
  refine pure_ (i := 6) (N := some 26) (v := ?_) (a' := ?_) #[true, true, true, true, true, true, true, false, false, false, false, false, false, false, false, false, false] rfl rfl (by kernel_rfl) (fun _ _ _ h => h) (Or.inl ⟨by rfl, ?_⟩) ?_ ?_; rotate_left; intro w'; go_simp; with_reducible rfl; rotate_left; simp only [Cap.pz]; rfl
  refine pure_ (i := 7) (N := some 27) (v := ?_) (a' := ?_) #[true, true, true, true, true, true, true, true, false, false, false, false, false, false, false, false, false] rfl rfl (by kernel_rfl) (fun _ _ _ h => h) (Or.inl ⟨by rfl, ?_⟩) ?_ ?_; rotate_left; intro w'; go_simp; with_reducible rfl; rotate_left; simp only [Cap.pz]; rfl
  refine pure_ (i := 8) (N := some 28) (v := ?_) (a' := ?_) #[true, true, true, true, true, true, true, true, true, false, false, false, false, false, false, false, false] rfl rfl (by kernel_rfl) (fun _ _ _ h => h) (Or.inl ⟨by rfl, ?_⟩) ?_ ?_; rotate_left; intro w'; go_simp; with_reducible rfl; rotate_left; simp only [Cap.pz]; rfl
  refine pure_ (i := 9) (N := some 29) (v := ?_) (a' := ?_) #[true, true, true, true, true, true, true, true, true, true, false, false, false, false, false, false, false] rfl rfl (by kernel_rfl) (fun _ _ _ h => h) (Or.inl ⟨by rfl, ?_⟩) ?_ ?_; rotate_left; intro w'; go_simp; with_reducible rfl; rotate_left; simp only [Cap.pz]; rfl
  refine pure_ (i := 10) (N := some 30) (v := ?_) (a' := ?_) #[true, true, true, true, true, true, true, true, true, true, true, false, false, false, false, false, false] rfl rfl (by kernel_rfl) (fun _ _ _ h => h) (Or.inl ⟨by rfl, ?_⟩) ?_ ?_; rotate_left; intro w'; go_simp; with_reducible rfl; rotate_left; simp only [Cap.pz]; rfl
  refine take_ (i := 11) (N := some 31) (v := ?_) (a' := ?_) #[true, true, true, true, true, true, true, true, true, true, true, true, false, false, false, false, false] rfl rfl (by kernel_rfl) (fun _ _ _ h => h) (Or.inl ⟨by rfl, ?_⟩) hHeld ?_ ?_; rotate_left; rintro w' ⟨s0, s1, s2, s3⟩; go_simp; with_reducible rfl; rotate_left; simp only [Cap.pz]; rfl
  refine pure_ (i := 12) (N := some 32) (v := ?_) (a' := ?_) #[true, true, true, true, true, true, true, true, true, true, true, true, true, false, false, false, false] rfl rfl (by kernel_rfl) (fun _ _ _ h => h) (Or.inl ⟨by rfl, ?_⟩) ?_ ?_; rotate_left; intro w'; go_simp; with_reducible rfl; rotate_left; simp only [Cap.pz]; rfl
  refine pure_ (i := 13) (N := some 33) (v := ?_) (a' := ?_) #[true, true, true, true, true, true, true, true, true, true, true, true, true, true, false, false, false] rfl rfl (by kernel_rfl) (fun _ _ _ h => h) (Or.inl ⟨by rfl, ?_⟩) ?_ ?_; rotate_left; intro w'; go_simp; with_reducible rfl; rotate_left; simp only [Cap.pz]; rfl
  refine take_ (i := 14) (N := some 34) (v := ?_) (a' := ?_) #[true, true, true, true, true, true, true, true, true, true, true, true, true, true, true, false, false] rfl rfl (by kernel_rfl) (fun _ _ _ h => h) (Or.inl ⟨by rfl, ?_⟩) hHeld ?_ ?_; rotate_left; rintro w' ⟨s0, s1, s2, s3⟩; go_simp; with_reducible rfl; rotate_left; simp only [Cap.pz]; rfl
  refine one_ (i := 15) (N := some 7) #[true, true, true, true, true, true, true, true, true, true, true, true, true, true, true, true, false] rfl rfl (by kernel_rfl) (by decide) (fun Kq hK => ?_)
  refine value_ (w1 := ?_) (v := ?_) (by rfl) rfl ?_ ?_
  rotate_left 2
  · go_simp
    constructor
    · rfl
    · rfl
  refine hK.out _ _ ⟨pw_cell_below (below_alloc HB.out _) HA0.out, (hp.below (below_alloc HB.out _)).m, pw_cell_below (below_alloc HB.out _) Q0.out, pw_cell_below (below_alloc HB.out _) Q1.out⟩ (fun hHeld => ?_)
  clear hK Kq
  refine norm_ (a' := ?_) ?_ ?_; rotate_left; show Act.put _ (some 7) _ = _; simp only [Cap.pz]; rfl
  refine last_ (i := 16) (N := none) #[true, true, true, true, true, true, true, true, true, true, true, true, true, true, true, true, true] rfl rfl (by kernel_rfl) (by decide) (fun Kq hK => ?_)
  have hB2_ := below_alloc HB.out (.cells #[.int .i64 0, .int .i64 0] 149 (0, 0))
  have hn_ := blk_new w7 (.cells #[.int .i64 0, .int .i64 0] 149 (0, 0))
  have hsz_ := below_size HB.out
  refine skip_ (w1 := (w7.alloc (.cells #[.int .i64 0, .int .i64 0] 149 (0, 0))).setRow w7.heap.size #[.int .i64 ((K + M + (i - K - M) : Nat) : Int), .int .i64 (((i - K - M) : Nat) : Int)]) (by rfl) rfl (row_put 149 (.tmp 7) (.tmp 34) rfl w7.heap.size _ _ rfl rfl hn_ (by kernel_rfl) rfl (by simp [Value.oneCell'])) ?_
  refine hK.out _ _ ?_
  clear hK Kq
  refine done_ (by kernel_rfl) ?_
  have hl_ : gO < w7.heap.size := by obtain ⟨_, _, e_, _, h_, _⟩ := Kd.R_form HO.out (by simp; omega); injection e_ with e_ _ _; injection e_ with e_; injection e_ with e_; omega
  have n0_ : Aside0 ((Kd.int .u8).R 5 ((w7.alloc (.cells #[.int .i64 0, .int .i64 0] 149 (0, 0))).setRow w7.heap.size #[.int .i64 ((K + M + (i - K - M) : Nat) : Int), .int .i64 (((i - K - M) : Nat) : Int)]) w.heap.size (fun k => k < w7.heap.size) (.slice (some ⟨gO, 0, none⟩) K cO) (rowG K G (i - K - M) (i - K - M))) := ⟨by rw [← rowG_zero]; exact Kd.R_mono (Kd.R_step (Kd.R_alloc (Kd.R_bound HO.out) _) (fun k hk _ => setRow_other _ _ _ _ (by have := hk.2.2.1; omega))) (fun k hk => hk.2.2.1)⟩
  have n1_ : Aside0 (Below w.heap.size w ((w7.alloc (.cells #[.int .i64 0, .int .i64 0] 149 (0, 0))).setRow w7.heap.size #[.int .i64 ((K + M + (i - K - M) : Nat) : Int), .int .i64 (((i - K - M) : Nat) : Int)])) := ⟨below_row hB2_ hsz_ _⟩
  have hg8_ : ((w7.alloc (.cells #[.int .i64 0, .int .i64 0] 149 (0, 0))).setRow w7.heap.size #[.int .i64 ((K + M + (i - K - M) : Nat) : Int), .int .i64 (((i - K - M) : Nat) : Int)]).heap[w7.heap.size]? = some (.cells #[.int .i64 ((K + M + (i - K - M) : Nat) : Int), .int .i64 (((i - K - M) : Nat) : Int)] 149 (0, 0)) := setRow_heap _ _ _ _ 149 (0, 0) hn_
  clear HO HB hHeld hB2_ hn_ hsz_
  generalize w7.heap.size = gl at n0_ n1_ hg8_ hl_ ⊢
  generalize (w7.alloc (.cells #[.int .i64 0, .int .i64 0] 149 (0, 0))).setRow gl #[.int .i64 ((K + M + (i - K - M) : Nat) : Int), .int .i64 (((i - K - M) : Nat) : Int)] = w8 at n0_ n1_ hg8_ ⊢
  have HO := n0_
  have HB := n1_
  clear n0_ n1_ hl_
  have hl1 : w8.cell? ⟨gl, 1, none⟩ = some (.int .i64 (((i - K - M) : Nat) : Int)) := (blk_cell hg8_ 1).trans rfl
  clear hg8_
  go_wp2
  clear hl1
  go_loopw [8] (fun v8 wr => ∃ d : Nat, d % G = (i - K - M) ∧ d < K + G + G ∧ v8 = .int .i64 (d : Int) ∧ Aside0 ((Kd.int .u8).R 5 wr w.heap.size (fun _ => True) (.slice (some ⟨gO, 0, none⟩) K cO) (rowG K G (i - K - M) d)) ∧ Aside0 (Below w.heap.size w wr)) (fun v8 _ => K + 1 - (intOf v8).toNat)
  case atStart => exact ⟨(i - K - M), Nat.mod_eq_of_lt hL, by omega, rfl, ⟨Kd.R_mono HO.out (fun _ _ => trivial)⟩, HB⟩
  case round =>
    clear HO HB
    obtain ⟨d, hd1, hd2, rfl, HO, HB⟩ := hrel
    by_cases hlt : d < K
    · have c3 : decide ((d : Int) < (K : Int)) = true := decide_eq_true (by omega)
      have b4 : (G : Int) ≤ 32 := by omega
      have b5 : (d : Int) ≤ 32 := by omega
      obtain ⟨hx0, hf0⟩ := Kd.R_celln 0 HO.out (d : Int) (by omega) (by omega)
      rw [Int.toNat_natCast] at hx0 hf0
      have hk1 := (hp.below HB.out).k
      have hn1 := (hp.below HB.out).n
      have hn2 : (wr.setCell ⟨gO, d, none⟩ (.int .u8 1)).cell? ⟨g, 3, none⟩ = some (.int .i64 (G : Int)) := (World.cell?_setCell_far _ _ _ _ (by have := NEo.out; exact fun e => this e.symm)).trans hn1
      go_wp2
      go_roundw
      case rel => exact ⟨d + G, by rw [Nat.add_mod_right]; exact hd1, by omega, by go_num, ⟨by have h := (Kd.R_putg HO.out (d : Int) 1).1; rw [Int.toNat_natCast, rowG_set K G _ d hL hd1 hlt] at h; exact h⟩, ⟨below_set HB.out GO.out⟩⟩
      case measure => simp [intOf]; omega
    · have c3 : decide ((d : Int) < (K : Int)) = false := decide_eq_false (by omega)
      go_wp2
      go_ret
      exact ⟨_, rfl, by rw [← rowG_last K M G i d h1 h2 (by omega)]; exact HO.out, HB.out⟩
theorem impl_plant_row.callsN (g K M G i : Nat) (hK1 : 1 ≤ K) (hK : K ≤ 32) (hM : M ≤ 16) (hG : G ≤ 32) (hi : i < K + M + G) (w : World) (hp : PlantIn w g K M G) :
    Calls Try.prog 67 #[.pointer (some ⟨g, 0, none⟩), .int .i64 (i : Int)] w fun e w' => ∃ v, e = .returned v ∧ (Kd.int .u8).R 5 w' w.heap.size (fun _ => True) v (rowL K M G i) ∧ Below w.heap.size w w' := by
  by_cases h1 : i < K
  · exact impl_plant_row.one g K M G i hK1 hK hM hG h1 w hp
  · by_cases h2 : i < K + M
    · exact impl_plant_row.two g K M G i hK1 hK hM hG h1 h2 w hp
    · exact impl_plant_row.three g K M G i hK1 hK hM hG h1 h2 (by omega) w hp
def impl_plant_row.f (p i : Int) : Option (List Int) := if 0 ≤ i ∧ i < pK p + pM p + pG p then some (rowL (pK p) (pM p) (pG p) i.toNat) else none
theorem impl_plant_row.calls {p : Int} (g : Nat) (i : Int) (r : List Int) (w : World) (h : impl_plant_row.f p i = some r) (hp : PlantAt w g p) :
    Calls Try.prog 67 #[.pointer (some ⟨g, 0, none⟩), .int .i64 i] w fun e w' => ∃ v, e = .returned v ∧ Kd.R (Kd.int .u8) 5 w' w.heap.size (fun _ => True) v r ∧ Below w.heap.size w w' := by
  unfold impl_plant_row.f at h
  by_cases hc : 0 ≤ i ∧ i < pK p + pM p + pG p
  · rw [if_pos hc] at h
    obtain rfl := Option.some.inj h
    obtain ⟨i, rfl⟩ := Int.eq_ofNat_of_zero_le hc.1
    exact impl_plant_row.callsN g (pK p) (pM p) (pG p) i hp.k1 hp.k2 hp.m2 hp.g2 (by omega) w hp.at_
  · rw [if_neg hc] at h
    exact absurd h (by simp)

/-! ### impl_CodeRow: function 13 -/
mutual
def impl_CodeRow.j0 : Nat → Int → Bool → Int → Int → Int → Option (List Int)
  | 0, _, _, _, _, _ => none
  | k + 1, x1, x20, x128000, x128001, x128002 => if x20 = true then (some ([] : List Int)) else ((impl_newPlant.f x128000 x128001 x128002).bind fun t133 => ((impl_plant_row.f t133 x1).bind fun t134 => (impl_CodeRow.l0 k (([] : List Int)) t134 (t134.length : Int) 0)))
def impl_CodeRow.l0 : Nat → List Int → List Int → Int → Int → Option (List Int)
  | 0, _, _, _, _ => none
  | k + 1, x5, x25, x26, x27 => if x27 < x26 then (if 0 ≤ x27 then (if x27 < (x25.length : Int) then (if x5.length < 17592186044416 then (impl_CodeRow.l0 k (x5 ++ [wrap64 (rd x25 x27)]) x25 x26 (wrap64 (x27 + 1))) else (none)) else (none)) else (none)) else (some x5)
end
def impl_CodeRow.f (k : Nat) (a0_0 : Int) (a0_1 : Int) (a0_2 : Int) (a1 : Int) : Option (List Int) := (impl_CodeFault.f a0_0 a0_1 a0_2).bind fun t128 => (if t128 = 0 then (if a1 < 0 then (impl_CodeRow.j0 k a1 true a0_0 a0_1 a0_2) else ((impl_CodeSize.f a0_0 a0_1 a0_2).bind fun t129 => (impl_CodeRow.j0 k a1 (decide (a1 ≥ t129)) a0_0 a0_1 a0_2))) else (impl_CodeRow.j0 k a1 true a0_0 a0_1 a0_2))
theorem impl_CodeRow.mono_l : ∀ k, (∀ y0 y1 y2 y3 y4, LeO (impl_CodeRow.j0 k y0 y1 y2 y3 y4) (impl_CodeRow.j0 (k + 1) y0 y1 y2 y3 y4)) ∧ (∀ y0 y1 y2 y3, LeO (impl_CodeRow.l0 k y0 y1 y2 y3) (impl_CodeRow.l0 (k + 1) y0 y1 y2 y3))
  | 0 => ⟨fun _ _ _ _ _ r h => by simp [impl_CodeRow.j0] at h, fun _ _ _ _ r h => by simp [impl_CodeRow.l0] at h⟩
  | k + 1 => by
    obtain ⟨ih0, ih1⟩ := impl_CodeRow.mono_l k
    refine ⟨?_, ?_⟩
    · intro y0 y1 y2 y3 y4
      unfold impl_CodeRow.j0
      repeat' first
      | (with_reducible exact ih0 _ _ _ _ _)
      | (with_reducible exact ih1 _ _ _ _)
      | (with_reducible exact LeO.refl _)
      | (with_reducible exact LeO.none _)
      | (with_reducible refine LeO.ite ?_ ?_)
      | (with_reducible refine LeO.bind ?_ (fun _ => ?_))
      | exact ih0 _ _ _ _ _
      | exact ih1 _ _ _ _
      | exact LeO.none _
      | refine LeO.ite ?_ ?_
      | refine LeO.bind ?_ (fun _ => ?_)
    · intro y0 y1 y2 y3
      unfold impl_CodeRow.l0
      repeat' first
      | (with_reducible exact ih0 _ _ _ _ _)
      | (with_reducible exact ih1 _ _ _ _)
      | (with_reducible exact LeO.refl _)
      | (with_reducible exact LeO.none _)
      | (with_reducible refine LeO.ite ?_ ?_)
      | (with_reducible refine LeO.bind ?_ (fun _ => ?_))
      | exact ih0 _ _ _ _ _
      | exact ih1 _ _ _ _
      | exact LeO.none _
      | refine LeO.ite ?_ ?_
      | refine LeO.bind ?_ (fun _ => ?_)
theorem impl_CodeRow.mono : ∀ a0 a1 a2 a3 k, LeO (impl_CodeRow.f k a0 a1 a2 a3) (impl_CodeRow.f (k + 1) a0 a1 a2 a3) := by
  intro a0 a1 a2 a3 k
  obtain ⟨ih0, ih1⟩ := impl_CodeRow.mono_l k
  unfold impl_CodeRow.f
  repeat' first
      | (with_reducible exact ih0 _ _ _ _ _)
      | (with_reducible exact ih1 _ _ _ _)
      | (with_reducible exact LeO.refl _)
      | (with_reducible exact LeO.none _)
      | (with_reducible refine LeO.ite ?_ ?_)
      | (with_reducible refine LeO.bind ?_ (fun _ => ?_))
      | exact ih0 _ _ _ _ _
      | exact ih1 _ _ _ _
      | exact LeO.none _
      | refine LeO.ite ?_ ?_
      | refine LeO.bind ?_ (fun _ => ?_)
set_option maxHeartbeats 8000000 in
set_option maxRecDepth 100000 in
theorem impl_CodeRow.calls (k : Nat) (a0_0 : Int) (a0_1 : Int) (a0_2 : Int) (a1 : Int) (r : List Int) (w : World) (h : impl_CodeRow.f k a0_0 a0_1 a0_2 a1 = some r) :
    Calls Try.prog 13 #[.agg #[.int .i64 a0_0, .int .i64 a0_1, .int .i64 a0_2], .int .i64 a1] w fun e w' => ∃ v0_ : Value, e = .returned (v0_) ∧ Kd.R (Kd.int .i64) 2 w' w.heap.size (fun _ => True) v0_ r ∧ Below w.heap.size w w' := by
  have hu26 := Try.underlying26
  have HB := Aside0.mk (Below.refl w.heap.size w)
  have H : ((impl_CodeFault.f a0_0 a0_1 a0_2).bind fun t128 => (if t128 = 0 then (if a1 < 0 then (impl_CodeRow.j0 k a1 true a0_0 a0_1 a0_2) else ((impl_CodeSize.f a0_0 a0_1 a0_2).bind fun t129 => (impl_CodeRow.j0 k a1 (decide (a1 ≥ t129)) a0_0 a0_1 a0_2))) else (impl_CodeRow.j0 k a1 true a0_0 a0_1 a0_2))) = some r := h
  clear h
  have HC3 := Aside0.mk H
  clear H
  go_enter Try.func13, Try.ntmps13
  go_upto_region 1 with (first | ((with_reducible refine gate_dst (N := 2) rfl ?_); refine box_event ?hg (N := 2) ?hd (cs := #[.int .i64 a0_0, .int .i64 a0_1, .int .i64 a0_2]) (t := 26) ?hr ?_; (case hd => rfl); (case hg => rfl); (case hr => first | (go_simp; done) | (go_simp; rfl)); intro gb127 hg w4 hbox hb; have n0_ := Aside0.mk (below_step (by repeat (first | (with_reducible first | exact HB.out | apply below_alloc | apply pw_below_drewN | apply below_drew1) | exact HB.out)) hb); have n1_ := Aside0.mk (hbox); have n2_ := Aside0.mk ((by rw [hg]; exact (below_size (by repeat (first | (with_reducible first | exact HB.out | apply below_alloc | apply pw_below_drewN | apply below_drew1) | exact HB.out))) : w.heap.size ≤ gb127)); have n3_ := Aside0.mk ((by rw [hg]; exact (below_size (by repeat (first | (with_reducible first | exact HB.out | apply below_alloc | apply pw_below_drewN | apply below_drew1) | exact HB.out))) : w.heap.size ≤ gb127)); clear HB; have HB := n0_; have BK127 := n1_; have GW127 := n2_; have GE127 := n3_; clear n0_ n1_ n2_ n3_; clear hb hbox hg))
  (try simp only [Act.put, List.setIfInBounds_toArray, List.set_cons_zero, List.set_cons_succ])
  go_cut [20] (fun v20 wc => ∃ (kq : Nat) (x20_2 : Bool), v20 = .bool x20_2 ∧ Aside0 (impl_CodeRow.j0 kq a1 x20_2 a0_0 a0_1 a0_2 = some r) ∧ Aside0 (kq ≤ k) ∧ Aside0 (wc.heap[gb127]? = some (.cells #[.int .i64 a0_0, .int .i64 a0_1, .int .i64 a0_2] 26 (0, 0))) ∧ Aside0 (Below w.heap.size w wc))
  case first =>
    have H := HC3.out
    clear HC3
    replace H := Option.bind_eq_some_iff.mp H
    obtain ⟨t128, A50, H⟩ := H
    replace H : (if t128 = 0 then (if a1 < 0 then (impl_CodeRow.j0 k a1 true a0_0 a0_1 a0_2) else ((impl_CodeSize.f a0_0 a0_1 a0_2).bind fun t129 => (impl_CodeRow.j0 k a1 (decide (a1 ≥ t129)) a0_0 a0_1 a0_2))) else (impl_CodeRow.j0 k a1 true a0_0 a0_1 a0_2)) = some r := H
    have A5 := Aside0.mk A50
    clear A50
    by_cases c6 : t128 = 0
    · rw [if_pos c6] at H
      have c6b0 : (t128 == 0) = true := beq_iff_eq.mpr c6
      have c6b1 : (t128 != 0) = false := bne_eq_false_iff_eq.mpr c6
      clear c6
      (first | rw [c6b0] | (simp only [i64_w, i32_w]; rw [c6b0]) | skip)
      by_cases c7 : a1 < 0
      · rw [if_pos c7] at H
        have c7b0 : decide (a1 < 0) = true := decide_eq_true c7
        clear c7
        have H' := Aside0.mk H
        clear H
        have hcz8_0 : w4.cell? ⟨gb127, 0, none⟩ = some (.int .i64 a0_0) := (blk_cell BK127.out 0).trans rfl
        have hcz8_1 : w4.cell? ⟨gb127, 1, none⟩ = some (.int .i64 a0_1) := (blk_cell BK127.out 1).trans rfl
        have hcz8_2 : w4.cell? ⟨gb127, 2, none⟩ = some (.int .i64 a0_2) := (blk_cell BK127.out 2).trans rfl
        have hfz8_0 := blk_frozen BK127.out 0
        have hfz8_1 := blk_frozen BK127.out 1
        have hfz8_2 := blk_frozen BK127.out 2
        go_wp2_with (first | ((with_reducible refine gate_callee (f := 64) rfl ?_); refine goesL_ (some 9) rfl rfl Try.func64 (by kernel_rfl) rfl #[.agg #[.int .i64 a0_0, .int .i64 a0_1, .int .i64 a0_2]] rfl (by (try simp only [List.map_toArray, List.map_cons, List.map_nil]); first | done | rfl | (simp only [List.length_drop, List.length_take]; rfl)) ?_; (with_reducible refine (impl_CodeFault.calls a0_0 a0_1 a0_2 t128 _ A5.out).mono ?_); rintro e w9 ⟨rfl, hb⟩; refine ⟨_, rfl, ?_⟩; have n0_ := Aside0.mk (blk_below (g := gb127) (o := .cells #[.int .i64 a0_0, .int .i64 a0_1, .int .i64 a0_2] 26 (0, 0)) (by (with_reducible repeat (first | refine blk_drewN ?_ _ | refine blk_drew ?_ | refine blk_alloc ?_ _)); exact BK127.out) hb); have n1_ := Aside0.mk (below_step (by repeat (first | (with_reducible first | exact HB.out | apply below_alloc | apply pw_below_drewN | apply below_drew1 | refine below_set ?_ GE127.out) | exact HB.out)) hb); clear BK127; clear HB; have BK127 := n0_; have HB := n1_; clear n0_ n1_; (try clear hb); (try clear hb2); (try clear hk); (try clear hi)))
        go_meet
        case rel => exact ⟨_, (true), (by first | rfl | (simp; done) | (simp [*]; done)), H', ⟨by first | omega | exact Nat.le_refl _⟩, ⟨by (with_reducible repeat (first | refine blk_drewN ?_ _ | refine blk_drew ?_ | refine blk_alloc ?_ _)); exact BK127.out⟩, ⟨by repeat (first | (with_reducible first | exact HB.out | apply below_alloc | apply pw_below_drewN | apply below_drew1 | refine below_set ?_ GE127.out) | exact HB.out)⟩⟩
      · rw [if_neg c7] at H
        have c7b0 : decide (a1 < 0) = false := decide_eq_false c7
        clear c7
        replace H := Option.bind_eq_some_iff.mp H
        obtain ⟨t129, A100, H⟩ := H
        replace H : (impl_CodeRow.j0 k a1 (decide (a1 ≥ t129)) a0_0 a0_1 a0_2) = some r := H
        have A10 := Aside0.mk A100
        clear A100
        have H' := Aside0.mk H
        clear H
        have hcz11_0 : w4.cell? ⟨gb127, 0, none⟩ = some (.int .i64 a0_0) := (blk_cell BK127.out 0).trans rfl
        have hcz11_1 : w4.cell? ⟨gb127, 1, none⟩ = some (.int .i64 a0_1) := (blk_cell BK127.out 1).trans rfl
        have hcz11_2 : w4.cell? ⟨gb127, 2, none⟩ = some (.int .i64 a0_2) := (blk_cell BK127.out 2).trans rfl
        have hfz11_0 := blk_frozen BK127.out 0
        have hfz11_1 := blk_frozen BK127.out 1
        have hfz11_2 := blk_frozen BK127.out 2
        go_wp2_with (first | ((with_reducible refine gate_callee (f := 64) rfl ?_); refine goesL_ (some 9) rfl rfl Try.func64 (by kernel_rfl) rfl #[.agg #[.int .i64 a0_0, .int .i64 a0_1, .int .i64 a0_2]] rfl (by (try simp only [List.map_toArray, List.map_cons, List.map_nil]); first | done | rfl | (simp only [List.length_drop, List.length_take]; rfl)) ?_; (with_reducible refine (impl_CodeFault.calls a0_0 a0_1 a0_2 t128 _ A5.out).mono ?_); rintro e w12 ⟨rfl, hb⟩; refine ⟨_, rfl, ?_⟩; have n0_ := Aside0.mk (blk_below (g := gb127) (o := .cells #[.int .i64 a0_0, .int .i64 a0_1, .int .i64 a0_2] 26 (0, 0)) (by (with_reducible repeat (first | refine blk_drewN ?_ _ | refine blk_drew ?_ | refine blk_alloc ?_ _)); exact BK127.out) hb); have n1_ := Aside0.mk (below_step (by repeat (first | (with_reducible first | exact HB.out | apply below_alloc | apply pw_below_drewN | apply below_drew1 | refine below_set ?_ GE127.out) | exact HB.out)) hb); clear BK127; clear HB; have BK127 := n0_; have HB := n1_; clear n0_ n1_; (try clear hb); (try clear hb2); (try clear hk); (try clear hi); have hcz13_0 : w12.cell? ⟨gb127, 0, none⟩ = some (.int .i64 a0_0) := (blk_cell BK127.out 0).trans rfl; have hcz13_1 : w12.cell? ⟨gb127, 1, none⟩ = some (.int .i64 a0_1) := (blk_cell BK127.out 1).trans rfl; have hcz13_2 : w12.cell? ⟨gb127, 2, none⟩ = some (.int .i64 a0_2) := (blk_cell BK127.out 2).trans rfl; have hfz13_0 := blk_frozen BK127.out 0; have hfz13_1 := blk_frozen BK127.out 1; have hfz13_2 := blk_frozen BK127.out 2) | (go_at_call 65; (with_reducible refine (impl_CodeSize.calls a0_0 a0_1 a0_2 t129 _ A10.out).mono ?_); rintro e w14 ⟨rfl, hb⟩; have n0_ := Aside0.mk (blk_below (g := gb127) (o := .cells #[.int .i64 a0_0, .int .i64 a0_1, .int .i64 a0_2] 26 (0, 0)) (by (with_reducible repeat (first | refine blk_drewN ?_ _ | refine blk_drew ?_ | refine blk_alloc ?_ _)); exact BK127.out) hb); have n1_ := Aside0.mk (below_step (by repeat (first | (with_reducible first | exact HB.out | apply below_alloc | apply pw_below_drewN | apply below_drew1 | refine below_set ?_ GE127.out) | exact HB.out)) hb); clear BK127; clear HB; have BK127 := n0_; have HB := n1_; clear n0_ n1_; (try clear hb); (try clear hb2); (try clear hk); (try clear hi)))
        go_meet
        case rel => exact ⟨_, (decide (a1 ≥ t129)), (by first | rfl | (simp; done) | (simp [*]; done)), H', ⟨by first | omega | exact Nat.le_refl _⟩, ⟨by (with_reducible repeat (first | refine blk_drewN ?_ _ | refine blk_drew ?_ | refine blk_alloc ?_ _)); exact BK127.out⟩, ⟨by repeat (first | (with_reducible first | exact HB.out | apply below_alloc | apply pw_below_drewN | apply below_drew1 | refine below_set ?_ GE127.out) | exact HB.out)⟩⟩
    · rw [if_neg c6] at H
      have c6b0 : (t128 == 0) = false := beq_eq_false_iff_ne.mpr c6
      have c6b1 : (t128 != 0) = true := bne_iff_ne.mpr c6
      (first | rw [c6b0] | (simp only [i64_w, i32_w]; rw [c6b0]) | skip)
      have H' := Aside0.mk H
      clear H
      have hcz15_0 : w4.cell? ⟨gb127, 0, none⟩ = some (.int .i64 a0_0) := (blk_cell BK127.out 0).trans rfl
      have hcz15_1 : w4.cell? ⟨gb127, 1, none⟩ = some (.int .i64 a0_1) := (blk_cell BK127.out 1).trans rfl
      have hcz15_2 : w4.cell? ⟨gb127, 2, none⟩ = some (.int .i64 a0_2) := (blk_cell BK127.out 2).trans rfl
      have hfz15_0 := blk_frozen BK127.out 0
      have hfz15_1 := blk_frozen BK127.out 1
      have hfz15_2 := blk_frozen BK127.out 2
      go_wp2_with (first | ((with_reducible refine gate_callee (f := 64) rfl ?_); refine goesL_ (some 9) rfl rfl Try.func64 (by kernel_rfl) rfl #[.agg #[.int .i64 a0_0, .int .i64 a0_1, .int .i64 a0_2]] rfl (by (try simp only [List.map_toArray, List.map_cons, List.map_nil]); first | done | rfl | (simp only [List.length_drop, List.length_take]; rfl)) ?_; (with_reducible refine (impl_CodeFault.calls a0_0 a0_1 a0_2 t128 _ A5.out).mono ?_); rintro e w16 ⟨rfl, hb⟩; refine ⟨_, rfl, ?_⟩; have n0_ := Aside0.mk (blk_below (g := gb127) (o := .cells #[.int .i64 a0_0, .int .i64 a0_1, .int .i64 a0_2] 26 (0, 0)) (by (with_reducible repeat (first | refine blk_drewN ?_ _ | refine blk_drew ?_ | refine blk_alloc ?_ _)); exact BK127.out) hb); have n1_ := Aside0.mk (below_step (by repeat (first | (with_reducible first | exact HB.out | apply below_alloc | apply pw_below_drewN | apply below_drew1 | refine below_set ?_ GE127.out) | exact HB.out)) hb); clear BK127; clear HB; have BK127 := n0_; have HB := n1_; clear n0_ n1_; (try clear hb); (try clear hb2); (try clear hk); (try clear hi)))
      go_meet
      case rel => exact ⟨_, (true), (by first | rfl | (simp; done) | (simp [*]; done)), H', ⟨by first | omega | exact Nat.le_refl _⟩, ⟨by (with_reducible repeat (first | refine blk_drewN ?_ _ | refine blk_drew ?_ | refine blk_alloc ?_ _)); exact BK127.out⟩, ⟨by repeat (first | (with_reducible first | exact HB.out | apply below_alloc | apply pw_below_drewN | apply below_drew1 | refine below_set ?_ GE127.out) | exact HB.out)⟩⟩
  case rest =>
    clear HC3
    try clear c1
    try clear p2
    try clear c6
    try clear c6b0
    try clear c6b1
    try clear c7
    try clear c7b0
    try clear c13
    try clear hcz11_0
    try clear hcz11_1
    try clear hcz11_2
    try clear hcz13_0
    try clear hcz13_1
    try clear hcz13_2
    try clear hcz15_0
    try clear hcz15_1
    try clear hcz15_2
    try clear hcz8_0
    try clear hcz8_1
    try clear hcz8_2
    try clear hfz11_0
    try clear hfz11_1
    try clear hfz11_2
    try clear hfz13_0
    try clear hfz13_1
    try clear hfz13_2
    try clear hfz15_0
    try clear hfz15_1
    try clear hfz15_2
    try clear hfz8_0
    try clear hfz8_1
    try clear hfz8_2
    obtain ⟨kq, x20_2, rfl, HA, HJ2, BK127, HB⟩ := hcut
    cases kq with
    | zero => exact absurd HA.out (by simp [impl_CodeRow.j0])
    | succ kj2 =>
      have H := HA.out
      clear HA
      simp only [impl_CodeRow.j0] at H
      by_cases c17 : x20_2 = true
      · subst c17
        have H1 : (some ([] : List Int)) = some r := by rw [if_pos rfl] at H; exact H
        clear H
        have H := H1
        clear H1
        obtain rfl := Option.some.inj H
        go_wp2
        go_ret
        exact ⟨_, by first | rfl | (simp [errW_none, errW_some] <;> rfl) | (simp [*, errW_none, errW_some] <;> rfl), by first | exact Kd.R_nil _ _ _ _ _ | exact Kd.N_nil _ _ _ _ _ | exact Kd.V_nil _ _ _ _ _ | exact Kd.Q_nil _ _ _ _ _ | exact Kd.S_nil _ _ _ _ _, by repeat (first | (with_reducible first | exact HB.out | apply below_alloc | apply pw_below_drewN | apply below_drew1 | refine below_set ?_ GE127.out) | exact HB.out)⟩
      · replace c17 := Bool.eq_false_iff.mpr c17
        subst c17
        have H1 : ((impl_newPlant.f a0_0 a0_1 a0_2).bind fun t133 => ((impl_plant_row.f t133 a1).bind fun t134 => (impl_CodeRow.l0 kj2 (([] : List Int)) t134 (t134.length : Int) 0))) = some r := by rw [if_neg (show ¬ (false = true) by decide)] at H; exact H
        clear H
        have H := H1
        clear H1
        obtain ⟨y130, hy130⟩ : ∃ y_ : List Int, y_ = (([] : List Int)) := ⟨_, rfl⟩
        replace H : ((impl_newPlant.f a0_0 a0_1 a0_2).bind fun t133 => ((impl_plant_row.f t133 a1).bind fun t134 => (impl_CodeRow.l0 kj2 y130 t134 (t134.length : Int) 0))) = some r := by first | (rw [hy130]; with_reducible exact H) | (have H2_ := (Option.bind_some _ _).symm.trans H; rw [hy130]; with_reducible exact H2_) | (have H2_ := (Option.bind_some _ _).symm.trans H; with_reducible exact H2_) | with_reducible exact H | (rw [hy130]; exact H) | exact H
        have Ny130 := Aside0.mk hy130
        clear hy130
        replace H := Option.bind_eq_some_iff.mp H
        obtain ⟨t133, A180, H⟩ := H
        replace H : ((impl_plant_row.f t133 a1).bind fun t134 => (impl_CodeRow.l0 kj2 y130 t134 (t134.length : Int) 0)) = some r := H
        have A18 := Aside0.mk A180
        clear A180
        replace H := Option.bind_eq_some_iff.mp H
        obtain ⟨t134, A190, H⟩ := H
        replace H : (impl_CodeRow.l0 kj2 y130 t134 (t134.length : Int) 0) = some r := H
        have A19 := Aside0.mk A190
        clear A190
        have H' := Aside0.mk H
        clear H
        go_wp2_with (first | ((with_reducible refine gate_dst (N := 21) rfl ?_); refine Kd.R_lit (Kd.int .i64) _ 2 ?hg (N := 21) ?hd (xs := ([] : List Int)) (inner := []) (ok := fun _ => True) (okp := fun _ => True) ?hr ?hp (fun _ hk => hk) trivial (Below.refl _ _) (Nat.le_refl _) (by simp) ?_; (case hd => rfl); (case hg => rfl); (case hr => first | (go_simp; done) | (go_simp; rfl)); (case hp => exact (Reps.none _ _)); intro v131 w20 ho21 hb hg_ hnew_; clear hg_ hnew_; (first | rw [← Ny130.out] at ho21 | (simp only [Int.reduceToNat] at ho21; rw [← Ny130.out] at ho21)); have n0_ := Aside0.mk (Kd.R_lower ho21 (below_size (by repeat (first | (with_reducible first | exact HB.out | apply below_alloc | apply pw_below_drewN | apply below_drew1 | refine below_set ?_ GE127.out) | exact HB.out)))); have n1_ := Aside0.mk (blk_below (g := gb127) (o := .cells #[.int .i64 a0_0, .int .i64 a0_1, .int .i64 a0_2] 26 (0, 0)) (by (with_reducible repeat (first | refine blk_drewN ?_ _ | refine blk_drew ?_ | refine blk_alloc ?_ _)); exact BK127.out) hb); have n2_ := Aside0.mk (below_step (by repeat (first | (with_reducible first | exact HB.out | apply below_alloc | apply pw_below_drewN | apply below_drew1 | refine below_set ?_ GE127.out) | exact HB.out)) hb); clear BK127; clear HB; have HO132 := n0_; have BK127 := n1_; have HB := n2_; clear n0_ n1_ n2_; clear hb ho21; have hcz22_0 : w20.cell? ⟨gb127, 0, none⟩ = some (.int .i64 a0_0) := (blk_cell BK127.out 0).trans rfl; have hcz22_1 : w20.cell? ⟨gb127, 1, none⟩ = some (.int .i64 a0_1) := (blk_cell BK127.out 1).trans rfl; have hcz22_2 : w20.cell? ⟨gb127, 2, none⟩ = some (.int .i64 a0_2) := (blk_cell BK127.out 2).trans rfl; have hfz22_0 := blk_frozen BK127.out 0; have hfz22_1 := blk_frozen BK127.out 1; have hfz22_2 := blk_frozen BK127.out 2) | ((with_reducible refine gate_callee (f := 66) rfl ?_); refine goesL_ (some 23) rfl rfl Try.func66 (by kernel_rfl) rfl #[.agg #[.int .i64 a0_0, .int .i64 a0_1, .int .i64 a0_2]] rfl (by (try simp only [List.map_toArray, List.map_cons, List.map_nil]); first | done | rfl | (simp only [List.length_drop, List.length_take]; rfl)) ?_; (with_reducible refine (impl_newPlant.calls a0_0 a0_1 a0_2 t133 _ A18.out).mono ?_); rintro e w23 ⟨gP, rfl, hgP_, hP_, hb⟩; refine ⟨_, rfl, ?_⟩; have HP := Aside0.mk hP_; clear hP_ hgP_; have n0_ := Aside0.mk (Kd.R_below (by (with_reducible repeat (first | apply Kd.R_alloc | apply Kd.R_drewN | apply Kd.R_drew)); exact HO132.out) hb); have n1_ := Aside0.mk (blk_below (g := gb127) (o := .cells #[.int .i64 a0_0, .int .i64 a0_1, .int .i64 a0_2] 26 (0, 0)) (by (with_reducible repeat (first | refine blk_drewN ?_ _ | refine blk_drew ?_ | refine blk_alloc ?_ _)); exact BK127.out) hb); have n2_ := Aside0.mk (below_step (by repeat (first | (with_reducible first | exact HB.out | apply below_alloc | apply pw_below_drewN | apply below_drew1 | refine below_set ?_ GE127.out) | exact HB.out)) hb); clear HO132; clear BK127; clear HB; have HO132 := n0_; have BK127 := n1_; have HB := n2_; clear n0_ n1_ n2_; (try clear hb); (try clear hb2); (try clear hk); (try clear hi)) | ((with_reducible refine gate_callee (f := 67) rfl ?_); refine goesL_ (some 25) rfl rfl Try.func67 (by kernel_rfl) rfl #[.pointer (some ⟨gP, 0, none⟩), .int .i64 a1] rfl (by (try simp only [List.map_toArray, List.map_cons, List.map_nil]); first | done | rfl | (simp only [List.length_drop, List.length_take]; rfl)) ?_; (with_reducible refine (impl_plant_row.calls gP a1 t134 _ A19.out HP.out).mono ?_); rintro e w24 ⟨v135, rfl, ho0, hb⟩; refine ⟨_, rfl, ?_⟩; have n0_ := Aside0.mk (Kd.R_below (by (with_reducible repeat (first | apply Kd.R_alloc | apply Kd.R_drewN | apply Kd.R_drew)); exact HO132.out) hb); have n1_ := Aside0.mk (Kd.R_lower ho0 (below_size (by repeat (first | (with_reducible first | exact HB.out | apply below_alloc | apply pw_below_drewN | apply below_drew1 | refine below_set ?_ GE127.out) | exact HB.out)))); have n2_ := Aside0.mk (blk_below (g := gb127) (o := .cells #[.int .i64 a0_0, .int .i64 a0_1, .int .i64 a0_2] 26 (0, 0)) (by (with_reducible repeat (first | refine blk_drewN ?_ _ | refine blk_drew ?_ | refine blk_alloc ?_ _)); exact BK127.out) hb); have n3_ := Aside0.mk (below_step (by repeat (first | (with_reducible first | exact HB.out | apply below_alloc | apply pw_below_drewN | apply below_drew1 | refine below_set ?_ GE127.out) | exact HB.out)) hb); clear HO132; clear BK127; clear HB; have HO132 := n0_; have HO136 := n1_; have BK127 := n2_; have HB := n3_; clear n0_ n1_ n2_ n3_; (try clear hb); (try clear hb2); (try clear hk); (try clear hi); (try clear ho0); obtain ⟨Ao25, co25, eo25⟩ := Kd.R_slice HO136.out; subst eo25))
        go_loopg [5, 27] kj2 (fun kq v5 v27 w' => ∃ (x5_2 : List Int) (x27_2 : Int), v27 = .int .i64 x27_2 ∧ Aside0 (impl_CodeRow.l0 kq x5_2 t134 (t134.length : Int) x27_2 = some r) ∧ Aside0 (kq ≤ kj2) ∧ Aside0 (Kd.R (Kd.int .i64) 2 w' w.heap.size (fun _ => True) v5 x5_2) ∧ Aside0 (Kd.R (Kd.int .u8) 5 w' w.heap.size (fun _ => True) (.slice Ao25 t134.length co25) t134) ∧ Aside0 (w'.heap[gb127]? = some (.cells #[.int .i64 a0_0, .int .i64 a0_1, .int .i64 a0_2] 26 (0, 0))) ∧ Aside0 (Below w.heap.size w w'))
        case atStart => exact ⟨(y130), (0), (by first | rfl | (simp; done) | (simp [*]; done)), H', ⟨Nat.le_refl _⟩, ⟨by (with_reducible repeat (first | apply Kd.R_alloc | apply Kd.R_drewN | apply Kd.R_drew)); exact HO132.out⟩, ⟨by (with_reducible repeat (first | apply Kd.R_alloc | apply Kd.R_drewN | apply Kd.R_drew)); exact HO136.out⟩, ⟨by (with_reducible repeat (first | refine blk_drewN ?_ _ | refine blk_drew ?_ | refine blk_alloc ?_ _)); exact BK127.out⟩, ⟨by repeat (first | (with_reducible first | exact HB.out | apply below_alloc | apply pw_below_drewN | apply below_drew1 | refine below_set ?_ GE127.out) | exact HB.out)⟩⟩
        case round =>
          clear H'
          try clear c1
          try clear p2
          try clear c6
          try clear c6b0
          try clear c6b1
          try clear c7
          try clear c7b0
          try clear c13
          try clear c17
          try clear hcz11_0
          try clear hcz11_1
          try clear hcz11_2
          try clear hcz13_0
          try clear hcz13_1
          try clear hcz13_2
          try clear hcz15_0
          try clear hcz15_1
          try clear hcz15_2
          try clear hcz22_0
          try clear hcz22_1
          try clear hcz22_2
          try clear hcz8_0
          try clear hcz8_1
          try clear hcz8_2
          try clear hfz11_0
          try clear hfz11_1
          try clear hfz11_2
          try clear hfz13_0
          try clear hfz13_1
          try clear hfz13_2
          try clear hfz15_0
          try clear hfz15_1
          try clear hfz15_2
          try clear hfz22_0
          try clear hfz22_1
          try clear hfz22_2
          try clear hfz8_0
          try clear hfz8_1
          try clear hfz8_2
          try clear p2
          obtain ⟨x5_2, x27_2, rfl, HA, HK2, HO_5, HO_25, BK127, HB⟩ := hrel
          cases gk with
          | zero => exact absurd HA.out (by simp [impl_CodeRow.l0])
          | succ k2 =>
            have H := HA.out
            clear HA
            simp only [impl_CodeRow.l0] at H
            by_cases c26 : x27_2 < (t134.length : Int)
            · rw [if_pos c26] at H
              have c26b0 : decide (x27_2 < (t134.length : Int)) = true := decide_eq_true c26
              clear c26
              by_cases c27 : 0 ≤ x27_2
              · rw [if_pos c27] at H
                have c27b0 : decide (0 ≤ x27_2) = true := decide_eq_true c27
                clear c27
                by_cases c28 : x27_2 < (t134.length : Int)
                · rw [if_pos c28] at H
                  have c28b0 : decide (x27_2 < (t134.length : Int)) = true := decide_eq_true c28
                  clear c28
                  by_cases c29 : x5_2.length < 17592186044416
                  · rw [if_pos c29] at H
                    have LMc29 := Aside0.mk c29
                    clear c29
                    obtain ⟨y138, hy138⟩ : ∃ y_ : List Int, y_ = (x5_2 ++ [wrap64 (rd t134 x27_2)]) := ⟨_, rfl⟩
                    replace H : (impl_CodeRow.l0 k2 y138 t134 (t134.length : Int) (wrap64 (x27_2 + 1))) = some r := by first | (rw [hy138]; with_reducible exact H) | (have H2_ := (Option.bind_some _ _).symm.trans H; rw [hy138]; with_reducible exact H2_) | (have H2_ := (Option.bind_some _ _).symm.trans H; with_reducible exact H2_) | with_reducible exact H | (rw [hy138]; exact H) | exact H
                    have Ny138 := Aside0.mk hy138
                    clear hy138
                    have H' := Aside0.mk H
                    clear H
                    have p137 : 0 ≤ (x27_2 : Int) := of_decide_eq_true (by first | (with_reducible assumption) | assumption)
                    have q137 : x27_2 < (t134.length : Int) := of_decide_eq_true (by first | (with_reducible assumption) | assumption)
                    obtain ⟨ad137, e137, hx137_0⟩ := Kd.at_int (Kd.R_reads' HO_25.out).2.2 x27_2 p137 q137
                    cases e137
                    replace p137 := eq_true p137
                    replace q137 := eq_true q137
                    go_wp2_with (first | ((with_reducible refine gate_builtin (b := .append) (xs := #[.tmp 31, .tmp 34]) rfl ?_); at_builtin; refine Kd.R_append (Kd.int .i64) (w0 := w) w.heap.size rfl (.tmp 31) (.tmp 34) 24 2 (.int .i64 0) 8 rfl Try.underlying24 info2 rfl (by decide) (by omega) u5 x5_2 (wrap64 (rd t134 x27_2)) [.int .i64 (wrap64 (rd t134 x27_2))] (fun _ => True) (fun _ => False) rfl rfl ?aP (fun _ hk => hk.elim) ?aF ?aO ?aB ?aS ?aL ?_; (case aP => exact rfl); (case aB => exact (by repeat (first | (with_reducible first | exact HB.out | apply below_alloc | apply pw_below_drewN | apply below_drew1 | refine below_set ?_ GE127.out) | exact HB.out))); (case aF => exact (fun _ _ => trivial)); (case aO => exact (by (with_reducible repeat (first | apply Kd.R_alloc | apply Kd.R_drewN | apply Kd.R_drew)); exact HO_5.out)); (case aS => exact (below_size (by repeat (first | (with_reducible first | exact HB.out | apply below_alloc | apply pw_below_drewN | apply below_drew1 | refine below_set ?_ GE127.out) | exact HB.out)))); (case aL => have := LMc29.out; omega); intro v139 w30 ho hb hg hat; rw [← Ny138.out] at ho; have n0_ := Aside0.mk (Kd.R_over' (by (with_reducible repeat (first | apply Kd.R_alloc | apply Kd.R_drewN | apply Kd.R_drew)); exact HO_25.out) (Kd.R_typed (by (with_reducible repeat (first | apply Kd.R_alloc | apply Kd.R_drewN | apply Kd.R_drew)); exact HO_5.out)) (by decide) hg); have n1_ := Aside0.mk (blk_grown (g := gb127) (o := .cells #[.int .i64 a0_0, .int .i64 a0_1, .int .i64 a0_2] 26 (0, 0)) (by (with_reducible repeat (first | refine blk_drewN ?_ _ | refine blk_drew ?_ | refine blk_alloc ?_ _)); exact BK127.out) hg (Kd.R_ne HO_5.out BK127.out (by decide))); have n2_ := Aside0.mk (hb); have n3_ := Aside0.mk (ho); clear HO_25; clear BK127; clear HB; clear HO_5; have HO_25 := n0_; have BK127 := n1_; have HB := n2_; have HO140 := n3_; clear n0_ n1_ n2_ n3_; clear ho hb hg hat))
                    go_roundg k2
                    case measure => have := HJ2.out; have := HK2.out; omega
                    case rel => exact ⟨(y138), (wrap64 (x27_2 + 1)), (by first | rfl | (simp; done) | (simp [*]; done)), H', ⟨by have := HJ2.out; have := HK2.out; omega⟩, ⟨by (with_reducible repeat (first | apply Kd.R_alloc | apply Kd.R_drewN | apply Kd.R_drew)); exact HO140.out⟩, ⟨by (with_reducible repeat (first | apply Kd.R_alloc | apply Kd.R_drewN | apply Kd.R_drew)); exact HO_25.out⟩, ⟨by (with_reducible repeat (first | refine blk_drewN ?_ _ | refine blk_drew ?_ | refine blk_alloc ?_ _)); exact BK127.out⟩, ⟨by repeat (first | (with_reducible first | exact HB.out | apply below_alloc | apply pw_below_drewN | apply below_drew1 | refine below_set ?_ GE127.out) | exact HB.out)⟩⟩
                  · rw [if_neg c29] at H
                    exact absurd H (by simp)
                · exact absurd (of_decide_eq_true c26b0) c28
              · rw [if_neg c27] at H
                exact absurd H (by simp)
            · rw [if_neg c26] at H
              have c26b0 : decide (x27_2 < (t134.length : Int)) = false := decide_eq_false c26
              clear c26
              obtain rfl := Option.some.inj H
              go_wp2
              go_ret
              exact ⟨_, by first | rfl | (simp [errW_none, errW_some] <;> rfl) | (simp [*, errW_none, errW_some] <;> rfl), by (with_reducible repeat (first | apply Kd.R_alloc | apply Kd.R_drewN | apply Kd.R_drew)); exact HO_5.out, by repeat (first | (with_reducible first | exact HB.out | apply below_alloc | apply pw_below_drewN | apply below_drew1 | refine below_set ?_ GE127.out) | exact HB.out)⟩

/-! ### laws_eqInt64S: function 14 -/
def laws_eqInt64S.l0 : Nat → List Int → List Int → Int → Option (Bool)
  | 0, _, _, _ => none
  | k + 1, x0, x1, x5 => if x5 < (x0.length : Int) then (if 0 ≤ x5 then (if x5 < (x1.length : Int) then (if (rd x0 x5) = (rd x1 x5) then (laws_eqInt64S.l0 k x0 x1 (wrap64 (x5 + 1))) else (some false)) else (none)) else (none)) else (some true)
def laws_eqInt64S.f (k : Nat) (l0 : List Int) (l1 : List Int) : Option (Bool) := if (l0.length : Int) = (l1.length : Int) then (laws_eqInt64S.l0 k l0 l1 0) else (some false)
theorem laws_eqInt64S.mono_l : ∀ k, (∀ y0 y1 y2, LeO (laws_eqInt64S.l0 k y0 y1 y2) (laws_eqInt64S.l0 (k + 1) y0 y1 y2))
  | 0 => fun _ _ _ r h => by simp [laws_eqInt64S.l0] at h
  | k + 1 => by
    have ih0 := laws_eqInt64S.mono_l k
    · intro y0 y1 y2
      unfold laws_eqInt64S.l0
      repeat' first
      | (with_reducible exact ih0 _ _ _)
      | (with_reducible exact LeO.refl _)
      | (with_reducible exact LeO.none _)
      | (with_reducible refine LeO.ite ?_ ?_)
      | (with_reducible refine LeO.bind ?_ (fun _ => ?_))
      | exact ih0 _ _ _
      | exact LeO.none _
      | refine LeO.ite ?_ ?_
      | refine LeO.bind ?_ (fun _ => ?_)
theorem laws_eqInt64S.mono : ∀ a0 a1 k, LeO (laws_eqInt64S.f k a0 a1) (laws_eqInt64S.f (k + 1) a0 a1) := by
  intro a0 a1 k
  have ih0 := laws_eqInt64S.mono_l k
  unfold laws_eqInt64S.f
  repeat' first
      | (with_reducible exact ih0 _ _ _)
      | (with_reducible exact LeO.refl _)
      | (with_reducible exact LeO.none _)
      | (with_reducible refine LeO.ite ?_ ?_)
      | (with_reducible refine LeO.bind ?_ (fun _ => ?_))
      | exact ih0 _ _ _
      | exact LeO.none _
      | refine LeO.ite ?_ ?_
      | refine LeO.bind ?_ (fun _ => ?_)
set_option maxHeartbeats 8000000 in
set_option maxRecDepth 100000 in
theorem laws_eqInt64S.calls (k : Nat) (A0 : Option Addr) (c0 : Nat) (l0 : List Int) (A1 : Option Addr) (c1 : Nat) (l1 : List Int) (r : Bool) (w : World) (hr0 : Kd.C (Kd.int .i64) w A0 l0.length l0) (hc0 : l0.length ≤ c0) (hr1 : Kd.C (Kd.int .i64) w A1 l1.length l1) (hc1 : l1.length ≤ c1) (h : laws_eqInt64S.f k l0 l1 = some r) :
    Calls Try.prog 14 #[.slice A0 l0.length c0, .slice A1 l1.length c1] w fun e w' => e = .returned (.bool r) ∧ Drawn0 w w' := by
  have HR0 := Aside0.mk hr0
  have HC0 := Aside0.mk hc0
  clear hr0 hc0
  have HR1 := Aside0.mk hr1
  have HC1 := Aside0.mk hc1
  clear hr1 hc1
  have H : (if (l0.length : Int) = (l1.length : Int) then (laws_eqInt64S.l0 k l0 l1 0) else (some false)) = some r := h
  clear h
  by_cases c3 : (l0.length : Int) = (l1.length : Int)
  · rw [if_pos c3] at H
    have c3b0 : ((l0.length : Int) == (l1.length : Int)) = true := beq_iff_eq.mpr c3
    have c3b1 : ((l0.length : Int) != (l1.length : Int)) = false := bne_eq_false_iff_eq.mpr c3
    have c3b2 : (l0.length == l1.length) = true := by first | simpa using c3 | (simp at c3 ⊢; omega)
    clear c3
    have H' := Aside0.mk H
    clear H
    go_enter Try.func14, Try.ntmps14
    go_wp2
    repeat (go_quiet (fail); try go_wp2)
    go_loopg [5] k (fun kq v5 w' => ∃ (x5_1 : Int), v5 = .int .i64 x5_1 ∧ Aside0 (laws_eqInt64S.l0 kq l0 l1 x5_1 = some r) ∧ Aside0 (kq ≤ k) ∧ Drawn0 w w')
    case atStart => exact ⟨(0), (by first | rfl | (simp; done) | (simp [*]; done)), H', ⟨Nat.le_refl _⟩, by repeat (first | exact Drawn0.refl _ | apply Drawn0.step)⟩
    case round =>
      clear H'
      try clear c1
      try clear p2
      try clear c3
      try clear c3b0
      try clear c3b1
      try clear c3b2
      obtain ⟨x5_1, rfl, HA, HK1, ⟨m1, rfl⟩⟩ := hrel
      cases gk with
      | zero => exact absurd HA.out (by simp [laws_eqInt64S.l0])
      | succ k1 =>
        have H := HA.out
        clear HA
        simp only [laws_eqInt64S.l0] at H
        by_cases c4 : x5_1 < (l0.length : Int)
        · rw [if_pos c4] at H
          have c4b0 : decide (x5_1 < (l0.length : Int)) = true := decide_eq_true c4
          clear c4
          by_cases c5 : 0 ≤ x5_1
          · rw [if_pos c5] at H
            have c5b0 : decide (0 ≤ x5_1) = true := decide_eq_true c5
            clear c5
            by_cases c6 : x5_1 < (l1.length : Int)
            · rw [if_pos c6] at H
              have c6b0 : decide (x5_1 < (l1.length : Int)) = true := decide_eq_true c6
              clear c6
              by_cases c7 : (rd l0 x5_1) = (rd l1 x5_1)
              · rw [if_pos c7] at H
                have c7b0 : ((rd l0 x5_1) == (rd l1 x5_1)) = true := beq_iff_eq.mpr c7
                have c7b1 : ((rd l0 x5_1) != (rd l1 x5_1)) = false := bne_eq_false_iff_eq.mpr c7
                clear c7
                have H' := Aside0.mk H
                clear H
                have p141 : 0 ≤ (x5_1 : Int) := of_decide_eq_true (by first | (with_reducible assumption) | assumption)
                have q141 : x5_1 < (l0.length : Int) := of_decide_eq_true (by first | (with_reducible assumption) | assumption)
                obtain ⟨ad141, e141, hx141_0⟩ := Kd.at_int HR0.out x5_1 p141 q141
                cases e141
                replace p141 := eq_true p141
                replace q141 := eq_true q141
                have p142 : 0 ≤ (x5_1 : Int) := of_decide_eq_true (by first | (with_reducible assumption) | assumption)
                have q142 : x5_1 < (l1.length : Int) := of_decide_eq_true (by first | (with_reducible assumption) | assumption)
                obtain ⟨ad142, e142, hx142_0⟩ := Kd.at_int HR1.out x5_1 p142 q142
                cases e142
                replace p142 := eq_true p142
                replace q142 := eq_true q142
                go_wp2
                repeat (go_quiet (fail); try go_wp2)
                go_roundg k1
                case measure => have := HK1.out; omega
                case rel => exact ⟨(wrap64 (x5_1 + 1)), (by first | rfl | (simp; done) | (simp [*]; done)), H', ⟨by have := HK1.out; omega⟩, by repeat (first | exact Drawn0.refl _ | apply Drawn0.step)⟩
              · rw [if_neg c7] at H
                have c7b0 : ((rd l0 x5_1) == (rd l1 x5_1)) = false := beq_eq_false_iff_ne.mpr c7
                have c7b1 : ((rd l0 x5_1) != (rd l1 x5_1)) = true := bne_iff_ne.mpr c7
                obtain rfl := Option.some.inj H
                have p141 : 0 ≤ (x5_1 : Int) := of_decide_eq_true (by first | (with_reducible assumption) | assumption)
                have q141 : x5_1 < (l0.length : Int) := of_decide_eq_true (by first | (with_reducible assumption) | assumption)
                obtain ⟨ad141, e141, hx141_0⟩ := Kd.at_int HR0.out x5_1 p141 q141
                cases e141
                replace p141 := eq_true p141
                replace q141 := eq_true q141
                have p142 : 0 ≤ (x5_1 : Int) := of_decide_eq_true (by first | (with_reducible assumption) | assumption)
                have q142 : x5_1 < (l1.length : Int) := of_decide_eq_true (by first | (with_reducible assumption) | assumption)
                obtain ⟨ad142, e142, hx142_0⟩ := Kd.at_int HR1.out x5_1 p142 q142
                cases e142
                replace p142 := eq_true p142
                replace q142 := eq_true q142
                go_wp2
                repeat (go_quiet (fail); try go_wp2)
                go_ret
                exact ⟨by first | rfl | (simp; done) | (simp [*]; done), by repeat (first | exact Drawn0.refl _ | apply Drawn0.step)⟩
            · rw [if_neg c6] at H
              exact absurd H (by simp)
          · rw [if_neg c5] at H
            exact absurd H (by simp)
        · rw [if_neg c4] at H
          have c4b0 : decide (x5_1 < (l0.length : Int)) = false := decide_eq_false c4
          clear c4
          obtain rfl := Option.some.inj H
          go_wp2
          repeat (go_quiet (fail); try go_wp2)
          go_ret
          exact ⟨by first | rfl | (simp; done) | (simp [*]; done), by repeat (first | exact Drawn0.refl _ | apply Drawn0.step)⟩
  · rw [if_neg c3] at H
    have c3b0 : ((l0.length : Int) == (l1.length : Int)) = false := beq_eq_false_iff_ne.mpr c3
    have c3b1 : ((l0.length : Int) != (l1.length : Int)) = true := bne_iff_ne.mpr c3
    have c3b2 : (l0.length == l1.length) = false := by first | simpa using c3 | (simp at c3 ⊢; omega)
    obtain rfl := Option.some.inj H
    go_enter Try.func14, Try.ntmps14
    go_wp2
    repeat (go_quiet (fail); try go_wp2)
    go_ret
    exact ⟨by first | rfl | (simp; done) | (simp [*]; done), by repeat (first | exact Drawn0.refl _ | apply Drawn0.step)⟩

/-! ### laws_markInt64S: function 15 -/
def laws_markInt64S.l0 : Nat → List Int → Int → Int → Option (Int × List Int)
  | 0, _, _, _ => none
  | k + 1, x0, x1, x5 => if x5 < (x0.length : Int) then (if 0 ≤ x5 then (laws_markInt64S.l0 k (x0.set (x5 : Int).toNat x1) (wrap64 (x1 + 1)) (wrap64 (x5 + 1))) else (none)) else (some (x1, x0))
def laws_markInt64S.f (k : Nat) (l0 : List Int) (a1 : Int) : Option (Int × List Int) := laws_markInt64S.l0 k l0 a1 0
theorem laws_markInt64S.mono_l : ∀ k, (∀ y0 y1 y2, LeO (laws_markInt64S.l0 k y0 y1 y2) (laws_markInt64S.l0 (k + 1) y0 y1 y2))
  | 0 => fun _ _ _ r h => by simp [laws_markInt64S.l0] at h
  | k + 1 => by
    have ih0 := laws_markInt64S.mono_l k
    · intro y0 y1 y2
      unfold laws_markInt64S.l0
      repeat' first
      | (with_reducible exact ih0 _ _ _)
      | (with_reducible exact LeO.refl _)
      | (with_reducible exact LeO.none _)
      | (with_reducible refine LeO.ite ?_ ?_)
      | (with_reducible refine LeO.bind ?_ (fun _ => ?_))
      | exact ih0 _ _ _
      | exact LeO.none _
      | refine LeO.ite ?_ ?_
      | refine LeO.bind ?_ (fun _ => ?_)
theorem laws_markInt64S.mono : ∀ a0 a1 k, LeO (laws_markInt64S.f k a0 a1) (laws_markInt64S.f (k + 1) a0 a1) := by
  intro a0 a1 k
  have ih0 := laws_markInt64S.mono_l k
  unfold laws_markInt64S.f
  repeat' first
      | (with_reducible exact ih0 _ _ _)
      | (with_reducible exact LeO.refl _)
      | (with_reducible exact LeO.none _)
      | (with_reducible refine LeO.ite ?_ ?_)
      | (with_reducible refine LeO.bind ?_ (fun _ => ?_))
      | exact ih0 _ _ _
      | exact LeO.none _
      | refine LeO.ite ?_ ?_
      | refine LeO.bind ?_ (fun _ => ?_)
set_option maxHeartbeats 8000000 in
set_option maxRecDepth 100000 in
theorem laws_markInt64S.calls (k : Nat) (P0_ : Nat → Prop) (u9000_ : Value) (l0 : List Int) (a1 : Int) (r1 : Int) (r2 : List Int) (w0 w : World) (hB : Below w0.heap.size w0 w) (ho0 : Kd.R (Kd.int .i64) 2 w w0.heap.size P0_ u9000_ l0) (h : laws_markInt64S.f k l0 a1 = some (r1, r2)) :
    Calls Try.prog 15 #[u9000_, .int .i64 a1] w fun e w' => e = .returned (.int .i64 r1) ∧ Kd.R (Kd.int .i64) 2 w' w0.heap.size (fun k_ => (P0_ k_ ∨ w.heap.size ≤ k_)) u9000_ r2 ∧ Below w0.heap.size w0 w' ∧ Kept w w' (fun k_ => P0_ k_) := by
  have HO0 := Aside0.mk (show Kd.R (Kd.int .i64) 2 w w0.heap.size (fun k_ => (P0_ k_ ∨ w.heap.size ≤ k_)) u9000_ l0 from Kd.R_mono ho0 (fun k_ hk => (.inl hk)))
  have HK := Aside0.mk (Kept.refl w (fun k_ => P0_ k_))
  have HW0 := Aside0.mk hB.size
  have HB := Aside0.mk hB
  clear hB
  have H : (laws_markInt64S.l0 k l0 a1 0) = some (r1, r2) := h
  clear h
  have H' := Aside0.mk H
  clear H
  go_enter Try.func15, Try.ntmps15
  go_wp2
  go_loopg [1, 5] k (fun kq v1 v5 w' => ∃ (x0_1 : List Int) (x1_1 : Int) (x5_1 : Int), v1 = .int .i64 x1_1 ∧ v5 = .int .i64 x5_1 ∧ Aside0 (laws_markInt64S.l0 kq x0_1 x1_1 x5_1 = some (r1, r2)) ∧ Aside0 (kq ≤ k) ∧ Aside0 (Kd.R (Kd.int .i64) 2 w' w0.heap.size (fun k_ => (P0_ k_ ∨ w.heap.size ≤ k_)) u9000_ x0_1) ∧ Aside0 (Kept w w' (fun k_ => P0_ k_)) ∧ Aside0 (Below w0.heap.size w0 w'))
  case atStart => exact ⟨(l0), (a1), (0), (by first | rfl | (simp; done) | (simp [*]; done)), (by first | rfl | (simp; done) | (simp [*]; done)), H', ⟨Nat.le_refl _⟩, ⟨by (with_reducible repeat (first | apply Kd.R_alloc | apply Kd.R_drewN | apply Kd.R_drew)); exact HO0.out⟩, ⟨by repeat (first | (with_reducible first | exact HK.out | apply Kept.alloc | apply Kept.drewN | apply Kept.drew) | exact HK.out)⟩, ⟨by repeat (first | (with_reducible first | exact HB.out | apply below_alloc | apply pw_below_drewN | apply below_drew1) | exact HB.out)⟩⟩
  case round =>
    clear H'
    try clear c1
    try clear p2
    obtain ⟨x0_1, x1_1, x5_1, rfl, rfl, HA, HK1, HO_0, HK, HB⟩ := hrel
    cases gk with
    | zero => exact absurd HA.out (by simp [laws_markInt64S.l0])
    | succ k1 =>
      have H := HA.out
      clear HA
      simp only [laws_markInt64S.l0] at H
      by_cases c3 : x5_1 < (x0_1.length : Int)
      · rw [if_pos c3] at H
        have c3b0 : decide (x5_1 < (x0_1.length : Int)) = true := decide_eq_true c3
        clear c3
        by_cases c4 : 0 ≤ x5_1
        · rw [if_pos c4] at H
          have c4b0 : decide (0 ≤ x5_1) = true := decide_eq_true c4
          clear c4
          obtain ⟨y143, hy143⟩ : ∃ y_ : List Int, y_ = (x0_1.set (x5_1 : Int).toNat x1_1) := ⟨_, rfl⟩
          replace H : (laws_markInt64S.l0 k1 y143 (wrap64 (x1_1 + 1)) (wrap64 (x5_1 + 1))) = some (r1, r2) := by first | (rw [hy143]; with_reducible exact H) | (have H2_ := (Option.bind_some _ _).symm.trans H; rw [hy143]; with_reducible exact H2_) | (have H2_ := (Option.bind_some _ _).symm.trans H; with_reducible exact H2_) | with_reducible exact H | (rw [hy143]; exact H) | exact H
          have Ny143 := Aside0.mk hy143
          clear hy143
          have H' := Aside0.mk H
          clear H
          obtain ⟨Ao6, co6, eo6⟩ := Kd.R_slice HO_0.out
          subst eo6
          have p5 : 0 ≤ (x5_1 : Int) := of_decide_eq_true (by first | (with_reducible assumption) | assumption)
          have q5 : (x5_1 : Int) < ((x0_1.length : Int) : Int) := of_decide_eq_true (by first | (with_reducible assumption) | assumption)
          obtain ⟨go5, co5, eo5, gb5, gl5, cl5, HG5⟩ := Kd.R_form HO_0.out (by omega)
          (first | cases eo5 | (injection eo5 with ea_ en_ ec_; (first | subst ea_ | (injection ea_ with ea_; subst ea_)); subst ec_; clear en_))
          have GB5 := Aside0.mk gb5
          have GG5 := Aside0.mk HG5
          clear gb5 gl5 HG5
          have HMgo5 := Aside0.mk (show (P0_ go5 ∨ w.heap.size ≤ go5) from (HO_0.out.1 _ rfl))
          obtain ⟨hx5_0, hf5_0⟩ := Kd.R_celln 0 HO_0.out (x5_1 : Int) p5 q5
          replace p5 := eq_true p5
          replace q5 := eq_true q5
          have HP7 := Kd.R_putg HO_0.out (x5_1 : Int) x1_1
          go_wp2_with (first | ((with_reducible refine gate_store (t := 2) (p := 15) rfl ?_); refine store_event (t := 2) (p := 15) (v := ?vo_w8) (w1 := (wr.setCell ⟨go5, (x5_1 : Int).toNat, none⟩ (.int .i64 x1_1))) ?hg ?ho ?hn ?hr ?_; (case ho => rfl); (case hg => rfl); (case hn => rfl); (case hr => first | (go_simp; done) | (go_simp; rfl)); intro w8 hw; have hg : wr.grownBy w8 (some go5) := (by rw [hw]; exact HP7.2); have hp_ : Kd.R (Kd.int .i64) 2 w8 w0.heap.size (fun k_ => (P0_ k_ ∨ w.heap.size ≤ k_)) (.slice (some ⟨go5, 0, none⟩) x0_1.length co6) y143 := (by rw [hw, Ny143.out]; exact HP7.1); clear HP7; have n0_ := Aside0.mk (hp_); have n1_ := Aside0.mk ((by rw [hw]; exact below_set (HB.out) GB5.out : Below w0.heap.size w0 w8)); have n2_ := Aside0.mk (Kept.of_grown (S := (fun k_ => P0_ k_)) hg (by repeat (first | (with_reducible first | exact HK.out | apply Kept.alloc | apply Kept.drewN | apply Kept.drew) | exact HK.out)) (fun k_ e_ => (HO_0.out.1 k_ e_))); clear HO_0; clear HB; clear HK; have HO_0 := n0_; have HB := n1_; have HK := n2_; clear n0_ n1_ n2_; clear hg hw hp_))
          go_roundg k1
          case measure => have := HK1.out; omega
          case rel => exact ⟨(y143), (wrap64 (x1_1 + 1)), (wrap64 (x5_1 + 1)), (by first | rfl | (simp; done) | (simp [*]; done)), (by first | rfl | (simp; done) | (simp [*]; done)), H', ⟨by have := HK1.out; omega⟩, ⟨by (with_reducible repeat (first | apply Kd.R_alloc | apply Kd.R_drewN | apply Kd.R_drew)); exact HO_0.out⟩, ⟨by repeat (first | (with_reducible first | exact HK.out | apply Kept.alloc | apply Kept.drewN | apply Kept.drew) | exact HK.out)⟩, ⟨by repeat (first | (with_reducible first | exact HB.out | apply below_alloc | apply pw_below_drewN | apply below_drew1) | exact HB.out)⟩⟩
        · rw [if_neg c4] at H
          exact absurd H (by simp)
      · rw [if_neg c3] at H
        have c3b0 : decide (x5_1 < (x0_1.length : Int)) = false := decide_eq_false c3
        clear c3
        simp only [Option.some.injEq, Prod.mk.injEq] at H
        obtain ⟨rfl, rfl⟩ := H
        obtain ⟨Ao9, co9, eo9⟩ := Kd.R_slice HO_0.out
        subst eo9
        go_wp2
        go_ret
        exact ⟨by first | rfl | (simp [errW_none, errW_some] <;> rfl) | (simp [*, errW_none, errW_some] <;> rfl), by (with_reducible repeat (first | apply Kd.R_alloc | apply Kd.R_drewN | apply Kd.R_drew)); exact HO_0.out, by repeat (first | (with_reducible first | exact HB.out | apply below_alloc | apply pw_below_drewN | apply below_drew1) | exact HB.out), by repeat (first | (with_reducible first | exact HK.out | apply Kept.alloc | apply Kept.drewN | apply Kept.drew) | exact HK.out)⟩

end Go.Proofs.Ytcpmlelejlmpdaa.QFnExactCodeRow
