-- A text of this session, printed by a program of its own (wip/tools: xpatch.py, xprint.sh, mkq.py). No condition.
import Derived.RangeFuncNested
import Derived.RangeFuncBound
import Derived.RangeFuncCalls
import Derived.RangeFuncLeaves
import Derived.RangeFuncBox
import Derived.Shelf.Abstract
import Derived.Shelf.RegionOpen
import Derived.WalkKit
import Derived.OwnWalkIn
import Derived.TacticsInMore
import Derived.LoopNIn
import Derived.LoopIn
import Derived.RegionIn
import Derived.BigRegionIn
import Derived.Maps.OwnIn
import Derived.Test.YtcpmlelejlmpdaaQFnRangesx0
import Derived.Test.YtcpmlelejlmpdaaQFnRangesx1
namespace Go.Proofs.Ytcpmlelejlmpdaa.QFnRanges
open Go.RowKit Go.Proofs.YtcpmlelejlmpdaaW.PrintWords Go.Proofs.YtcpmlelejlmpdaaW.PrintLast Go.Proofs.YtcpmlelejlmpdaaW.PrintMore
attribute [local go_sem] max2_int min2_int max_two min_two max_three min_three max_four min_four   -- for this text's walks alone
set_option linter.unusedVariables false
set_option linter.unusedSimpArgs false

/-! ### impl_RangeReads: function 36 -/
theorem rrInfo84 : (Try.prog.info? 84).map (fun i => (i.zero, i.size, i.bytes)) = some (some (.agg #[(.int .i64 0), (.int .i64 0), (.int .i64 0), (.int .i64 0)]), 4, 32) := by kernel_rfl
/-- A piece of a range: P bytes are a stripe, u a shard's; the range ends at e. -/
def rrCount (P u e x : Int) : Int := if e - x < u - x % P % u then e - x else u - x % P % u
def rrItem (P u e x : Int) : S84 := ⟨x / P, x % P / u, x % P % u, rrCount P u e x⟩
def rrL (P u e : Int) : Nat → Int → List S84
  | 0, _ => []
  | n + 1, x => if x < e then rrItem P u e x :: rrL P u e n (x + rrCount P u e x) else []
theorem rrL_end {P u e x : Int} {n : Nat} (h : e ≤ x) : rrL P u e n x = [] := by
  cases n with
  | zero => rfl
  | succ n => rw [rrL, if_neg (by omega)]
section
attribute [local go_sem] Oper.semAt_some
def rrEnc (x : S84) : Array Value := #[.agg #[.int .i64 x.f0, .int .i64 x.f1, .int .i64 x.f2, .int .i64 x.f3]]
/-- The slice in the box B lies in block k. -/
def rrRow (B : Nat) (W : World) (k : Nat) : Prop := ∃ v, W.cell? ⟨B, 1, none⟩ = some v ∧ v.ownBlock = some k
/-- What a round keeps: each block but the box B and the slice's. -/
structure rrKp (B : Nat) (A W : World) : Prop where
  size : A.heap.size ≤ W.heap.size
  wf : (∀ k, rrRow B A k → k < A.heap.size) → ∀ k, rrRow B W k → k < W.heap.size
  row : ∀ k, k < A.heap.size → rrRow B W k → rrRow B A k
  keep : ∀ k o, k ≠ B → ¬ rrRow B A k → A.heap[k]? = some o → o.isCells = true → W.heap[k]? = some o
theorem rrKp.trans {B : Nat} {X Y Z : World} (h : rrKp B X Y) (k : rrKp B Y Z) : rrKp B X Z where
  size := Nat.le_trans h.size k.size
  wf := fun q => k.wf (h.wf q)
  row := fun i hi hr => h.row i hi (k.row i (Nat.lt_of_lt_of_le hi h.size) hr)
  keep := fun i o hi hr ho hc => k.keep i o hi (fun q => hr (h.row i (Array.getElem?_eq_some_iff.1 ho).1 q)) (h.keep i o hi hr ho hc) hc
theorem rrRow_block {B k : Nat} {X Y : World} (h : Y.heap[B]? = X.heap[B]?) (hr : rrRow B Y k) : rrRow B X k := by
  obtain ⟨v, hv, ho⟩ := hr
  refine ⟨v, ?_, ho⟩
  rw [← hv]
  simp [World.cell?, h]
theorem rrKp.putObj {B : Nat} (W : World) (l : Nat) (o o' : Obj) (hl : B < l) (ho : W.heap[l]? = some o) (hc : o.isCells = false) : rrKp B W (W.putObj l o') := by
  have hg := grownBy_putObj' W l o'
  have hsz : W.heap.size ≤ (W.putObj l o').heap.size := by simp [World.putObj]
  have hB : (W.putObj l o').heap[B]? = W.heap[B]? := hg.block B (Nat.lt_trans hl (Array.getElem?_eq_some_iff.1 ho).1) (by simp; omega)
  refine ⟨hsz, fun q k hk => Nat.lt_of_lt_of_le (q k (rrRow_block hB hk)) hsz, fun k _ hk => rrRow_block hB hk, fun k u _ _ hu hcu => ?_⟩
  rw [hg.block k (Array.getElem?_eq_some_iff.1 hu).1 (by rintro e; injection e with e; subst e; rw [ho] at hu; injection hu with hu; subst hu; rw [hc] at hcu; exact Bool.noConfusion hcu)]
  exact hu
set_option maxHeartbeats 8000000 in
set_option maxRecDepth 100000 in
theorem rr_iter (n : Nat) (l bf bc bn : Nat) (K C1 C2 u size from_ count e P : Int) (N : Nat) (hP : wrap64 (K * u) = P) (hP1 : 1 ≤ P) (hP2 : P ≤ 1000000000000) (hu1 : 1 ≤ u) (hu2 : u ≤ 1000000000000) (hs0 : 0 ≤ size) (hs : size ≤ 1000000000000) (hf0 : 0 ≤ from_) (hfs : from_ < size) (hc0 : 0 ≤ count) (he : e = if count < size - from_ then from_ + count else size) (hN : e - from_ ≤ N) (J Jx : List S84 → World → Prop) (hn : 1 ≤ n) (B : Nat)
    (hY : ∀ pre x W, J pre W → pre.length < (rrL P u e N from_).length → YieldAt Fence.wide (n - 1) Try.prog l (rrEnc x) W fun en W' =>
      (en = .returned (.bool true) ∧ J (pre ++ [x]) W' ∧ rrKp B W W') ∨ (en = .returned (.bool false) ∧ Jx (pre ++ [x]) W'))
    (W : World) (hJ : AbidesFrom W.heap.size J) (hBl : B < W.heap.size) (hr0 : ∀ k, ¬ rrRow B W k)
    (h1 : W.heap[bf]? = some (.cells #[.int .i64 from_] 2 (0, 0))) (h2 : W.heap[bn]? = some (.cells #[.int .i64 count] 2 (0, 0)))
    (h3 : W.heap[bc]? = some (.cells #[.int .i64 K, .int .i64 C1, .int .i64 C2, .int .i64 u, .int .i64 size] 118 (0, 0))) (hBc : bc ≠ B) (h0 : J [] W) :
    CallsIn Fence.wide n Try.prog 116 #[.func (.yield l) #[] #[], .pointer (some ⟨bf, 0, none⟩), .pointer (some ⟨bc, 0, none⟩), .pointer (some ⟨bn, 0, none⟩)] W fun en W' => (∃ v, en = .returned v) ∧
      ((∃ ys, ys = rrL P u e N from_ ∧ J ys W') ∨ (∃ pre, pre <+: rrL P u e N from_ ∧ Jx pre W')) := by
  have HJ := Aside0.mk hJ
  have HY := Aside0.mk hY
  have HN := Aside0.mk hN
  have HE := Aside0.mk he
  have HP := Aside0.mk hP
  have HR : Aside0 (∀ k, rrRow B W k → W.heap.size ≤ k ∧ k < W.heap.size) := ⟨fun k hk => absurd hk (hr0 k)⟩
  have hlt3 := blk_lt h3
  have HC := Aside0.mk h3
  have h1_ : W.cell? ⟨bf, 0, none⟩ = some (.int .i64 from_) := (blk_cell h1 0).trans rfl
  have h2_ : W.cell? ⟨bn, 0, none⟩ = some (.int .i64 count) := (blk_cell h2 0).trans rfl
  have h3_ : W.cell? ⟨bc, 4, none⟩ = some (.int .i64 size) := (blk_cell h3 4).trans rfl
  clear hJ hY hN he hP h1 h2 h3 hr0
  refine callsIn_of_wp Try.func116 rfl trivial ?_ rfl
  simp only [Try.ntmps116, List.size_toArray, List.length_cons, List.length_nil, Nat.reduceAdd, Nat.reduceSub, Array.replicate_succ, Array.replicate_zero, List.push_toArray, List.append_toArray, List.nil_append, List.cons_append]
  by_cases hcs : count < size - from_
  case' pos =>
    have hE := Aside0.mk (show from_ + count = e by rw [HE.out, if_pos hcs])
    have he1 : from_ ≤ e := by have := hE.out; omega
    have he2 : e ≤ 1000000000000 := by have := hE.out; omega
    gi_wp2
    rw [hE.out]
  case' neg =>
    have hE := Aside0.mk (show size = e by rw [HE.out, if_neg hcs])
    have he1 : from_ ≤ e := by have := hE.out; omega
    have he2 : e ≤ 1000000000000 := by have := hE.out; omega
    gi_wp2
    rw [hE.out]
  all_goals
    clear h1_ h2_ h3_
    gi_loopw [6] (fun v6 wr => ∃ (pre : List S84) (x : Int) (k : Nat), v6 = .int .i64 x ∧ from_ ≤ x ∧ x ≤ e ∧ e - x ≤ k ∧ Aside0 (rrL P u e N from_ = pre ++ rrL P u e k x) ∧ Aside0 (J pre wr) ∧ Aside0 (∀ k, rrRow B wr k → W.heap.size ≤ k ∧ k < wr.heap.size) ∧ Aside0 (wr.heap[bc]? = some (.cells #[.int .i64 K, .int .i64 C1, .int .i64 C2, .int .i64 u, .int .i64 size] 118 (0, 0))) ∧ W.heap.size ≤ wr.heap.size) (fun v6 _ => (e - intOf v6).toNat)
    case atStart => exact ⟨[], from_, N, rfl, Int.le_refl _, he1, HN.out, ⟨rfl⟩, ⟨h0⟩, HR, HC, Nat.le_refl _⟩
    case round =>
      clear h0 HR HC
      obtain ⟨pre, x, k, rfl, hx1, hx2, hk, HX, HJs, HR, HC, hsz⟩ := hrel
      have hd1 : wr.cell? ⟨bc, 0, none⟩ = some (.int .i64 K) := (blk_cell HC.out 0).trans rfl
      have hd3 : wr.cell? ⟨bc, 3, none⟩ = some (.int .i64 u) := (blk_cell HC.out 3).trans rfl
      by_cases hlt : x < e
      · have c0 : decide (x < e) = true := decide_eq_true hlt
        have hp0 : (P == 0) = false := beq_eq_false_iff_ne.mpr (by omega)
        have hu0 : (u == 0) = false := beq_eq_false_iff_ne.mpr (by omega)
        have hw0 : 0 ≤ x := by omega
        have hz : ¬ wrap64 (K * u) = 0 := by rw [HP.out]; omega
        gi_wp2
        have hq : wrap64 (x.tdiv P) = x / P := by
          rw [Int.tdiv_eq_ediv_of_nonneg hw0]
          have q1 : 0 ≤ x / P := Int.ediv_nonneg hw0 (by omega)
          have q2 : x / P ≤ x := Int.ediv_le_self _ hw0
          unfold wrap64; omega
        rw [HP.out, hq]
        clear hq
        obtain ⟨y, hy⟩ : ∃ y, x % P = y := ⟨_, rfl⟩
        have hy0 : 0 ≤ y := by rw [← hy]; exact Int.emod_nonneg _ (by omega)
        have hy1 : y < P := by rw [← hy]; exact Int.emod_lt_of_pos _ (by omega)
        rw [hy]
        have HY2 := Aside0.mk hy
        clear hy
        have hb3 : bc < wr.heap.size := World.block_lt_of_cell? _ _ hd3
        have hb4 : bc ≠ wr.heap.size := by omega
        have hb5 : ¬ wr.heap.size = bc := by omega
        gi_region
        have hm0 : 0 ≤ y % u := Int.emod_nonneg _ (by omega)
        have hm1 : y % u < u := Int.emod_lt_of_pos _ (by omega)
        obtain ⟨k, rfl⟩ : ∃ m, k = m + 1 := ⟨k - 1, by omega⟩
        have HX2 : Aside0 (rrL P u e N from_ = pre ++ rrItem P u e x :: rrL P u e k (x + rrCount P u e x)) := ⟨by rw [HX.out, rrL, if_pos hlt]⟩
        have hlen : pre.length < (rrL P u e N from_).length := by rw [HX2.out]; simp
        clear HX
        by_cases hmin : e - x < u - y % u
        case' pos => have HCN := Aside0.mk (show rrCount P u e x = e - x by unfold rrCount; rw [HY2.out, if_pos hmin])
        case' neg => have HCN := Aside0.mk (show rrCount P u e x = u - y % u by unfold rrCount; rw [HY2.out, if_neg hmin])
        all_goals
          obtain ⟨w1, hw1⟩ : ∃ w1, (wr.alloc (.cells #[.int .i64 (x / P), .int .i64 (y / u), .int .i64 (y % u), .int .i64 (rrCount P u e x)] 84)).drew = w1 := ⟨_, rfl⟩
          have hJ1 : J pre w1 := by rw [← hw1]; exact HJ.out pre _ _ none (HJ.out pre _ _ none HJs.out (World.grownBy_alloc wr _ none) (by simp)) ⟨rfl, rfl, rfl, Nat.le_refl _, fun _ _ _ => rfl⟩ (by simp)
          have hb1 : w1.heap[wr.heap.size]? = some (.cells #[.int .i64 (x / P), .int .i64 (y / u), .int .i64 (y % u), .int .i64 (rrCount P u e x)] 84 (0, 0)) := by rw [← hw1]; exact blk_drew (blk_new wr _)
          have hcb1 : w1.heap[bc]? = some (.cells #[.int .i64 K, .int .i64 C1, .int .i64 C2, .int .i64 u, .int .i64 size] 118 (0, 0)) := by rw [← hw1]; exact blk_drew (blk_alloc HC.out _)
          have hs1 : w1.heap.size = wr.heap.size + 1 := by rw [← hw1]; simp
          have hR1 : ∀ k, rrRow B w1 k → W.heap.size ≤ k ∧ k < wr.heap.size := fun k hk => HR.out k (rrRow_block (by rw [← hw1]; exact (Below.heap_alloc wr _ B (by omega))) hk)
          obtain ⟨fn, tmps, assign, body, hy, hR⟩ := HY.out pre (rrItem P u e x) w1 hJ1 hlen
          dsimp only [rrEnc, rrItem] at hy
          rw [HY2.out, HCN.out, ← hw1, HCN.out] at hy
          have HRR := Aside0.mk hR
          have HW1 := Aside0.mk hw1
          have HB1 := Aside0.mk hb1
          have HCB := Aside0.mk hcb1
          have HR1 := Aside0.mk hR1
          have HS1 := Aside0.mk hs1
          clear hR hJ1 hw1 hb1 hcb1 hR1 hs1 HJs
          gi_wp2
          rw [← HCN.out, HW1.out]
          refine HRR.out.mono ?_
          rintro en W3 (⟨rfl, hJ3, hk3⟩ | ⟨rfl, hJx3⟩)
          · have g3 := hk3.keep _ _ (by omega) (fun q => by have := (HR1.out _ q).2; omega) HB1.out rfl
            have hc3 : W3.cell? ⟨wr.heap.size, 3, none⟩ = some (.int .i64 (rrCount P u e x)) := (blk_cell g3 3).trans rfl
            have hR3 : ∀ k, rrRow B W3 k → W.heap.size ≤ k ∧ k < W3.heap.size := fun k hk => by
              have q2 := hk3.wf (fun j hj => by have := (HR1.out j hj).2; have := HS1.out; omega) k hk
              rcases Nat.lt_or_ge k w1.heap.size with q | q
              · exact ⟨(HR1.out k (hk3.row k q hk)).1, q2⟩
              · exact ⟨by have := HS1.out; omega, q2⟩
            have hC3 := hk3.keep _ _ hBc (fun q => by have := (HR1.out _ q).1; omega) HCB.out rfl
            have hs3 : W.heap.size ≤ W3.heap.size := by have := hk3.size; have := HS1.out; omega
            have hcc1 : 1 ≤ rrCount P u e x := by have := HCN.out; omega
            have hcc2 : rrCount P u e x ≤ e - x := by have := HCN.out; omega
            obtain ⟨c, hcc⟩ : ∃ c, rrCount P u e x = c := ⟨_, rfl⟩
            rw [hcc] at hc3 hcc1 hcc2 ⊢
            have HCC := Aside0.mk hcc
            have HR3 := Aside0.mk hR3
            have HC3 := Aside0.mk hC3
            clear hcc hR3 hC3 g3
            gi_wp2
            go_roundw
            case rel => exact ⟨pre ++ [rrItem P u e x], x + c, k, rfl, by omega, by omega, by omega, ⟨by rw [HX2.out, HCC.out]; simp⟩, ⟨hJ3⟩, HR3, HC3, hs3⟩
            case measure => simp [intOf]; omega
          · gi_wp2
            refine bodyPost_ret (results_none rfl _ _ _) rfl ?_
            exact ⟨⟨_, rfl⟩, .inr ⟨pre ++ [rrItem P u e x], ⟨rrL P u e k (x + rrCount P u e x), by rw [HX2.out]; simp⟩, hJx3⟩⟩
      · gi_wp2
        go_end0
        obtain rfl : x = e := by omega
        refine ⟨⟨_, rfl⟩, .inl ?_⟩
        rw [HX.out, rrL_end (Int.le_refl _), List.append_nil]
        exact HJs.out
theorem rrL_len (P u e : Int) : ∀ (n : Nat) (x : Int), (rrL P u e n x).length ≤ n
  | 0, _ => Nat.le_refl _
  | n + 1, x => by
    rw [rrL]
    split
    · have := rrL_len P u e n (x + rrCount P u e x)
      rw [List.length_cons]
      omega
    · exact Nat.zero_le _
def rrEnd (size from_ count : Int) : Int := if count < size - from_ then from_ + count else size
def rrAll (P u size from_ count : Int) : List S84 := if from_ < size then rrL P u (rrEnd size from_ count) (rrEnd size from_ count - from_).toNat from_ else []
theorem rrAll_len (P u size from_ count : Int) (h0 : 0 ≤ from_) (h1 : size ≤ 1000000000000) : (rrAll P u size from_ count).length ≤ 1000000000000 := by
  unfold rrAll
  split
  · refine Nat.le_trans (rrL_len _ _ _ _ _) ?_
    unfold rrEnd
    split <;> omega
  · exact Nat.zero_le _
set_option maxHeartbeats 8000000 in
set_option maxRecDepth 100000 in
theorem rr_iter0 (n : Nat) (l bf bc bn : Nat) (K C1 C2 u size from_ : Int) (hfs : size ≤ from_) (J Jx : List S84 → World → Prop)
    (W : World) (h1 : W.heap[bf]? = some (.cells #[.int .i64 from_] 2 (0, 0)))
    (h3 : W.heap[bc]? = some (.cells #[.int .i64 K, .int .i64 C1, .int .i64 C2, .int .i64 u, .int .i64 size] 118 (0, 0))) (h0 : J [] W) :
    CallsIn Fence.wide n Try.prog 116 #[.func (.yield l) #[] #[], .pointer (some ⟨bf, 0, none⟩), .pointer (some ⟨bc, 0, none⟩), .pointer (some ⟨bn, 0, none⟩)] W fun en W' => (∃ v, en = .returned v) ∧
      ((∃ ys, ys = ([] : List S84) ∧ J ys W') ∨ (∃ pre, pre <+: ([] : List S84) ∧ Jx pre W')) := by
  have HJ := Aside0.mk h0
  have h1_ : W.cell? ⟨bf, 0, none⟩ = some (.int .i64 from_) := (blk_cell h1 0).trans rfl
  have h3_ : W.cell? ⟨bc, 4, none⟩ = some (.int .i64 size) := (blk_cell h3 4).trans rfl
  clear h1 h3 h0
  refine callsIn_of_wp Try.func116 rfl trivial ?_ rfl
  simp only [Try.ntmps116, List.size_toArray, List.length_cons, List.length_nil, Nat.reduceAdd, Nat.reduceSub, Array.replicate_succ, Array.replicate_zero, List.push_toArray, List.append_toArray, List.nil_append, List.cons_append]
  gi_wp2
  refine bodyPost_ret (results_none rfl _ _ _) rfl ?_
  exact ⟨⟨_, rfl⟩, .inl ⟨_, rfl, HJ.out⟩⟩
theorem rr_stops (n : Nat) (hn : 1 ≤ n) (bf bc bn B : Nat) (K C1 C2 u size from_ count P : Int) (hP : wrap64 (K * u) = P) (hP1 : 1 ≤ P) (hP2 : P ≤ 1000000000000) (hu1 : 1 ≤ u) (hu2 : u ≤ 1000000000000) (hs0 : 0 ≤ size) (hs : size ≤ 1000000000000) (hf0 : 0 ≤ from_) (hc0 : 0 ≤ count)
    (w : World) (hBl : B < w.heap.size) (hr0 : ∀ k, ¬ rrRow B w k)
    (h1 : w.heap[bf]? = some (.cells #[.int .i64 from_] 2 (0, 0))) (h2 : w.heap[bn]? = some (.cells #[.int .i64 count] 2 (0, 0)))
    (h3 : w.heap[bc]? = some (.cells #[.int .i64 K, .int .i64 C1, .int .i64 C2, .int .i64 u, .int .i64 size] 118 (0, 0))) (hBc : bc ≠ B) :
    SeqStopsK Fence.wide n Try.prog 116 #[.pointer (some ⟨bf, 0, none⟩), .pointer (some ⟨bc, 0, none⟩), .pointer (some ⟨bn, 0, none⟩)] rrEnc (rrKp B) (fun ys => ys = rrAll P u size from_ count) (fun pre => pre <+: rrAll P u size from_ count) (rrAll P u size from_ count).length w := by
  intro l J Jx W hW hJ hJx hY h0
  have g1 := blk_below h1 hW
  have g2 := blk_below h2 hW
  have g3 := blk_below h3 hW
  have hr : ∀ k, ¬ rrRow B W k := fun k hk => hr0 k (rrRow_block (hW.block B hBl) hk)
  have hBW : B < W.heap.size := Nat.lt_of_lt_of_le hBl hW.size
  unfold rrAll at hY ⊢
  by_cases hfs : from_ < size
  · rw [if_pos hfs] at hY ⊢
    exact rr_iter n l bf bc bn K C1 C2 u size from_ count (rrEnd size from_ count) P _ hP hP1 hP2 hu1 hu2 hs0 hs hf0 hfs hc0 rfl (by unfold rrEnd; split <;> omega) J Jx hn B hY W hJ hBW hr g1 g2 g3 hBc h0
  · rw [if_neg hfs]
    exact rr_iter0 n l bf bc bn K C1 C2 u size from_ (by omega) J Jx W g1 g3 h0
set_option maxHeartbeats 8000000 in
set_option maxRecDepth 100000 in
theorem rr_maker (n : Nat) (K C1 C2 u size from_ count : Int) (w : World) :
    CallsIn Fence.wide n Try.prog 88 #[.agg #[.int .i64 K, .int .i64 C1, .int .i64 C2, .int .i64 u, .int .i64 size], .int .i64 from_, .int .i64 count] w fun e w' =>
      e = .returned (.func (.func 116) #[] #[.pointer (some ⟨w.heap.size + 1, 0, none⟩), .pointer (some ⟨w.heap.size, 0, none⟩), .pointer (some ⟨w.heap.size + 1 + 1, 0, none⟩)]) ∧
      w' = ((w.alloc (.cells #[.int .i64 K, .int .i64 C1, .int .i64 C2, .int .i64 u, .int .i64 size] 118)).alloc (.cells #[.int .i64 from_] 2)).alloc (.cells #[.int .i64 count] 2) := by
  refine callsIn_of_wp Try.func88 rfl trivial ?_ rfl
  simp only [Try.ntmps88, List.size_toArray, List.length_cons, List.length_nil, Nat.reduceAdd, Nat.reduceSub, Array.replicate_succ, Array.replicate_zero, List.push_toArray, List.append_toArray, List.nil_append, List.cons_append]
  gi_wp2
  go_ret
  exact ⟨rfl, rfl⟩
end
section
attribute [local go_sem] Oper.semAt_some
theorem rr_appendIn {F : Fence} {nF : Nat} {P : Program} {ops : Array Oper} {rest : List Oper} {o : Oper} {a : Act} {Q : Exit → Act → World → Prop} {W : World} (base : Nat) (hgd : o.guard = none) (s x : Operand)
    (ho : o.op = .call { callee := .builtin .append, args := #[s, x], argTypes := #[54, 54] })
    (ht : P.underlying 54 = some (.slice 84)) (hinfo : (P.info? 84).map (fun i => (i.zero, i.size, i.bytes)) = some (some (.agg #[(.int .i64 0), (.int .i64 0), (.int .i64 0), (.int .i64 0)]), 4, 32))
    (v : Value) (xs : List S84) (p : S84) (hs : a.eval s = v) (hx : a.eval x = .slice (some ⟨W.heap.size, 0, none⟩) 1 1)
    (HO : k84.R 84 W base (fun _ => True) v xs) (hbase : base ≤ W.heap.size) (hl : (xs.length + 1) * 32 ≤ 140737488355328)
    (h : ∀ v1 w1, (∃ g c, v1 = .slice (some ⟨g, 0, none⟩) (xs.length + 1) c) → k84.R 84 w1 base (fun _ => True) v1 (xs ++ [p]) → W.grownBy w1 v.ownBlock → (v1.ownBlock = v.ownBlock ∨ ∃ b, v1.ownBlock = some b ∧ W.heap.size ≤ b) → wpListIn F nF P ops Q rest (a.put o.dst v1) w1) :
    wpListIn F nF P ops Q (o :: rest) a (W.alloc (.cells #[.int .i64 p.f0, .int .i64 p.f1, .int .i64 p.f2, .int .i64 p.f3] 84)) := by
  obtain ⟨h0, inner, hown, hr⟩ := HO
  obtain ⟨i0, hi, hz0, hz1, hz2⟩ := info_parts hinfo
  have hp : k84.M W base (fun _ => False) p [.int .i64 p.f0, .int .i64 p.f1, .int .i64 p.f2, .int .i64 p.f3] := k84_mkM _ _ _ p
  refine wpListIn_append_own_at (W.alloc (.cells #[.int .i64 p.f0, .int .i64 p.f1, .int .i64 p.f2, .int .i64 p.f3] 84)) hgd s x 54 ho base 84 i0 _ 4 32 ht hi hz0 hz1 hz2 rfl (by decide) v xs.length inner hs (hown.alloc _) ⟨W.heap.size, 0, none⟩ 1 1 [.int .i64 p.f0, .int .i64 p.f1, .int .i64 p.f2, .int .i64 p.f3] hx rfl
    (by simpa using World.news_of_block (cs := #[.int .i64 p.f0, .int .i64 p.f1, .int .i64 p.f2, .int .i64 p.f3]) (t := 84) (fr := (0, 0)) (heap_alloc_new W _)) (k84.K_one (k84.K_of_M hp)) (by simp only [maxLen]; omega) hl (by simp; omega) ?_
  intro v1 w1 hown1 hg _ hat
  have hg' := World.grownBy.trans (World.grownBy_alloc W _ _) hg
  have hat' : v1.ownBlock = v.ownBlock ∨ ∃ b, v1.ownBlock = some b ∧ W.heap.size ≤ b := by
    rcases hat with hat | hat
    · exact .inl hat
    · exact .inr ⟨_, hat, by simp⟩
  exact h v1 w1 (ownsRow_succ hown1) (Kd.R_appended h0 hr hp (fun _ hk => hk.elim) (fun _ _ => trivial) hown1 hg' hat') hg' hat'
/-- Between two rounds: what the boxes hold. -/
def rrI (w : World) (B R : Nat) (pre : List S84) (W : World) : Prop := ∃ v, W.heap[B]? = some (.cells #[.int .i64 0, v] 56 (0, 0)) ∧ k84.R 84 W w.heap.size (fun _ => True) v pre ∧ W.heap[R]? = some (.cells #[.int .i64 0, .slice none 0 0] 56 (0, 0)) ∧ Below w.heap.size w W
theorem rrI_own (w : World) (B R D : Nat) (hD : w.heap.size ≤ D) : OwnFrom D (rrI w B R) := by
  rintro s X Y row ⟨v, h1, h2, h3, h4⟩ hg hr
  have ne : ∀ (k : Nat) (cs : Array Value) (t : TypeId), X.heap[k]? = some (.cells cs t (0, 0)) → some k ≠ row := fun k cs t hk e => by
    obtain ⟨_, o, ho, hc⟩ := hr k e.symm
    rw [hk] at ho
    cases ho
    cases hc
  refine ⟨v, blk_grown h1 hg (ne _ _ _ h1), Kd.R_mono (Kd.R_grown (Kd.R_bound h2) hg (fun k hk => ?_)) (fun _ _ => trivial), blk_grown h3 hg (ne _ _ _ h3), h4.grown hg h4.size (fun k e => Nat.le_trans hD (hr k e).1)⟩
  obtain ⟨_, _, _, q, _, cells, hc⟩ := hk
  exact ne _ _ _ hc
def rrA (tm : Value → Value → Array Value) (x : S84) (a : Act) (W : World) : Prop := ∃ b, W.heap[b]? = some (.cells #[.int .i64 x.f0, .int .i64 x.f1, .int .i64 x.f2, .int .i64 x.f3] 84 (0, 0)) ∧ a = { tmps := tm (.pointer (some ⟨b, 0, none⟩)) (.agg #[.int .i64 x.f0, .int .i64 x.f1, .int .i64 x.f2, .int .i64 x.f3]), defers := [] }
theorem rrA_own (tm : Value → Value → Array Value) (x : S84) (a : Act) (D : Nat) : OwnFrom D (fun (_ : Unit) W => rrA tm x a W) := by
  rintro s X Y row ⟨b, hb, e⟩ hg hr
  refine ⟨b, blk_grown hb hg (fun e => ?_), e⟩
  obtain ⟨_, o, ho, hc⟩ := hr b e.symm
  rw [hb] at ho
  cases ho
  cases hc
theorem rrKp.alloc {B : Nat} (W : World) (o : Obj) (hB : B < W.heap.size) : rrKp B W (W.alloc o) where
  size := by simp
  wf := fun q k hk => by have := q k (rrRow_block (Below.heap_alloc W o B hB) hk); simp; omega
  row := fun k _ hk => rrRow_block (Below.heap_alloc W o B hB) hk
  keep := fun k u _ _ hu _ => blk_alloc hu o
/-- What a round leaves. -/
theorem rr_round {w W w1 : World} {B R : Nat} {pre : List S84} {x : S84} {v v1 : Value} (hRB : R ≠ B) (hwB : w.heap.size ≤ B) (h1 : W.heap[B]? = some (.cells #[.int .i64 0, v] 56 (0, 0))) (h2 : k84.R 84 W w.heap.size (fun _ => True) v pre) (h3 : W.heap[R]? = some (.cells #[.int .i64 0, .slice none 0 0] 56 (0, 0))) (h4 : Below w.heap.size w W)
    (hR1 : k84.R 84 w1 w.heap.size (fun _ => True) v1 (pre ++ [x])) (hg : W.grownBy w1 v.ownBlock) (hat : v1.ownBlock = v.ownBlock ∨ ∃ b, v1.ownBlock = some b ∧ W.heap.size ≤ b) (D : Nat) :
    (w1.heap[B]? = some (.cells #[.int .i64 0, v] 56 (0, 0))) ∧ KeepsFrom D W (w1.setCell ⟨B, 1, none⟩ v1) ∧ rrKp B W (w1.setCell ⟨B, 1, none⟩ v1) ∧ rrI w B R (pre ++ [x]) (w1.setCell ⟨B, 1, none⟩ v1) := by
  obtain ⟨_, inner, hown, _⟩ := id h2
  have hb1 : w1.heap[B]? = some (.cells #[.int .i64 0, v] 56 (0, 0)) := blk_grown h1 hg (own_ne hown h1 (by decide))
  have hr1 : w1.heap[R]? = some (.cells #[.int .i64 0, .slice none 0 0] 56 (0, 0)) := blk_grown h3 hg (own_ne hown h3 (by decide))
  have hb2 : (w1.setCell ⟨B, 1, none⟩ v1).heap[B]? = some (.cells #[.int .i64 0, v1] 56 (0, 0)) := blk_put hb1 1 v1 rfl
  have hrow : ∀ k, rrRow B (w1.setCell ⟨B, 1, none⟩ v1) k → v1.ownBlock = some k := fun k hk => by
    obtain ⟨u, hu, hk⟩ := hk
    rw [blk_cell hb2] at hu
    obtain rfl : v1 = u := by simpa using hu
    exact hk
  obtain ⟨_, inner1, hown1, _⟩ := id hR1
  refine ⟨hb1, ?_, ?_, ?_⟩
  · refine ((KeepsOthers.of_grownBy hg (fun j o e ho => ?_)).trans (KeepsOthers.setCell _ _ _)).from _
    obtain ⟨cells, hc⟩ := own_typed hown j e
    rw [hc] at ho
    cases ho
    rfl
  · refine ⟨by simpa using hg.size, fun _ k hk => ?_, fun k hk hr => ?_, fun k o hk hr ho _ => ?_⟩
    · have := own_lt hown1 k (hrow k hk)
      simpa using this
    · rcases hat with hat | ⟨b, hb, hle⟩
      · exact ⟨v, (blk_cell h1 1).trans rfl, hat ▸ hrow k hr⟩
      · have := hrow k hr
        rw [hb] at this
        injection this with this
        omega
    · refine (Below.heap_setCell w1 ⟨B, 1, none⟩ v1 k hk).trans (blk_grown ho hg (fun e => hr ⟨v, (blk_cell h1 1).trans rfl, e.symm⟩))
  · refine ⟨v1, hb2, Kd.R_mono (Kd.R_far (Kd.R_types hR1 hb1 (by decide)) (fun k hk => hk.2) v1) (fun _ _ => trivial), blk_far hr1 hRB v1, (h4.grown hg h4.size (own_base hown)).setCell hwB v1⟩
set_option maxHeartbeats 8000000 in
set_option maxRecDepth 100000 in
theorem rr_caller (k : Nat) (a0_0 a0_1 a0_2 a1 a2 a3 a4 t : Int) (P : Int) (w : World) (hS : impl_StripeCount.f k a0_0 a0_1 a0_2 a1 a2 = some t) (ht : 0 ≤ t) (h3 : 0 ≤ a3) (h4 : 0 ≤ a4)
    (hP : wrap64 (a0_0 * a1) = P) (hP1 : 1 ≤ P) (hP2 : P ≤ 1000000000000) (hu1 : 1 ≤ a1) (hu2 : a1 ≤ 1000000000000) (hs0 : 0 ≤ a2) (hs : a2 ≤ 1000000000000) :
    CallsIn Fence.wide 6 Try.prog 36 #[.agg #[.int .i64 a0_0, .int .i64 a0_1, .int .i64 a0_2], .int .i64 a1, .int .i64 a2, .int .i64 a3, .int .i64 a4] w fun e w' => ∃ v1_ : Value, e = .returned (.agg #[.int .i64 0, v1_]) ∧ Kd.R k84 84 w' w.heap.size (fun _ => True) v1_ (rrAll P a1 a2 a3 a4) ∧ Below w.heap.size w w' := by
  have HS := Aside0.mk hS
  have HP := Aside0.mk hP
  have ht1 : decide (t < 0) = false := decide_eq_false (by omega)
  have ht3 : decide (a3 < 0) = false := decide_eq_false (by omega)
  have ht4 : decide (a4 < 0) = false := decide_eq_false (by omega)
  have hrl := rrAll_len P a1 a2 a3 a4 h3 hs
  clear hS hP
  refine callsIn_of_wp_marks Try.func36 rfl trivial ?_ rfl
  simp only [Try.ntmps36, List.size_toArray, List.length_cons, List.length_nil, Nat.reduceAdd, Nat.reduceSub, Array.replicate_succ, Array.replicate_zero, List.push_toArray, List.append_toArray, List.nil_append, List.cons_append]
  gi_wp2_with (first | (refine ⟨trivial, ?_⟩; gi_at_call 87; refine (callsIn_wide.2 (impl_StripeCount.calls k a0_0 a0_1 a0_2 a1 a2 t _ HS.out)).mono ?_; rintro e w1 ⟨rfl, hb⟩; have q0 : Aside0 (w1.heap[w.heap.size]? = some (.cells #[.int .i64 a0_0, .int .i64 a0_1, .int .i64 a0_2] 26 (0, 0))) := ⟨blk_below (blk_alloc (blk_new w _) _) hb⟩; have q1 : Aside0 (w1.heap[w.heap.size + 1]? = some (.cells #[.int .i64 0, .slice none 0 0] 56 (0, 0))) := ⟨blk_below (by have := blk_new (w.alloc (.cells #[.int .i64 a0_0, .int .i64 a0_1, .int .i64 a0_2] 26)) (.cells #[.int .i64 0, .slice none 0 0] 56); rwa [World.size_alloc] at this) hb⟩; have hz := hb.size; have HB := Aside0.mk (show Below w.heap.size w w1 from (((Below.refl _ w).alloc (Nat.le_refl _) _).alloc (by simp) _).trans (hb.mono (by simp; omega))); clear hb; have k0 := (blk_cell q0.out 0).trans rfl; have k1 := (blk_cell q0.out 1).trans rfl; have k2 := (blk_cell q0.out 2).trans rfl; have hl0 := blk_lt q0.out) | (refine ⟨trivial, ?_⟩; gi_at_call 88; refine (rr_maker _ a0_0 a0_1 a0_2 a1 a2 a3 a4 _).mono ?_; rintro e w2 ⟨rfl, rfl⟩))
  have hl1 := blk_lt q1.out
  obtain ⟨W0, hW0⟩ : ∃ W0, ((((w1.alloc (.cells #[.int .i64 0, .slice none 0 0] 56)).alloc (.cells #[.int .i64 a0_0, .int .i64 a0_1, .int .i64 a0_2, .int .i64 a1, .int .i64 a2] 118)).alloc (.cells #[.int .i64 a3] 2)).alloc (.cells #[.int .i64 a4] 2)) = W0 := ⟨_, rfl⟩
  have hsz : W0.heap.size = w1.heap.size + 4 := by rw [← hW0]; simp
  have bB : W0.heap[w1.heap.size]? = some (.cells #[.int .i64 0, .slice none 0 0] 56 (0, 0)) := by rw [← hW0]; exact blk_alloc (blk_alloc (blk_alloc (blk_new w1 _) _) _) _
  have bC : W0.heap[w1.heap.size + 1]? = some (.cells #[.int .i64 a0_0, .int .i64 a0_1, .int .i64 a0_2, .int .i64 a1, .int .i64 a2] 118 (0, 0)) := by
    rw [← hW0]; have := blk_new (w1.alloc (.cells #[.int .i64 0, .slice none 0 0] 56)) (.cells #[.int .i64 a0_0, .int .i64 a0_1, .int .i64 a0_2, .int .i64 a1, .int .i64 a2] 118); rw [World.size_alloc] at this; exact blk_alloc (blk_alloc this _) _
  have bF : W0.heap[w1.heap.size + 1 + 1]? = some (.cells #[.int .i64 a3] 2 (0, 0)) := by
    rw [← hW0]; have := blk_new ((w1.alloc (.cells #[.int .i64 0, .slice none 0 0] 56)).alloc (.cells #[.int .i64 a0_0, .int .i64 a0_1, .int .i64 a0_2, .int .i64 a1, .int .i64 a2] 118)) (.cells #[.int .i64 a3] 2); rw [World.size_alloc, World.size_alloc] at this; exact blk_alloc this _
  have bN : W0.heap[w1.heap.size + 1 + 1 + 1]? = some (.cells #[.int .i64 a4] 2 (0, 0)) := by
    rw [← hW0]; have := blk_new (((w1.alloc (.cells #[.int .i64 0, .slice none 0 0] 56)).alloc (.cells #[.int .i64 a0_0, .int .i64 a0_1, .int .i64 a0_2, .int .i64 a1, .int .i64 a2] 118)).alloc (.cells #[.int .i64 a3] 2)) (.cells #[.int .i64 a4] 2); rw [World.size_alloc, World.size_alloc, World.size_alloc] at this; exact this
  have bR : W0.heap[w.heap.size + 1]? = some (.cells #[.int .i64 0, .slice none 0 0] 56 (0, 0)) := by rw [← hW0]; exact blk_alloc (blk_alloc (blk_alloc (blk_alloc q1.out _) _) _) _
  have hB0 : Below w.heap.size w W0 := by rw [← hW0]; exact (((HB.out.alloc HB.out.size _).alloc (by simp; omega) _).alloc (by simp; omega) _).alloc (by simp; omega) _
  rw [hW0]
  clear hW0 k0 k1 k2 q0 q1 HB
  obtain ⟨b, hb⟩ : ∃ b, w1.heap.size = b := ⟨_, rfl⟩
  rw [hb] at bB bC bF bN hsz hl0 hl1 hz ⊢
  clear hb
  refine wpIn_rangeFunc_ownH rfl (by omega) (gf := 116) (lb := #[.pointer (some ⟨b + 1 + 1, 0, none⟩), .pointer (some ⟨b + 1, 0, none⟩), .pointer (some ⟨b + 1 + 1 + 1, 0, none⟩)]) rfl trivial (enters_of Try.func116 (by kernel_rfl) rfl)
    (rr_stops 5 (by omega) (b + 1 + 1) (b + 1) (b + 1 + 1 + 1) b a0_0 a0_1 a0_2 a1 a2 a3 a4 P HP.out hP1 hP2 hu1 hu2 hs0 hs h3 h4 W0 (by omega) (fun k hk => by obtain ⟨u, hu, hk⟩ := hk; rw [blk_cell bB] at hu; have hu' : some (Value.slice none 0 0) = some u := hu; injection hu' with hu'; subst hu'; exact absurd hk (by simp [Value.ownBlock])) bF bN bC (by omega))
    (fun h k => h.trans k) (fun W l o o' hl ho hc _ => rrKp.putObj W l o o' (by omega) ho hc) (Below.refl _ _) (fun _ => rfl)
    (rrI w b (w.heap.size + 1)) (fun _ _ _ => False) (rrI_own w b (w.heap.size + 1) _ (by omega)) (fun _ _ _ _ _ hs _ _ => hs)
    ⟨_, bB, Kd.R_nil _ _ _ _ _, bR, hB0⟩
    (rrA (fun p q => #[.agg #[.int .i64 a0_0, .int .i64 a0_1, .int .i64 a0_2], .int .i64 a1, .int .i64 a2, .int .i64 a3, .int .i64 a4, .pointer (some ⟨w.heap.size, 0, none⟩), undef, undef, undef, undef, .pointer (some ⟨w.heap.size + 1, 0, none⟩), .pointer (some ⟨b, 0, none⟩), p, .agg #[.int .i64 a0_0, .int .i64 a0_1, .int .i64 a0_2], .int .i64 a1, .int .i64 a2, .int .i64 t, .bool false, .bool false, .int .i64 a3, .bool false, .bool false, .bool false, .int .i64 a4, .bool false, .bool false, undef, .agg #[.int .i64 0, .slice none 0 0], .agg #[.int .i64 a0_0, .int .i64 a0_1, .int .i64 a0_2], .int .i64 a1, .int .i64 a2, .agg #[.int .i64 a0_0, .int .i64 a0_1, .int .i64 a0_2, .int .i64 a1, .int .i64 a2], .int .i64 a3, .int .i64 a4, .func (.func 116) #[] #[.pointer (some ⟨b + 1 + 1, 0, none⟩), .pointer (some ⟨b + 1, 0, none⟩), .pointer (some ⟨b + 1 + 1 + 1, 0, none⟩)], q, undef, undef, undef, undef, undef, undef, undef]))
    (fun _ _ => rrA_own _ _ _ _) ?assign ?body ?done ?stop
  case assign =>
    intro l pre x W K hI hK
    have HI := Aside0.mk hI
    have HK := Aside0.mk hK
    clear hI hK
    dsimp only [rrEnc]
    gi_wp2
    have hbl : b < W.heap.size := by obtain ⟨v, h1, _⟩ := HI.out; exact blk_lt h1
    exact HK.out _ _ ((KeepsOthers.alloc _ _).from _) (rrKp.alloc _ _ hbl) ((rrI_own w b (w.heap.size + 1) W0.heap.size (by omega)).alloc _ HI.out) ⟨W.heap.size, blk_new W _, rfl⟩
  case body =>
    rintro l pre x a' W hl _ ⟨v, h1, h2, h3, h4⟩ ⟨bx, hbx, rfl⟩ hlt
    have hv : W.cell? ⟨b, 1, none⟩ = some v := (blk_cell h1 1).trans rfl
    have hx0 : W.cell? ⟨bx, 0, none⟩ = some (.int .i64 x.f0) := (blk_cell hbx 0).trans rfl
    have hx1 : W.cell? ⟨bx, 1, none⟩ = some (.int .i64 x.f1) := (blk_cell hbx 1).trans rfl
    have hx2 : W.cell? ⟨bx, 2, none⟩ = some (.int .i64 x.f2) := (blk_cell hbx 2).trans rfl
    have hx3 : W.cell? ⟨bx, 3, none⟩ = some (.int .i64 x.f3) := (blk_cell hbx 3).trans rfl
    have H1 := Aside0.mk h1
    have H2 := Aside0.mk h2
    have H3 := Aside0.mk h3
    have H4 := Aside0.mk h4
    have hsz4 := h4.size
    clear h1 h2 h3 h4 hbx
    gi_wp2_with (gi_at_builtin; refine rr_appendIn w.heap.size rfl (.tmp 37) (.tmp 39) rfl Try.underlying54 rrInfo84 v pre x rfl rfl H2.out hsz4 (by omega) ?_; rintro v1 w2 ⟨g, cp, rfl⟩ hR1 hg hat; obtain ⟨r1, r2, r3, r4⟩ := rr_round (B := b) (R := w.heap.size + 1) (by omega) (by omega) H1.out H2.out H3.out H4.out hR1 hg hat W0.heap.size; have hcB := (blk_cell r1 1).trans rfl; have hfB := blk_frozen r1 1)
    exact ⟨r2, r3, r4⟩
  case done =>
    rintro D ys W hD rfl ⟨v, h1, h2, h3, h4⟩ hK
    have hv0 : W.cell? ⟨b, 0, none⟩ = some (.int .i64 0) := (blk_cell h1 0).trans rfl
    have hv : W.cell? ⟨b, 1, none⟩ = some v := (blk_cell h1 1).trans rfl
    have hw0 : W.cell? ⟨w.heap.size + 1, 0, none⟩ = some (.int .i64 0) := (blk_cell h3 0).trans rfl
    have hw1 : W.cell? ⟨w.heap.size + 1, 1, none⟩ = some (.slice none 0 0) := (blk_cell h3 1).trans rfl
    have hf0 := blk_frozen h3 0
    have hf1 := blk_frozen h3 1
    obtain ⟨_, inner, hown, _⟩ := id h2
    have H1 := Aside0.mk h1
    have H2 := Aside0.mk h2
    have H3 := Aside0.mk h3
    have H4 := Aside0.mk h4
    have HK := Aside0.mk hK
    clear h1 h2 h3 h4 hK
    rcases hown.2 with ⟨rfl, _⟩ | ⟨g, cap, cur, rfl, _, hgb, _⟩
    · clear hown
      gi_wp2
      have hK' : ((W.setCell ⟨w.heap.size + 1, 0, none⟩ (.int .i64 0)).setCell ⟨w.heap.size + 1, 1, none⟩ (.slice none 0 0)).heap[D]? = some (.deferred (some [])) := ((KeepsOthers.setCell _ _ _).trans (KeepsOthers.setCell _ _ _)).same D _ HK.out rfl
      have hbR : ((W.setCell ⟨w.heap.size + 1, 0, none⟩ (.int .i64 0)).setCell ⟨w.heap.size + 1, 1, none⟩ (.slice none 0 0)).heap[w.heap.size + 1]? = some (.cells #[.int .i64 0, .slice none 0 0] 56 (0, 0)) := blk_put (cs := #[.int .i64 0, .slice none 0 0]) (blk_put (cs := #[.int .i64 0, .slice none 0 0]) H3.out 0 _ rfl) 1 _ rfl
      refine ⟨by simp, .inl ⟨_, _, rfl, run_takeDeferred hK', ?_⟩⟩
      have hgo := grownBy_putObj' ((W.setCell ⟨w.heap.size + 1, 0, none⟩ (.int .i64 0)).setCell ⟨w.heap.size + 1, 1, none⟩ (.slice none 0 0)) D (.deferred none)
      have hbR2 := blk_grown hbR hgo (by simp; omega)
      have hRR : k84.R 84 (((W.setCell ⟨w.heap.size + 1, 0, none⟩ (.int .i64 0)).setCell ⟨w.heap.size + 1, 1, none⟩ (.slice none 0 0)).putObj D (.deferred none)) w.heap.size (fun _ => True) (.slice none 0 0) (rrAll P a1 a2 a3 a4) := by
        have r1 := Kd.R_types (Kd.R_far (Kd.R_far (Kd.R_types H2.out H3.out (by decide)) (fun k hk => hk.2) (.int .i64 0)) (p := ⟨w.heap.size + 1, 1, none⟩) (fun k hk => hk.2) (.slice none 0 0)) hbR (by decide)
        refine Kd.R_mono (Kd.R_grown (Kd.R_bound r1) hgo (fun k hk e => ?_)) (fun _ _ => trivial)
        obtain ⟨_, _, _, q, _, cells, hc⟩ := hk
        injection e with e
        subst e
        rw [hK'] at hc
        cases hc
      refine ⟨_, results_cell_row rfl _ _ (w.heap.size + 1) 56 #[.int .i64 0, .slice none 0 0] (0, 0) _ rfl hbR2 Try.underlying56 rfl (by kernel_rfl), _, rfl, hRR, ?_⟩
      exact ((H4.out.setCell (by simp) _).setCell (by simp) _).grown hgo (by have := H4.out.size; simpa using this) (fun k e => by injection e with e; subst e; omega)
    · clear hown hgb
      gi_wp2
      have hK' : ((W.setCell ⟨w.heap.size + 1, 0, none⟩ (.int .i64 0)).setCell ⟨w.heap.size + 1, 1, none⟩ (.slice (some ⟨g, 0, none⟩) (rrAll P a1 a2 a3 a4).length cap)).heap[D]? = some (.deferred (some [])) := ((KeepsOthers.setCell _ _ _).trans (KeepsOthers.setCell _ _ _)).same D _ HK.out rfl
      have hbR : ((W.setCell ⟨w.heap.size + 1, 0, none⟩ (.int .i64 0)).setCell ⟨w.heap.size + 1, 1, none⟩ (.slice (some ⟨g, 0, none⟩) (rrAll P a1 a2 a3 a4).length cap)).heap[w.heap.size + 1]? = some (.cells #[.int .i64 0, .slice (some ⟨g, 0, none⟩) (rrAll P a1 a2 a3 a4).length cap] 56 (0, 0)) := blk_put (cs := #[.int .i64 0, .slice none 0 0]) (blk_put (cs := #[.int .i64 0, .slice none 0 0]) H3.out 0 _ rfl) 1 _ rfl
      refine ⟨by simp, .inl ⟨_, _, rfl, run_takeDeferred hK', ?_⟩⟩
      have hgo := grownBy_putObj' ((W.setCell ⟨w.heap.size + 1, 0, none⟩ (.int .i64 0)).setCell ⟨w.heap.size + 1, 1, none⟩ (.slice (some ⟨g, 0, none⟩) (rrAll P a1 a2 a3 a4).length cap)) D (.deferred none)
      have hbR2 := blk_grown hbR hgo (by simp; omega)
      have hRR : k84.R 84 (((W.setCell ⟨w.heap.size + 1, 0, none⟩ (.int .i64 0)).setCell ⟨w.heap.size + 1, 1, none⟩ (.slice (some ⟨g, 0, none⟩) (rrAll P a1 a2 a3 a4).length cap)).putObj D (.deferred none)) w.heap.size (fun _ => True) (.slice (some ⟨g, 0, none⟩) (rrAll P a1 a2 a3 a4).length cap) (rrAll P a1 a2 a3 a4) := by
        have r1 := Kd.R_types (Kd.R_far (Kd.R_far (Kd.R_types H2.out H3.out (by decide)) (fun k hk => hk.2) (.int .i64 0)) (p := ⟨w.heap.size + 1, 1, none⟩) (fun k hk => hk.2) (.slice (some ⟨g, 0, none⟩) (rrAll P a1 a2 a3 a4).length cap)) hbR (by decide)
        refine Kd.R_mono (Kd.R_grown (Kd.R_bound r1) hgo (fun k hk e => ?_)) (fun _ _ => trivial)
        obtain ⟨_, _, _, q, _, cells, hc⟩ := hk
        injection e with e
        subst e
        rw [hK'] at hc
        cases hc
      refine ⟨_, results_cell_row rfl _ _ (w.heap.size + 1) 56 #[.int .i64 0, .slice (some ⟨g, 0, none⟩) (rrAll P a1 a2 a3 a4).length cap] (0, 0) _ rfl hbR2 Try.underlying56 rfl (by kernel_rfl), _, rfl, hRR, ?_⟩
      exact ((H4.out.setCell (by simp) _).setCell (by simp) _).grown hgo (by have := H4.out.size; simpa using this) (fun k e => by injection e with e; subst e; omega)
  case stop =>
    rintro D c pre W _ _ h _
    exact h.elim
set_option maxHeartbeats 8000000 in
set_option maxRecDepth 100000 in
theorem rr_err (k : Nat) (a0_0 a0_1 a0_2 a1 a2 a3 a4 t : Int) (w : World) (hS : impl_StripeCount.f k a0_0 a0_1 a0_2 a1 a2 = some t) (ht : t < 0 ∨ a3 < 0 ∨ a4 < 0) :
    Calls Try.prog 36 #[.agg #[.int .i64 a0_0, .int .i64 a0_1, .int .i64 a0_2], .int .i64 a1, .int .i64 a2, .int .i64 a3, .int .i64 a4] w fun e w' => e = .returned (.agg #[.int .i64 1, .slice none 0 0]) ∧ Below w.heap.size w w' := by
  have HS := Aside0.mk hS
  clear hS
  have key : (∃ b : Bool, decide (t < 0) = b ∧ ∃ c : Bool, decide (a3 < 0) = c ∧ ∃ d : Bool, decide (a4 < 0) = d ∧ (b || c || d) = true) := ⟨_, rfl, _, rfl, _, rfl, by simp; omega⟩
  clear ht
  obtain ⟨b, hb, c, hc, d, hd, hbcd⟩ := key
  go_enter Try.func36, Try.ntmps36
  cases b <;> cases c <;> cases d <;> first | exact absurd hbcd (by decide) | skip
  all_goals
    clear hbcd
    go_wp2_with (go_at_call 87; refine (impl_StripeCount.calls k a0_0 a0_1 a0_2 a1 a2 t _ HS.out).mono ?_; rintro e w1 ⟨rfl, hb⟩; have q1 : Aside0 (w1.heap[w.heap.size + 1]? = some (.cells #[.int .i64 0, .slice none 0 0] 56 (0, 0))) := ⟨blk_below (by have := blk_new (w.alloc (.cells #[.int .i64 a0_0, .int .i64 a0_1, .int .i64 a0_2] 26)) (.cells #[.int .i64 0, .slice none 0 0] 56); rwa [World.size_alloc] at this) hb⟩; have HB := Aside0.mk (show Below w.heap.size w w1 from (((Below.refl _ w).alloc (Nat.le_refl _) _).alloc (by simp) _).trans (hb.mono (by simp; omega))); clear hb; have k0 := (blk_cell q1.out 0).trans rfl; have k1 := (blk_cell q1.out 1).trans rfl; have f0 := blk_frozen q1.out 0; have f1 := blk_frozen q1.out 1)
    refine bodyPost_ret (results_cell_row rfl _ _ (w.heap.size + 1) 56 #[.int .i64 1, .slice none 0 0] (0, 0) _ rfl (blk_put (cs := #[.int .i64 1, .slice none 0 0]) (blk_put (cs := #[.int .i64 0, .slice none 0 0]) q1.out 0 _ rfl) 1 _ rfl) Try.underlying56 rfl (by kernel_rfl)) rfl ?_
    exact ⟨rfl, (HB.out.setCell (by simp) _).setCell (by simp) _⟩
end
def impl_RangeReads.f (k : Nat) (a0_0 : Int) (a0_1 : Int) (a0_2 : Int) (a1 : Int) (a2 : Int) (a3 : Int) (a4 : Int) : Option (Int × (List (S84))) := (impl_StripeCount.f k a0_0 a0_1 a0_2 a1 a2).bind fun t => (if t < 0 then (some (1, ([] : List (S84)))) else (if a3 < 0 then (some (1, ([] : List (S84)))) else (if a4 < 0 then (some (1, ([] : List (S84)))) else (if (1 ≤ wrap64 (a0_0 * a1) ∧ wrap64 (a0_0 * a1) ≤ 1000000000000) ∧ (1 ≤ a1 ∧ a1 ≤ 1000000000000) ∧ (0 ≤ a2 ∧ a2 ≤ 1000000000000) then (some (0, rrAll (wrap64 (a0_0 * a1)) a1 a2 a3 a4)) else (none)))))
theorem impl_RangeReads.mono : ∀ a0 a1 a2 a3 a4 a5 a6 k, LeO (impl_RangeReads.f k a0 a1 a2 a3 a4 a5 a6) (impl_RangeReads.f (k + 1) a0 a1 a2 a3 a4 a5 a6) := by
  intro a0 a1 a2 a3 a4 a5 a6 k
  unfold impl_RangeReads.f
  exact LeO.bind (impl_StripeCount.mono _ _ _ _ _ _) (fun _ => LeO.refl _)
theorem impl_RangeReads.calls (k : Nat) (a0_0 : Int) (a0_1 : Int) (a0_2 : Int) (a1 : Int) (a2 : Int) (a3 : Int) (a4 : Int) (r1 : Int) (r2 : List (S84)) (w : World) (h : impl_RangeReads.f k a0_0 a0_1 a0_2 a1 a2 a3 a4 = some (r1, r2)) :
    Calls Try.prog 36 #[.agg #[.int .i64 a0_0, .int .i64 a0_1, .int .i64 a0_2], .int .i64 a1, .int .i64 a2, .int .i64 a3, .int .i64 a4] w fun e w' => ∃ v1_ : Value, e = .returned (.agg #[.int .i64 r1, v1_]) ∧ Kd.R k84 84 w' w.heap.size (fun _ => True) v1_ r2 ∧ Below w.heap.size w w' := by
  unfold impl_RangeReads.f at h
  obtain ⟨t, hS, h⟩ := Option.bind_eq_some_iff.mp h
  by_cases hE : t < 0 ∨ a3 < 0 ∨ a4 < 0
  · have e0 : (1, ([] : List S84)) = (r1, r2) := by
      rcases hE with hE | hE | hE
      · rw [if_pos hE] at h; exact Option.some.inj h
      · rw [if_pos hE] at h; split at h <;> exact Option.some.inj h
      · rw [if_pos hE] at h; split at h
        · exact Option.some.inj h
        · split at h <;> exact Option.some.inj h
    obtain ⟨rfl, rfl⟩ := Prod.mk.inj e0
    exact (rr_err k a0_0 a0_1 a0_2 a1 a2 a3 a4 t w hS hE).mono fun e w' ⟨he, hb⟩ => ⟨_, he, Kd.R_nil _ _ _ _ _, hb⟩
  · rw [if_neg (by omega), if_neg (by omega), if_neg (by omega)] at h
    split at h
    case isFalse => cases h
    case isTrue hg =>
      obtain ⟨rfl, rfl⟩ := Prod.mk.inj (Option.some.inj h)
      obtain ⟨⟨p1, p2⟩, ⟨p3, p4⟩, p5, p6⟩ := hg
      exact callsIn_wide.1 (rr_caller k a0_0 a0_1 a0_2 a1 a2 a3 a4 t _ w hS (by omega) (by omega) (by omega) rfl p1 p2 p3 p4 p5 p6)

/-! ### impl_bytes8: function 111 -/
def impl_bytes8.f  : Option (Int × Int) := some (29, 128)
set_option maxHeartbeats 8000000 in
set_option maxRecDepth 100000 in
theorem impl_bytes8.calls  (r1 : Int) (r2 : Int) (w : World) (h : impl_bytes8.f  = some (r1, r2)) :
    Calls Try.prog 111 #[] w fun e w' => e = .returned (.agg #[.int .u8 r1, .int .u8 r2]) ∧ Below w.heap.size w w' := by
  have hu157 := Try.underlying157
  have HB := Aside0.mk (Below.refl w.heap.size w)
  have H : (some (29, 128)) = some (r1, r2) := h
  clear h
  simp only [Option.some.injEq, Prod.mk.injEq] at H
  obtain ⟨rfl, rfl⟩ := H
  go_enter Try.func111, Try.ntmps111
  go_wp2_with (first | ((with_reducible refine gate_dst (N := 0) rfl ?_); refine box_event ?hg (N := 0) ?hd (cs := #[.int .u8 0, .int .u8 0]) (t := 157) ?hr ?_; (case hd => rfl); (case hg => rfl); (case hr => first | (go_simp; done) | (go_simp; rfl)); intro gb104 hg w1 hbox hb; have n0_ := Aside0.mk (below_step (by repeat (first | (with_reducible first | exact HB.out | apply below_alloc | apply pw_below_drewN | apply below_drew1) | exact HB.out)) hb); have n1_ := Aside0.mk (hbox); have n2_ := Aside0.mk ((by rw [hg]; exact (below_size (by repeat (first | (with_reducible first | exact HB.out | apply below_alloc | apply pw_below_drewN | apply below_drew1) | exact HB.out))) : w.heap.size ≤ gb104)); have n3_ := Aside0.mk ((by rw [hg]; exact (below_size (by repeat (first | (with_reducible first | exact HB.out | apply below_alloc | apply pw_below_drewN | apply below_drew1) | exact HB.out))) : w.heap.size ≤ gb104)); clear HB; have HB := n0_; have BK104 := n1_; have GW104 := n2_; have GE104 := n3_; clear n0_ n1_ n2_ n3_; clear hb hbox hg; have hcz2_0 : w1.cell? ⟨gb104, 0, none⟩ = some (.int .u8 0) := (blk_cell BK104.out 0).trans rfl; have hcz2_1 : w1.cell? ⟨gb104, 1, none⟩ = some (.int .u8 0) := (blk_cell BK104.out 1).trans rfl; have hfz2_0 := blk_frozen BK104.out 0; have hfz2_1 := blk_frozen BK104.out 1))
  refine bodyPost_ret (results_cell_row rfl _ _ gb104 157 #[.int .u8 29, .int .u8 128] (0, 0) _ rfl (by (with_reducible repeat (first | refine blk_drewN ?_ _ | refine blk_drew ?_ | refine blk_alloc ?_ _)); refine blk_put (cs := #[.int .u8 29, .int .u8 0]) ?_ 1 _ rfl; (with_reducible repeat (first | refine blk_drewN ?_ _ | refine blk_drew ?_ | refine blk_alloc ?_ _)); refine blk_put (cs := #[.int .u8 0, .int .u8 0]) ?_ 0 _ rfl; (with_reducible repeat (first | refine blk_drewN ?_ _ | refine blk_drew ?_ | refine blk_alloc ?_ _)); exact BK104.out) Try.underlying157 rfl (by kernel_rfl)) rfl ?_
  exact ⟨by first | rfl | (simp [errW_none, errW_some] <;> rfl) | (simp [*, errW_none, errW_some] <;> rfl), by repeat (first | (with_reducible first | exact HB.out | apply below_alloc | apply pw_below_drewN | apply below_drew1 | refine below_set ?_ GE104.out) | exact HB.out)⟩

/-! ### impl_field_uint8_double: function 112 -/
def impl_field_uint8_double.f (a0_0 : Int) (a0_1 : Int) (a1 : Int) : Option (Int) := if (Go.bits .and .u8 a1 a0_1) = 0 then (some ((a1 * 2) % 256)) else (some (Go.bits .xor .u8 ((a1 * 2) % 256) a0_0))
set_option maxHeartbeats 8000000 in
set_option maxRecDepth 100000 in
theorem impl_field_uint8_double.calls (a0_0 : Int) (a0_1 : Int) (a1 : Int) (r : Int) (w : World) (h : impl_field_uint8_double.f a0_0 a0_1 a1 = some r) :
    Calls Try.prog 112 #[.agg #[.int .u8 a0_0, .int .u8 a0_1], .int .u8 a1] w fun e w' => e = .returned (.int .u8 r) ∧ Below w.heap.size w w' := by
  have hu157 := Try.underlying157
  have HB := Aside0.mk (Below.refl w.heap.size w)
  have H : (if (Go.bits .and .u8 a1 a0_1) = 0 then (some ((a1 * 2) % 256)) else (some (Go.bits .xor .u8 ((a1 * 2) % 256) a0_0))) = some r := h
  clear h
  by_cases c3 : (Go.bits .and .u8 a1 a0_1) = 0
  · rw [if_pos c3] at H
    have c3b0 : ((Go.bits .and .u8 a1 a0_1) == 0) = true := beq_iff_eq.mpr c3
    have c3b1 : ((Go.bits .and .u8 a1 a0_1) != 0) = false := bne_eq_false_iff_eq.mpr c3
    clear c3
    obtain rfl := Option.some.inj H
    go_enter Try.func112, Try.ntmps112
    go_wp2_with (first | ((with_reducible refine gate_dst (N := 2) rfl ?_); refine box_event ?hg (N := 2) ?hd (cs := #[.int .u8 a0_0, .int .u8 a0_1]) (t := 157) ?hr ?_; (case hd => rfl); (case hg => rfl); (case hr => first | (go_simp; done) | (go_simp; rfl)); intro gb105 hg w4 hbox hb; have n0_ := Aside0.mk (below_step (by repeat (first | (with_reducible first | exact HB.out | apply below_alloc | apply pw_below_drewN | apply below_drew1) | exact HB.out)) hb); have n1_ := Aside0.mk (hbox); have n2_ := Aside0.mk ((by rw [hg]; exact (below_size (by repeat (first | (with_reducible first | exact HB.out | apply below_alloc | apply pw_below_drewN | apply below_drew1) | exact HB.out))) : w.heap.size ≤ gb105)); have n3_ := Aside0.mk ((by rw [hg]; exact (below_size (by repeat (first | (with_reducible first | exact HB.out | apply below_alloc | apply pw_below_drewN | apply below_drew1) | exact HB.out))) : w.heap.size ≤ gb105)); clear HB; have HB := n0_; have BK105 := n1_; have GW105 := n2_; have GE105 := n3_; clear n0_ n1_ n2_ n3_; clear hb hbox hg; have hcz5_0 : w4.cell? ⟨gb105, 0, none⟩ = some (.int .u8 a0_0) := (blk_cell BK105.out 0).trans rfl; have hcz5_1 : w4.cell? ⟨gb105, 1, none⟩ = some (.int .u8 a0_1) := (blk_cell BK105.out 1).trans rfl; have hfz5_0 := blk_frozen BK105.out 0; have hfz5_1 := blk_frozen BK105.out 1))
    go_ret
    exact ⟨by first | rfl | (simp [errW_none, errW_some] <;> rfl) | (simp [*, errW_none, errW_some] <;> rfl), by repeat (first | (with_reducible first | exact HB.out | apply below_alloc | apply pw_below_drewN | apply below_drew1 | refine below_set ?_ GE105.out) | exact HB.out)⟩
  · rw [if_neg c3] at H
    have c3b0 : ((Go.bits .and .u8 a1 a0_1) == 0) = false := beq_eq_false_iff_ne.mpr c3
    have c3b1 : ((Go.bits .and .u8 a1 a0_1) != 0) = true := bne_iff_ne.mpr c3
    obtain rfl := Option.some.inj H
    go_enter Try.func112, Try.ntmps112
    go_wp2_with (first | ((with_reducible refine gate_dst (N := 2) rfl ?_); refine box_event ?hg (N := 2) ?hd (cs := #[.int .u8 a0_0, .int .u8 a0_1]) (t := 157) ?hr ?_; (case hd => rfl); (case hg => rfl); (case hr => first | (go_simp; done) | (go_simp; rfl)); intro gb105 hg w6 hbox hb; have n0_ := Aside0.mk (below_step (by repeat (first | (with_reducible first | exact HB.out | apply below_alloc | apply pw_below_drewN | apply below_drew1) | exact HB.out)) hb); have n1_ := Aside0.mk (hbox); have n2_ := Aside0.mk ((by rw [hg]; exact (below_size (by repeat (first | (with_reducible first | exact HB.out | apply below_alloc | apply pw_below_drewN | apply below_drew1) | exact HB.out))) : w.heap.size ≤ gb105)); have n3_ := Aside0.mk ((by rw [hg]; exact (below_size (by repeat (first | (with_reducible first | exact HB.out | apply below_alloc | apply pw_below_drewN | apply below_drew1) | exact HB.out))) : w.heap.size ≤ gb105)); clear HB; have HB := n0_; have BK105 := n1_; have GW105 := n2_; have GE105 := n3_; clear n0_ n1_ n2_ n3_; clear hb hbox hg; have hcz7_0 : w6.cell? ⟨gb105, 0, none⟩ = some (.int .u8 a0_0) := (blk_cell BK105.out 0).trans rfl; have hcz7_1 : w6.cell? ⟨gb105, 1, none⟩ = some (.int .u8 a0_1) := (blk_cell BK105.out 1).trans rfl; have hfz7_0 := blk_frozen BK105.out 0; have hfz7_1 := blk_frozen BK105.out 1))
    go_ret
    exact ⟨by first | rfl | (simp [errW_none, errW_some] <;> rfl) | (simp [*, errW_none, errW_some] <;> rfl), by repeat (first | (with_reducible first | exact HB.out | apply below_alloc | apply pw_below_drewN | apply below_drew1 | refine below_set ?_ GE105.out) | exact HB.out)⟩

/-! ### impl_makeTables8: function 75 -/
/-- (The tables' place is no number: 0 stands for it.) -/
def impl_makeTables8.f : Option (Int) := some 0
/-! The tables of the field of 256: the powers of x, and of which power a number is. -/
def exList : List Nat := [1, 2, 4, 8, 16, 32, 64, 128, 29, 58, 116, 232, 205, 135, 19, 38, 76, 152, 45, 90, 180, 117, 234, 201, 143, 3, 6, 12, 24, 48, 96, 192, 157, 39, 78, 156, 37, 74, 148, 53, 106, 212, 181, 119, 238, 193, 159, 35, 70, 140, 5, 10, 20, 40, 80, 160, 93, 186, 105, 210, 185, 111, 222, 161, 95, 190, 97, 194, 153, 47, 94, 188, 101, 202, 137, 15, 30, 60, 120, 240, 253, 231, 211, 187, 107, 214, 177, 127, 254, 225, 223, 163, 91, 182, 113, 226, 217, 175, 67, 134, 17, 34, 68, 136, 13, 26, 52, 104, 208, 189, 103, 206, 129, 31, 62, 124, 248, 237, 199, 147, 59, 118, 236, 197, 151, 51, 102, 204, 133, 23, 46, 92, 184, 109, 218, 169, 79, 158, 33, 66, 132, 21, 42, 84, 168, 77, 154, 41, 82, 164, 85, 170, 73, 146, 57, 114, 228, 213, 183, 115, 230, 209, 191, 99, 198, 145, 63, 126, 252, 229, 215, 179, 123, 246, 241, 255, 227, 219, 171, 75, 150, 49, 98, 196, 149, 55, 110, 220, 165, 87, 174, 65, 130, 25, 50, 100, 200, 141, 7, 14, 28, 56, 112, 224, 221, 167, 83, 166, 81, 162, 89, 178, 121, 242, 249, 239, 195, 155, 43, 86, 172, 69, 138, 9, 18, 36, 72, 144, 61, 122, 244, 245, 247, 243, 251, 235, 203, 139, 11, 22, 44, 88, 176, 125, 250, 233, 207, 131, 27, 54, 108, 216, 173, 71, 142, 1]
def lgList : List Nat := [0, 0, 1, 25, 2, 50, 26, 198, 3, 223, 51, 238, 27, 104, 199, 75, 4, 100, 224, 14, 52, 141, 239, 129, 28, 193, 105, 248, 200, 8, 76, 113, 5, 138, 101, 47, 225, 36, 15, 33, 53, 147, 142, 218, 240, 18, 130, 69, 29, 181, 194, 125, 106, 39, 249, 185, 201, 154, 9, 120, 77, 228, 114, 166, 6, 191, 139, 98, 102, 221, 48, 253, 226, 152, 37, 179, 16, 145, 34, 136, 54, 208, 148, 206, 143, 150, 219, 189, 241, 210, 19, 92, 131, 56, 70, 64, 30, 66, 182, 163, 195, 72, 126, 110, 107, 58, 40, 84, 250, 133, 186, 61, 202, 94, 155, 159, 10, 21, 121, 43, 78, 212, 229, 172, 115, 243, 167, 87, 7, 112, 192, 247, 140, 128, 99, 13, 103, 74, 222, 237, 49, 197, 254, 24, 227, 165, 153, 119, 38, 184, 180, 124, 17, 68, 146, 217, 35, 32, 137, 46, 55, 63, 209, 91, 149, 188, 207, 205, 144, 135, 151, 178, 220, 252, 190, 97, 242, 86, 211, 171, 20, 42, 93, 158, 132, 60, 57, 83, 71, 109, 65, 162, 31, 45, 67, 216, 183, 123, 164, 118, 196, 23, 73, 236, 127, 12, 111, 246, 108, 161, 59, 82, 41, 157, 85, 170, 251, 96, 134, 177, 187, 204, 62, 90, 203, 89, 95, 176, 156, 169, 160, 81, 11, 245, 22, 235, 122, 117, 44, 215, 79, 174, 213, 233, 230, 231, 173, 232, 116, 214, 244, 234, 168, 80, 88, 175]
def ex (j : Nat) : Nat := exList.getD j 0
def lg (a : Nat) : Nat := lgList.getD a 0
theorem ex_facts : ∀ j : Fin 255, 0 < ex j.val ∧ ex j.val < 256 ∧ lg (ex j.val) = j.val ∧ impl_field_uint8_double.f 29 128 (ex j.val : Int) = some ((ex (j.val + 1) : Nat) : Int) := by decide +kernel
theorem lg_facts : ∀ a : Fin 256, lg a.val < 255 ∧ (a.val ≠ 0 → ex (lg a.val) = a.val) := by decide +kernel
def tE (i j : Nat) : Nat := if j < i then ex j else if 255 ≤ j ∧ j < 255 + i then ex (j - 255) else 0
def tL (i a : Nat) : Nat := if a ≠ 0 ∧ lg a < i then lg a else 0
/-- The tables behind i rounds. -/
structure TabInv (wr : World) (g i : Nat) : Prop where
  exp : ∀ j, j < 512 → wr.cell? ⟨g, j, none⟩ = some (.int .u8 ((tE i j : Nat) : Int))
  log : ∀ a, a < 256 → wr.cell? ⟨g, 512 + a, none⟩ = some (.int .i64 ((tL i a : Nat) : Int))
  free : ∀ j, wr.frozen? ⟨g, j, none⟩ = false
theorem TabInv.lt {wr : World} {g i : Nat} (h : TabInv wr g i) : g < wr.heap.size := World.block_lt_of_cell? wr _ (h.exp 0 (by decide))
theorem TabInv.block {wr w' : World} {g i : Nat} (h : TabInv wr g i) (hb : w'.heap[g]? = wr.heap[g]?) : TabInv w' g i where
  exp := fun j hj => (World.cell?_of_block (w := wr) hb).trans (h.exp j hj)
  log := fun a ha => (World.cell?_of_block (w := wr) hb).trans (h.log a ha)
  free := fun j => (World.frozen?_of_block (w := wr) hb).trans (h.free j)
theorem TabInv.below {wr w' : World} {g i : Nat} (h : TabInv wr g i) (hb : Below wr.heap.size wr w') : TabInv w' g i := h.block (hb.block g h.lt)
theorem TabInv.step {wr : World} {g i : Nat} (h : TabInv wr g i) (hi : i < 255) :
    TabInv (((wr.setCell ⟨g, i, none⟩ (.int .u8 ((ex i : Nat) : Int))).setCell ⟨g, i + 255, none⟩ (.int .u8 ((ex i : Nat) : Int))).setCell ⟨g, 512 + ex i, none⟩ (.int .i64 (i : Int))) g (i + 1) where
  exp := fun j hj => by
    obtain ⟨f0, f1, f2, _⟩ := ex_facts ⟨i, hi⟩
    have ne : ∀ a b : Nat, a ≠ b → (⟨g, a, none⟩ : Addr) ≠ ⟨g, b, none⟩ := fun a b hab e => hab (by injection e)
    simp only at f0 f1 f2
    rw [World.cell?_setCell_other _ _ _ _ (ne _ _ (by omega))]
    by_cases e1 : j = i + 255
    · subst e1
      have h1 : (wr.setCell ⟨g, i, none⟩ (.int .u8 ((ex i : Nat) : Int))).cell? ⟨g, i + 255, none⟩ = some (.int .u8 ((tE i (i + 255) : Nat) : Int)) := by
        rw [World.cell?_setCell_other _ _ _ _ (ne _ _ (by omega))]; exact h.exp _ hj
      rw [World.cell?_setCell_same _ _ _ h1]
      unfold tE
      rw [if_neg (by omega), if_pos (by omega), show i + 255 - 255 = i by omega]
    · rw [World.cell?_setCell_other _ _ _ _ (ne _ _ (fun e => e1 e.symm))]
      by_cases e2 : j = i
      · subst e2
        rw [World.cell?_setCell_same _ _ _ (h.exp j hj)]
        unfold tE
        rw [if_pos (by omega)]
      · rw [World.cell?_setCell_other _ _ _ _ (ne _ _ (fun e => e2 e.symm)), h.exp j hj]
        unfold tE
        by_cases e3 : j < i
        · rw [if_pos e3, if_pos (show j < i + 1 by omega)]
        · rw [if_neg e3, if_neg (show ¬ j < i + 1 by omega)]
          by_cases e4 : 255 ≤ j ∧ j < 255 + i
          · rw [if_pos e4, if_pos (show 255 ≤ j ∧ j < 255 + (i + 1) by omega)]
          · rw [if_neg e4, if_neg (show ¬ (255 ≤ j ∧ j < 255 + (i + 1)) by omega)]
  log := fun a ha => by
    obtain ⟨f0, f1, f2, _⟩ := ex_facts ⟨i, hi⟩
    have ne : ∀ a b : Nat, a ≠ b → (⟨g, a, none⟩ : Addr) ≠ ⟨g, b, none⟩ := fun a b hab e => hab (by injection e)
    simp only at f0 f1 f2
    have h1 : ((wr.setCell ⟨g, i, none⟩ (.int .u8 ((ex i : Nat) : Int))).setCell ⟨g, i + 255, none⟩ (.int .u8 ((ex i : Nat) : Int))).cell? ⟨g, 512 + a, none⟩ = some (.int .i64 ((tL i a : Nat) : Int)) := by
      rw [World.cell?_setCell_other _ _ _ _ (ne _ _ (by omega)), World.cell?_setCell_other _ _ _ _ (ne _ _ (by omega))]; exact h.log a ha
    by_cases e1 : a = ex i
    · subst e1
      rw [World.cell?_setCell_same _ _ _ h1]
      unfold tL
      rw [if_pos ⟨by omega, by omega⟩, f2]
    · rw [World.cell?_setCell_other _ _ _ _ (ne _ _ (by omega)), h1]
      unfold tL
      obtain ⟨l0, l1⟩ := lg_facts ⟨a, ha⟩
      simp only at l0 l1
      by_cases e2 : a ≠ 0 ∧ lg a < i
      · rw [if_pos e2, if_pos ⟨e2.1, by omega⟩]
      · rw [if_neg e2, if_neg (fun e3 => e2 ⟨e3.1, by have : lg a ≠ i := fun e4 => e1 (by rw [← e4, l1 e3.1]); omega⟩)]
  free := fun j => (World.frozen?_setCell _ _ _ _).trans ((World.frozen?_setCell _ _ _ _).trans ((World.frozen?_setCell _ _ _ _).trans (h.free j)))
theorem zero_cells : Try.zeroCells155 = (List.replicate 512 (Value.int .u8 0) ++ List.replicate 256 (Value.int .i64 0)).toArray := by kernel_rfl
theorem zero_lo (j : Nat) (hj : j < 512) : Try.zeroCells155[j]? = some (.int .u8 0) := by
  rw [zero_cells, List.getElem?_toArray, List.getElem?_append_left (by rw [List.length_replicate]; exact hj), List.getElem?_replicate, if_pos hj]
theorem zero_hi (a : Nat) (ha : a < 256) : Try.zeroCells155[512 + a]? = some (.int .i64 0) := by
  rw [zero_cells, List.getElem?_toArray, List.getElem?_append_right (by rw [List.length_replicate]; omega), List.length_replicate, List.getElem?_replicate, if_pos (by omega)]
theorem TabInv.start (w : World) : TabInv (w.alloc (.cells Try.zeroCells155 155)) w.heap.size 0 := by
  have hb : (w.alloc (.cells Try.zeroCells155 155)).heap[w.heap.size]? = some (.cells Try.zeroCells155 155) := heap_alloc_new w _
  refine ⟨fun j hj => ?_, fun a ha => ?_, fun j => ?_⟩
  · have e : tE 0 j = 0 := by unfold tE; rw [if_neg (by omega), if_neg (by omega)]
    rw [e]
    unfold World.cell?
    rw [hb]
    exact zero_lo j hj
  · have e : tL 0 a = 0 := by unfold tL; rw [if_neg (by omega)]
    rw [e]
    unfold World.cell?
    rw [hb]
    exact zero_hi a ha
  · unfold World.frozen?
    rw [hb]
    simp
set_option maxHeartbeats 8000000 in
set_option maxRecDepth 100000 in
theorem impl_makeTables8.calls (w : World) :
    Calls Try.prog 75 #[] w fun e w' => ∃ g, e = .returned (.pointer (some ⟨g, 0, none⟩)) ∧ w.heap.size ≤ g ∧ TabInv w' g 255 ∧ Below w.heap.size w w' := by
  have hB := Aside0.mk (Below.refl w.heap.size w)
  have hT := Aside0.mk (TabInv.start w)
  go_enter Try.func75, Try.ntmps75
  go_wp2_with (first | (go_at_call 111; (with_reducible refine (impl_bytes8.calls 29 128 _ rfl).mono ?_); rintro e w1 ⟨rfl, hb⟩))
  have HB : Aside0 (Below w.heap.size w (w1.alloc (.cells #[.int .u8 29, .int .u8 128] 157))) := ⟨below_alloc (below_step (below_alloc (Below.refl _ _) _) hb) _⟩
  have HT : Aside0 (TabInv (w1.alloc (.cells #[.int .u8 29, .int .u8 128] 157)) w.heap.size 0) := ⟨(hT.out.below hb).block (Below.heap_alloc _ _ _ (hT.out.below hb).lt)⟩
  have hf0 : (w1.alloc (.cells #[.int .u8 29, .int .u8 128] 157)).cell? ⟨w1.heap.size, 0, none⟩ = some (.int .u8 29) := by unfold World.cell?; rw [show (w1.alloc (.cells #[.int .u8 29, .int .u8 128] 157)).heap[w1.heap.size]? = _ from heap_alloc_new w1 _]; rfl
  have hf1 : (w1.alloc (.cells #[.int .u8 29, .int .u8 128] 157)).cell? ⟨w1.heap.size, 1, none⟩ = some (.int .u8 128) := by unfold World.cell?; rw [show (w1.alloc (.cells #[.int .u8 29, .int .u8 128] 157)).heap[w1.heap.size]? = _ from heap_alloc_new w1 _]; rfl
  have hfg : w.heap.size ≠ w1.heap.size := Nat.ne_of_lt (hT.out.below hb).lt
  have hgg : w.heap.size ≤ w.heap.size := Nat.le_refl _
  clear hB hT hb
  generalize hg_ : w.heap.size = g at hfg hgg HT ⊢
  replace hgg : w.heap.size ≤ g := Nat.le_of_eq hg_
  clear hg_
  generalize w1.heap.size = f at *
  generalize w1.alloc (.cells #[.int .u8 29, .int .u8 128] 157) = w2 at *
  go_loopw [3, 8] (fun v3 v8 wr => ∃ i : Nat, i ≤ 255 ∧ v3 = .int .u8 ((ex i : Nat) : Int) ∧ v8 = .int .i64 (i : Int) ∧ wr.cell? ⟨f, 0, none⟩ = some (.int .u8 29) ∧ wr.cell? ⟨f, 1, none⟩ = some (.int .u8 128) ∧ Aside0 (TabInv wr g i) ∧ Aside0 (Below w.heap.size w wr)) (fun _ v8 _ => 255 - (intOf v8).toNat)
  case atStart => exact ⟨0, Nat.zero_le _, rfl, rfl, hf0, hf1, HT, HB⟩
  case round =>
    clear hf0 hf1 HT HB
    obtain ⟨i, hi, rfl, rfl, hf0, hf1, HT, HB⟩ := hrel
    by_cases hlt : i < 255
    · have hltI : (i : Int) < 255 := by omega
      obtain ⟨x0, x1, x2, x3⟩ := ex_facts ⟨i, hlt⟩
      simp only at x0 x1 x2 x3
      have hfr := HT.out.free
      have hN := Aside0.mk (HT.out.step hlt)
      have hNB := Aside0.mk (((HB.out.setCell (p := ⟨g, i, none⟩) hgg (.int .u8 ((ex i : Nat) : Int))).setCell (p := ⟨g, i + 255, none⟩) hgg (.int .u8 ((ex i : Nat) : Int))).setCell (p := ⟨g, 512 + ex i, none⟩) hgg (.int .i64 (i : Int)))
      obtain ⟨W1, hW1⟩ : ∃ W1, wr.setCell ⟨g, i, none⟩ (.int .u8 ((ex i : Nat) : Int)) = W1 := ⟨_, rfl⟩
      obtain ⟨W2, hW2⟩ : ∃ W2, W1.setCell ⟨g, i + 255, none⟩ (.int .u8 ((ex i : Nat) : Int)) = W2 := ⟨_, rfl⟩
      obtain ⟨W3, hW3⟩ : ∃ W3, W2.setCell ⟨g, 512 + ex i, none⟩ (.int .i64 (i : Int)) = W3 := ⟨_, rfl⟩
      rw [hW1, hW2, hW3] at hN hNB
      have c0 : wr.cell? ⟨g, i, none⟩ = some (.int .u8 ((tE i i : Nat) : Int)) := HT.out.exp i (by omega)
      have z0 : wr.frozen? ⟨g, i, none⟩ = false := hfr i
      have c1 : W1.cell? ⟨g, i + 255, none⟩ = some (.int .u8 ((tE i (i + 255) : Nat) : Int)) := by rw [← hW1, World.cell?_setCell_other _ _ _ _ (fun e => by injection e; omega)]; exact HT.out.exp _ (by omega)
      have z1 : W1.frozen? ⟨g, i + 255, none⟩ = false := by rw [← hW1]; exact (World.frozen?_setCell _ _ _ _).trans (hfr _)
      have c2 : W2.cell? ⟨g, 512 + ex i, none⟩ = some (.int .i64 ((tL i (ex i) : Nat) : Int)) := by rw [← hW2, World.cell?_setCell_other _ _ _ _ (fun e => by injection e; omega), ← hW1, World.cell?_setCell_other _ _ _ _ (fun e => by injection e; omega)]; exact HT.out.log _ x1
      have z2 : W2.frozen? ⟨g, 512 + ex i, none⟩ = false := by rw [← hW2, ← hW1]; exact (World.frozen?_setCell _ _ _ _).trans ((World.frozen?_setCell _ _ _ _).trans (hfr _))
      have d0 : W3.cell? ⟨f, 0, none⟩ = some (.int .u8 29) := by rw [← hW3, ← hW2, ← hW1, World.cell?_setCell_far _ _ _ _ hfg, World.cell?_setCell_far _ _ _ _ hfg, World.cell?_setCell_far _ _ _ _ hfg]; exact hf0
      have d1 : W3.cell? ⟨f, 1, none⟩ = some (.int .u8 128) := by rw [← hW3, ← hW2, ← hW1, World.cell?_setCell_far _ _ _ _ hfg, World.cell?_setCell_far _ _ _ _ hfg, World.cell?_setCell_far _ _ _ _ hfg]; exact hf1
      have hwi : IntKind.i64.wrap ((i : Int) + 1) = ((i + 1 : Nat) : Int) := by rw [IntKind.wrap_i64]; omega
      have hw5 : IntKind.i64.wrap ((i : Int) + 255) = ((i + 255 : Nat) : Int) := by rw [IntKind.wrap_i64]; omega
      have A3 := Aside0.mk x3
      clear HT HB hfr
      go_wp2_with (first | (go_at_call 112; (with_reducible refine (impl_field_uint8_double.calls 29 128 _ _ _ A3.out).mono ?_); rintro e w4 ⟨rfl, hb4⟩))
      exact ⟨⟨i + 1, by omega, rfl, rfl, pw_cell_below hb4 d0, pw_cell_below hb4 d1, ⟨hN.out.below hb4⟩, ⟨below_step hNB.out hb4⟩⟩, by simp [intOf]; omega⟩
    · have hltI : ¬ (i : Int) < 255 := by omega
      have e : i = 255 := by omega
      subst e
      go_wp2
      go_ret
      exact ⟨g, rfl, hgg, HT.out, HB.out⟩

/-! ### impl_tables8_inv: function 105 -/
/-- The table's inverse. -/
def tabInv (a : Nat) : Nat := if a = 0 then 0 else tE 255 (255 - lg a)
def impl_tables8_inv.f (_ : Int) (a : Int) : Option (Int) := some ((tabInv a.toNat : Nat) : Int)
theorem impl_tables8_inv.callsN (g : Nat) (a : Nat) (ha : a < 256) (w : World) (hT : TabInv w g 255) :
    Calls Try.prog 105 #[.pointer (some ⟨g, 0, none⟩), .int .u8 (a : Int)] w fun e w' => e = .returned (.int .u8 ((tabInv a : Nat) : Int)) ∧ Drawn0 w w' := by
  by_cases h0 : a = 0
  · subst h0
    go_enter Try.func105, Try.ntmps105
    go_wp2
    go_ret
    exact ⟨rfl, Drawn0.refl _⟩
  · have c0 : ((a : Int) == 0) = false := beq_eq_false_iff_ne.mpr (by omega)
    obtain ⟨l0, _⟩ := lg_facts ⟨a, ha⟩
    simp only at l0
    have e : tL 255 a = lg a := by unfold tL; rw [if_pos ⟨h0, l0⟩]
    have hl := hT.log a ha
    rw [e] at hl
    have he := hT.exp (255 - lg a) (by omega)
    have hw : IntKind.i64.wrap (255 - (lg a : Int)) = ((255 - lg a : Nat) : Int) := by rw [IntKind.wrap_i64]; omega
    have hr : tabInv a = tE 255 (255 - lg a) := by unfold tabInv; rw [if_neg h0]
    rw [hr]
    have b0 : (a : Int) < 256 := by omega
    have b1 : ((255 - lg a : Nat) : Int) < 512 := by omega
    go_enter Try.func105, Try.ntmps105
    have hl2 : w.drew.cell? ⟨g, 512 + a, none⟩ = some (.int .i64 ((lg a : Nat) : Int)) := hl
    have he2 : w.drew.cell? ⟨g, 255 - lg a, none⟩ = some (.int .u8 ((tE 255 (255 - lg a) : Nat) : Int)) := he
    go_wp2
    go_region
    all_goals go_wp2
    all_goals go_ret
    all_goals exact ⟨rfl, ⟨⟨1, rfl⟩⟩⟩
theorem impl_tables8_inv.calls {t : Int} (g : Nat) (a : Int) (r : Int) (w : World) (h : impl_tables8_inv.f t a = some r) (h0 : 0 ≤ a) (h1 : a < 256) (hT : TabInv w g 255) :
    Calls Try.prog 105 #[.pointer (some ⟨g, 0, none⟩), .int .u8 a] w fun e w' => e = .returned (.int .u8 r) ∧ Drawn0 w w' := by
  obtain ⟨m, rfl⟩ := Int.eq_ofNat_of_zero_le h0
  obtain rfl := Option.some.inj h
  exact impl_tables8_inv.callsN g m (by omega) w hT

end Go.Proofs.Ytcpmlelejlmpdaa.QFnRanges
