-- A text of this session, printed by a program of its own (wip/tools: xpatch.py, xprint.sh, mkq.py). No condition.
import Derived.Test.YtcpmlelejlmpdaaQFnExactEncodeShardsx0
import Derived.Test.YtcpmlelejlmpdaaQFnExactEncodeShardsx4
namespace Go.Proofs.Ytcpmlelejlmpdaa.QFnExactEncodeShards
open Go.RowKit Go.Proofs.YtcpmlelejlmpdaaW.PrintWords Go.Proofs.YtcpmlelejlmpdaaW.PrintLast Go.Proofs.YtcpmlelejlmpdaaW.PrintMore
attribute [local go_sem] max2_int min2_int max_two min_two max_three min_three max_four min_four   -- for this text's walks alone
set_option linter.unusedVariables false
set_option linter.unusedSimpArgs false

/-! ### impl_newPlant: function 66 -/
/-- (The plant's place is no number: its code, written as one number, stands for it.) -/
def plantNo (K M G : Int) : Int := (K * 100 + M) * 100 + G
def pK (p : Int) : Nat := (p / 10000).toNat
def pM (p : Int) : Nat := (p / 100 % 100).toNat
def pG (p : Int) : Nat := (p % 100).toNat
def impl_newPlant.f (K M G : Int) : Option (Int) := if 1 ≤ K ∧ K ≤ 32 ∧ 0 ≤ M ∧ M ≤ 16 ∧ 0 ≤ G ∧ G ≤ 32 then some (plantNo K M G) else none
def xr (a b : Nat) : Nat := a ^^^ b
def rowAt (K i n : Nat) : List Value := (List.range 32).map fun j => .int .u8 ((if j < n then tabInv (xr (K + i) j) else 0 : Nat) : Int)
def globAt (K i n : Nat) : List Value := .int .i64 ((K + i : Nat) : Int) :: rowAt K i n
def globs (K M : Nat) : List (List Value) := (List.range M).map fun i => globAt K i K
def locAt (K M i : Nat) : List Value := [.int .i64 ((K + M + i : Nat) : Int), .int .i64 (i : Int)]
def locs (K M G : Nat) : List (List Value) := (List.range G).map fun i => locAt K M i
/-- A plant in memory. -/
structure PlantIn (W : World) (g K M G : Nat) : Prop where
  tab : ∃ gT, W.cell? ⟨g, 0, none⟩ = some (.pointer (some ⟨gT, 0, none⟩)) ∧ TabInv W gT 255
  k : W.cell? ⟨g, 1, none⟩ = some (.int .i64 (K : Int))
  m : W.cell? ⟨g, 2, none⟩ = some (.int .i64 (M : Int))
  n : W.cell? ⟨g, 3, none⟩ = some (.int .i64 (G : Int))
  gl : ∃ A c, W.cell? ⟨g, 4, none⟩ = some (.slice A M c) ∧ (Kd.raw 33).C W A M (globs K M) ∧ ∀ ad, A = some ad → ∃ b, ad = ⟨b, 0, none⟩
  lo : ∃ A c, W.cell? ⟨g, 5, none⟩ = some (.slice A G c) ∧ (Kd.raw 2).C W A G (locs K M G) ∧ ∀ ad, A = some ad → ∃ b, ad = ⟨b, 0, none⟩
theorem PlantIn.lt {W : World} {g K M G : Nat} (h : PlantIn W g K M G) : g < W.heap.size := World.block_lt_of_cell? W ⟨g, 1, none⟩ h.k
theorem PlantIn.below {W W' : World} {g K M G : Nat} (h : PlantIn W g K M G) (hb : Below W.heap.size W W') : PlantIn W' g K M G where
  tab := by obtain ⟨gT, h1, h2⟩ := h.tab; exact ⟨gT, pw_cell_below hb h1, h2.below hb⟩
  k := pw_cell_below hb h.k
  m := pw_cell_below hb h.m
  n := pw_cell_below hb h.n
  gl := by obtain ⟨A, c, h1, h2, h3⟩ := h.gl; exact ⟨A, c, pw_cell_below hb h1, Kd.C_below h2 hb, h3⟩
  lo := by obtain ⟨A, c, h1, h2, h3⟩ := h.lo; exact ⟨A, c, pw_cell_below hb h1, Kd.C_below h2 hb, h3⟩
theorem plantNo_of (K M G : Nat) (hK : K ≤ 32) (hM : M ≤ 16) (hG : G ≤ 32) : pK (plantNo K M G) = K ∧ pM (plantNo K M G) = M ∧ pG (plantNo K M G) = G := by
  unfold pK pM pG plantNo
  refine ⟨?_, ?_, ?_⟩ <;> omega
/-- A plant in memory, by its number. -/
structure PlantAt (W : World) (g : Nat) (p : Int) : Prop where
  k1 : 1 ≤ pK p
  k2 : pK p ≤ 32
  m2 : pM p ≤ 16
  g2 : pG p ≤ 32
  at_ : PlantIn W g (pK p) (pM p) (pG p)
theorem PlantAt.below {W W' : World} {g : Nat} {p : Int} (h : PlantAt W g p) (hb : Below W.heap.size W W') : PlantAt W' g p := ⟨h.k1, h.k2, h.m2, h.g2, h.at_.below hb⟩
theorem rowAt_len (K i n : Nat) : (rowAt K i n).length = 32 := by unfold rowAt; simp
theorem globAt_len (K i n : Nat) : (globAt K i n).length = 33 := by unfold globAt; simp [rowAt_len]
theorem globAt_set (K i j : Nat) (hj : j < 32) : (globAt K i j).toArray.setIfInBounds (1 + j) (.int .u8 ((tabInv (xr (K + i) j) : Nat) : Int)) = (globAt K i (j + 1)).toArray := by
  rw [List.setIfInBounds_toArray]
  unfold globAt
  rw [show 1 + j = j + 1 by omega, List.set_cons_succ]
  congr 2
  apply List.ext_getElem?
  intro t
  unfold rowAt
  rw [List.getElem?_set, List.getElem?_map, List.getElem?_map, List.length_map, List.length_range]
  by_cases h : j = t
  · subst h
    rw [if_pos rfl, if_pos hj, List.getElem?_range hj]
    show some _ = some (Value.int .u8 ((if j < j + 1 then tabInv (xr (K + i) j) else 0 : Nat) : Int))
    rw [if_pos (by omega)]
  · rw [if_neg h]
    by_cases ht : t < 32
    · rw [List.getElem?_range ht]
      show some (Value.int .u8 ((if t < j then tabInv (xr (K + i) t) else 0 : Nat) : Int)) = some (Value.int .u8 ((if t < j + 1 then tabInv (xr (K + i) t) else 0 : Nat) : Int))
      by_cases h2 : t < j
      · rw [if_pos h2, if_pos (by omega)]
      · rw [if_neg h2, if_neg (by omega)]
    · rw [List.getElem?_eq_none (by simp; omega)]; rfl
theorem globAt_get (K i n j : Nat) (hj : j < 33) : ∃ v, (globAt K i n).toArray[j]? = some v := by
  rw [List.getElem?_toArray, List.getElem?_eq_getElem (by rw [globAt_len]; exact hj)]
  exact ⟨_, rfl⟩
theorem globAt_one (K i n : Nat) : (globAt K i n).toArray.all (·.oneCell') = true := by
  rw [List.all_toArray]
  unfold globAt rowAt
  simp [Value.oneCell']
theorem fold_set : ∀ (l : List Value) (k : Nat) (pre post : List Value), pre.length = k → post.length = l.length → List.foldl (fun (cs : Array Value) (x : Value × Nat) => cs.setIfInBounds x.2 x.1) (pre ++ post).toArray (l.zipIdx k) = (pre ++ l).toArray
  | [], k, pre, post, _, h2 => by
    have : post = [] := List.eq_nil_of_length_eq_zero (by simpa using h2)
    subst this
    rfl
  | a :: l, k, pre, [], _, h2 => by simp at h2
  | a :: l, k, pre, p :: post, h1, h2 => by
    rw [List.zipIdx_cons, List.foldl_cons, List.setIfInBounds_toArray, List.set_append_right _ _ (by omega), h1, Nat.sub_self, List.set_cons_zero]
    have := fold_set l (k + 1) (pre ++ [a]) post (by simp [h1]) (by simpa using h2)
    simpa using this
theorem fold_zip (l : List Value) (cs : Array Value) (h : cs.size = l.length) : List.foldl (fun (cs : Array Value) (x : Value × Nat) => cs.setIfInBounds x.2 x.1) cs l.zipIdx = l.toArray := by
  have := fold_set l 0 [] cs.toList rfl (by simpa using h)
  simpa using this
theorem xor_nat (a b : Nat) (ha : a < 128) (hb : b < 128) : (Go.bits .xor .i64 (a : Int) (b : Int)) % 256 = ((xr a b : Nat) : Int) ∧ xr a b < 256 := by
  have hx : a ^^^ b < 2 ^ 7 := Nat.xor_lt_two_pow (by simpa using ha) (by simpa using hb)
  have e : Go.bits .xor .i64 (a : Int) (b : Int) = ((a ^^^ b : Nat) : Int) := by
    show IntKind.i64.wrap (((BitVec.ofInt 64 (a : Int)) ^^^ (BitVec.ofInt 64 (b : Int))).toNat : Int) = _
    rw [BitVec.toNat_xor, BitVec.ofInt_natCast, BitVec.ofInt_natCast, BitVec.toNat_ofNat, BitVec.toNat_ofNat, Nat.mod_eq_of_lt (by omega : a < 2 ^ 64), Nat.mod_eq_of_lt (by omega : b < 2 ^ 64), IntKind.wrap_i64]
    omega
  unfold xr
  rw [e]
  omega
theorem below_row {w W : World} (h : Below w.heap.size w W) {g : Nat} (hg : w.heap.size ≤ g) (cs : Array Value) : Below w.heap.size w (W.setRow g cs) :=
  ⟨h.os, h.tape, h.output, by rw [setRow_size]; exact h.size, fun i hi => (setRow_other W g i cs (by omega)).trans (h.block i hi)⟩
section
variable {ops : Array Oper} {rest : List Oper} {o : Oper} {a : Act} {Q : Exit → Act → World → Prop}
/-- A whole struct (or array) into a block of its own. -/
theorem row_store {W : World} (hgd : o.guard = none) (ty : TypeId) (x y : Operand) (ho : o.op = .store ty x y) (hN : o.dst = none) (g : Nat) (old cells : Array Value) (hx : a.eval x = .pointer (some ⟨g, 0, none⟩)) (hy : a.eval y = .agg cells)
    (hb : W.heap[g]? = some (.cells old ty (0, 0))) (hi : (Try.prog.info? ty).map (·.size) = some cells.size) (hs : old.size = cells.size) (h1 : cells.all (·.oneCell') = true)
    (h : ∀ W', W' = W.setRow g cells → W'.heap[g]? = some (.cells cells ty (0, 0)) → wpList Try.prog ops Q rest a W') : wpList Try.prog ops Q (o :: rest) a W := by
  refine wpList_plain hgd fun K hK => ?_
  unfold Oper.wp execOp
  simp only [ho, hx, hy, Instr.storeAt, Instr.sureAddr, Sem.run_bind, Sem.run_pure, Result.andThen_ok, run_storeVar_row W g ty ty old cells hb hi hs h1]
  show K (a.put o.dst undef) _
  rw [hN]
  exact hK _ _ (h _ rfl (setRow_heap W g old cells ty (0, 0) hb))
/-- A whole struct read. -/
theorem row_load {W : World} {oi : Oper} {a : Act} (ty : TypeId) (x : Operand) (ho : oi.op = .load ty x) (g : Nat) (cells : Array Value) (hx : a.eval x = .pointer (some ⟨g, 0, none⟩)) (hl : (loadVar ty ⟨g, 0, none⟩).run Try.prog W = .ok (.agg cells) W) :
    (execOp a.eval oi).run Try.prog W = .ok (.value (.agg cells)) W := by
  simp [execOp, ho, hx, Instr.loadAt, Instr.sureAddr, hl]
end

set_option maxHeartbeats 8000000 in
set_option maxRecDepth 100000 in
theorem impl_newPlant.callsN (cK cM cG : Nat) (hcK : cK ≤ 32) (hcM : cM ≤ 16) (hcG : cG ≤ 32) (w : World) :
    Calls Try.prog 66 #[.agg #[.int .i64 (cK : Int), .int .i64 (cM : Int), .int .i64 (cG : Int)]] w fun e w' => ∃ g, e = .returned (.pointer (some ⟨g, 0, none⟩)) ∧ w.heap.size ≤ g ∧ PlantIn w' g cK cM cG ∧ Below w.heap.size w w' := by
  have HB := Aside0.mk (Below.refl w.heap.size w)
  go_enter Try.func66, Try.ntmps66
  go_wp2_with (first | ((with_reducible refine gate_dst (N := 1) rfl ?_); refine box_event ?hg (N := 1) ?hd (cs := #[.int .i64 (cK : Int), .int .i64 (cM : Int), .int .i64 (cG : Int)]) (t := 26) ?hr ?_; (case hd => rfl); (case hg => rfl); (case hr => first | (go_simp; done) | (go_simp; rfl)); intro gc hg w1 hbox hb; have n1_ := Aside0.mk (below_step HB.out hb); have n2_ := Aside0.mk (hbox); have n3_ := Aside0.mk ((by rw [hg]; exact below_size HB.out) : w.heap.size ≤ gc); clear HB; have HB := n1_; have BKc := n2_; have GEc := n3_; clear n1_ n2_ n3_; clear hb hbox hg))
  have n2_ := Aside0.mk (blk_drew BKc.out)
  have n3_ := Aside0.mk (below_drew1 HB.out)
  clear BKc HB
  have BKc := n2_
  have HB := n3_
  clear n2_ n3_
  refine start_ (n := 5) (S := fun w' => w'.cell? ⟨gc, 0, none⟩ = some (.int .i64 (cK : Int)) ∧ w'.cell? ⟨gc, 1, none⟩ = some (.int .i64 (cM : Int)) ∧ w'.cell? ⟨gc, 2, none⟩ = some (.int .i64 (cG : Int))) (ds := []) #[false, false, false, false, false] (by kernel_rfl) rfl rfl ⟨(blk_cell BKc.out 0).trans rfl, (blk_cell BKc.out 1).trans rfl, (blk_cell BKc.out 2).trans rfl⟩ (fun hHeld => ?_)
  generalize w1.drew = w2 at BKc HB hHeld ⊢
  refine take_ (i := 1) (N := some 9) (v := ?_) (a' := ?_) #[false, true, false, false, false] rfl rfl (by kernel_rfl) (fun _ _ _ h => h) (Or.inl ⟨by rfl, ?_⟩) hHeld ?_ ?_; rotate_left; rintro w' ⟨s0, s1, s2⟩; go_simp; with_reducible rfl; rotate_left; simp only [Cap.pz]; rfl
  refine one_ (i := 0) (N := some 8) #[true, true, false, false, false] rfl rfl (by kernel_rfl) (by decide) (fun Kq hK => ?_)
  refine goes_ Try.func75 (by kernel_rfl) rfl #[] (by rfl) rfl rfl (by (try simp only [List.map_toArray, List.map_cons, List.map_nil]); first | done | rfl) ?_
  with_reducible refine (impl_makeTables8.calls _).mono ?_
  rintro e w3 ⟨gT, rfl, hgT, hT, hb⟩
  refine ⟨_, rfl, ?_⟩
  have n0_ := Aside0.mk (blk_below BKc.out hb)
  have n1_ := Aside0.mk (below_step HB.out hb)
  have HT := Aside0.mk hT
  clear BKc HB hT hb
  have BKc := n0_
  have HB := n1_
  clear n0_ n1_
  refine hK.out _ _ ⟨(blk_cell BKc.out 0).trans rfl, (blk_cell BKc.out 1).trans rfl, (blk_cell BKc.out 2).trans rfl⟩ (fun hHeld => ?_)
  clear hK Kq
  refine norm_ (a' := ?_) ?_ ?_; rotate_left; show Act.put _ (some 8) _ = _; simp only [Cap.pz]; rfl
  refine pure_ (i := 2) (N := some 10) (v := ?_) (a' := ?_) #[true, true, true, false, false] rfl rfl (by kernel_rfl) (fun _ _ _ h => h) (Or.inl ⟨by rfl, ?_⟩) ?_ ?_; rotate_left; intro w'; go_simp; with_reducible rfl; rotate_left; simp only [Cap.pz]; rfl
  refine one_ (i := 3) (N := some 11) #[true, true, true, true, false] rfl rfl (by kernel_rfl) (by decide) (fun Kq hK => ?_)
  refine value_ (w1 := ?_) (v := ?_) (by rfl) rfl ?_ ?_
  rotate_left 2
  · go_simp
    constructor
    · rfl
    · rfl
  refine hK.out _ _ ⟨(blk_cell (blk_alloc BKc.out _) 0).trans rfl, (blk_cell (blk_alloc BKc.out _) 1).trans rfl, (blk_cell (blk_alloc BKc.out _) 2).trans rfl⟩ (fun hHeld => ?_)
  clear hK Kq
  refine norm_ (a' := ?_) ?_ ?_; rotate_left; show Act.put _ (some 11) _ = _; simp only [Cap.pz]; rfl
  refine pure_ (i := 4) (N := some 3) (v := ?_) (a' := ?_) #[true, true, true, true, true] rfl rfl (by kernel_rfl) (fun _ _ _ h => h) (Or.inl ⟨by rfl, ?_⟩) ?_ ?_; rotate_left; intro w'; go_simp; with_reducible rfl; rotate_left; simp only [Cap.pz]; rfl
  refine done_ (by kernel_rfl) ?_
  clear hHeld
  have n0_ := Aside0.mk (blk_alloc BKc.out (.cells #[.pointer (some ⟨gT, 0, none⟩), .int .i64 (cK : Int), .int .i64 (cM : Int), .int .i64 (cG : Int), .slice none 0 0, .slice none 0 0] 142))
  have n1_ := Aside0.mk (blk_new w3 (.cells #[.pointer (some ⟨gT, 0, none⟩), .int .i64 (cK : Int), .int .i64 (cM : Int), .int .i64 (cG : Int), .slice none 0 0, .slice none 0 0] 142))
  have n2_ := Aside0.mk (HT.out.block (Below.heap_alloc w3 (.cells #[.pointer (some ⟨gT, 0, none⟩), .int .i64 (cK : Int), .int .i64 (cM : Int), .int .i64 (cG : Int), .slice none 0 0, .slice none 0 0] 142) _ HT.out.lt))
  have n3_ := Aside0.mk (below_alloc HB.out (.cells #[.pointer (some ⟨gT, 0, none⟩), .int .i64 (cK : Int), .int .i64 (cM : Int), .int .i64 (cG : Int), .slice none 0 0, .slice none 0 0] 142))
  have GEp := Aside0.mk (below_size HB.out)
  have NEc := Aside0.mk (Nat.ne_of_lt (blk_lt BKc.out))
  have NET := Aside0.mk (Nat.ne_of_lt HT.out.lt)
  clear BKc HT HB
  generalize w3.heap.size = gp at n1_ GEp NEc NET ⊢
  generalize w3.alloc (.cells #[.pointer (some ⟨gT, 0, none⟩), .int .i64 (cK : Int), .int .i64 (cM : Int), .int .i64 (cG : Int), .slice none 0 0, .slice none 0 0] 142) = w4 at n0_ n1_ n2_ n3_ ⊢
  have BKc := n0_
  have BKp := n1_
  have HT := n2_
  have HB := n3_
  clear n0_ n1_ n2_ n3_
  have hcz1 : w4.cell? ⟨gc, 1, none⟩ = some (.int .i64 (cM : Int)) := (blk_cell BKc.out 1).trans rfl
  go_wp2
  go_loopw [14] (fun v14 wr => ∃ (i : Nat) (vG : Value), i ≤ cM ∧ v14 = .int .i64 (i : Int) ∧ Aside0 (wr.heap[gc]? = some (.cells #[.int .i64 (cK : Int), .int .i64 (cM : Int), .int .i64 (cG : Int)] 26 (0, 0))) ∧ Aside0 (wr.heap[gp]? = some (.cells #[.pointer (some ⟨gT, 0, none⟩), .int .i64 (cK : Int), .int .i64 (cM : Int), .int .i64 (cG : Int), vG, .slice none 0 0] 142 (0, 0))) ∧ Aside0 ((Kd.raw 33).R 147 wr w.heap.size (fun k => k ≠ gp ∧ k ≠ gc ∧ k ≠ gT) vG ((List.range i).map fun j => globAt cK j cK)) ∧ Aside0 (TabInv wr gT 255) ∧ Aside0 (Below w.heap.size w wr)) (fun v14 _ => cM - (intOf v14).toNat)
  case atStart => exact ⟨0, _, Nat.zero_le _, rfl, BKc, BKp, ⟨Kd.R_nil _ _ _ _ _⟩, HT, HB⟩
  case round =>
    clear BKc BKp HT HB hcz1
    obtain ⟨i, vG, hi, rfl, BKc, BKp, HR, HT, HB⟩ := hrel
    have hcz0 : wr.cell? ⟨gc, 0, none⟩ = some (.int .i64 (cK : Int)) := (blk_cell BKc.out 0).trans rfl
    by_cases hlt : i < cM
    · have c0 : decide ((i : Int) < (cM : Int)) = true := decide_eq_true (by omega)
      have hwK : IntKind.i64.wrap ((cK : Int) + (i : Int)) = ((cK + i : Nat) : Int) := by rw [IntKind.wrap_i64]; omega
      go_wp2_with (first | ((with_reducible refine gate_dst (N := 5) rfl ?_); refine box_event ?hg (N := 5) ?hd (cs := (Value.int .i64 0 :: List.replicate 32 (.int .u8 0)).toArray) (t := 147) ?hr ?_; (case hd => rfl); (case hg => rfl); (case hr => first | (go_simp; done) | (go_simp; rfl)); intro gb hgb w5 hbox hb; have GEg := Aside0.mk ((by rw [hgb]; exact below_size HB.out) : w.heap.size ≤ gb); have NEcg := Aside0.mk ((by have := blk_lt BKc.out; omega) : gc ≠ gb); have NEpg := Aside0.mk ((by have := blk_lt BKp.out; omega) : gp ≠ gb); have NETg := Aside0.mk ((by have := HT.out.lt; omega) : gT ≠ gb); have n0_ : Aside0 (w5.heap[gc]? = some (.cells #[.int .i64 (cK : Int), .int .i64 (cM : Int), .int .i64 (cG : Int)] 26 (0, 0))) := ⟨blk_below BKc.out hb⟩; have n1_ : Aside0 (w5.heap[gp]? = some (.cells #[.pointer (some ⟨gT, 0, none⟩), .int .i64 (cK : Int), .int .i64 (cM : Int), .int .i64 (cG : Int), vG, .slice none 0 0] 142 (0, 0))) := ⟨blk_below BKp.out hb⟩; have n2_ : Aside0 (TabInv w5 gT 255) := ⟨HT.out.below hb⟩; have n3_ : Aside0 (((Kd.raw 33).R 147 w5 w.heap.size (fun k => (k ≠ gp ∧ k ≠ gc ∧ k ≠ gT) ∧ k ≠ gb) vG ((List.range i).map fun j => globAt cK j cK))) := ⟨Kd.R_mono (Kd.R_below (Kd.R_bound HR.out) hb) (fun k hk => ⟨hk.1, by have := hk.2.2.1; omega⟩)⟩; have n4_ : Aside0 (Below w.heap.size w w5) := ⟨below_step HB.out hb⟩; clear BKc BKp HT HR HB; have BKc := n0_; have BKp := n1_; have HT := n2_; have HR := n3_; have HB := n4_; clear n0_ n1_ n2_ n3_ n4_; have BKg := Aside0.mk hbox; clear hb hbox hgb) | ((with_reducible refine gate_store (t := 147) (p := 5) rfl ?_); (refine row_store (by rfl) 147 (.tmp 5) (.tmp 22) rfl rfl gb _ (globAt cK i 0).toArray (by rfl) (by kernel_rfl) BKg.out (by kernel_rfl) (by simp [globAt_len]) ?h1 ?_); (case h1 => exact globAt_one _ _ _); intro w6 hw6 hbg; have n0_ : Aside0 (w6.heap[gc]? = some (.cells #[.int .i64 (cK : Int), .int .i64 (cM : Int), .int .i64 (cG : Int)] 26 (0, 0))) := ⟨by rw [hw6]; exact (setRow_other _ _ _ _ NEcg.out).trans BKc.out⟩; have n1_ : Aside0 (w6.heap[gp]? = some (.cells #[.pointer (some ⟨gT, 0, none⟩), .int .i64 (cK : Int), .int .i64 (cM : Int), .int .i64 (cG : Int), vG, .slice none 0 0] 142 (0, 0))) := ⟨by rw [hw6]; exact (setRow_other _ _ _ _ NEpg.out).trans BKp.out⟩; have n2_ : Aside0 (TabInv w6 gT 255) := ⟨by rw [hw6]; exact HT.out.block (setRow_other _ _ _ _ NETg.out)⟩; have n3_ : Aside0 (((Kd.raw 33).R 147 w6 w.heap.size (fun k => (k ≠ gp ∧ k ≠ gc ∧ k ≠ gT) ∧ k ≠ gb) vG ((List.range i).map fun j => globAt cK j cK))) := ⟨by rw [hw6]; exact Kd.R_step HR.out (fun k ho _ => setRow_other _ _ _ _ ho.2)⟩; have n4_ : Aside0 (Below w.heap.size w w6) := ⟨by rw [hw6]; exact below_row HB.out GEg.out _⟩; clear BKc BKp HT HR HB; have BKc := n0_; have BKp := n1_; have HT := n2_; have HR := n3_; have HB := n4_; clear n0_ n1_ n2_ n3_ n4_; clear BKg hw6; have BKg := Aside0.mk hbg; clear hbg; have hcz6 : w6.cell? ⟨gc, 0, none⟩ = some (.int .i64 (cK : Int)) := (blk_cell BKc.out 0).trans rfl))
      go_loopw [25] (fun v25 wq => ∃ (j : Nat), j ≤ cK ∧ v25 = .int .i64 (j : Int) ∧ Aside0 (wq.heap[gc]? = some (.cells #[.int .i64 (cK : Int), .int .i64 (cM : Int), .int .i64 (cG : Int)] 26 (0, 0))) ∧ Aside0 (wq.heap[gp]? = some (.cells #[.pointer (some ⟨gT, 0, none⟩), .int .i64 (cK : Int), .int .i64 (cM : Int), .int .i64 (cG : Int), vG, .slice none 0 0] 142 (0, 0))) ∧ Aside0 (wq.heap[gb]? = some (.cells (globAt cK i j).toArray 147 (0, 0))) ∧ Aside0 ((Kd.raw 33).R 147 wq w.heap.size (fun k => (k ≠ gp ∧ k ≠ gc ∧ k ≠ gT) ∧ k ≠ gb) vG ((List.range i).map fun j => globAt cK j cK)) ∧ Aside0 (TabInv wq gT 255) ∧ Aside0 (Below w.heap.size w wq)) (fun v25 _ => cK - (intOf v25).toNat)
      case atStart => exact ⟨0, Nat.zero_le _, rfl, BKc, BKp, BKg, HR, HT, HB⟩
      case round =>
        clear BKc BKp BKg HR HT HB hcz6 hcz0
        obtain ⟨j, hj, rfl, BKc, BKp, BKg, HR, HT, HB⟩ := hrel
        by_cases hlj : j < cK
        · have c1 : decide ((j : Int) < (cK : Int)) = true := decide_eq_true (by omega)
          have hj32 : (j : Int) < 32 := by omega
          have hxw : ((cK + i : Nat) : Int) = wrap64 ((cK : Int) + (i : Int)) := by unfold wrap64; omega
          obtain ⟨hx1, hx2⟩ := xor_nat (cK + i) j (by omega) (by omega)
          have hxe : IntKind.u8.wrap (Go.bits .xor .i64 (wrap64 ((cK : Int) + (i : Int))) (j : Int)) = ((xr (cK + i) j : Nat) : Int) := by rw [← hxw, IntKind.wrap_u8]; exact hx1
          clear hx1
          go_wp2
          have n0_ : Aside0 (wr.drew.heap[gc]? = some (.cells #[.int .i64 (cK : Int), .int .i64 (cM : Int), .int .i64 (cG : Int)] 26 (0, 0))) := ⟨blk_drew BKc.out⟩
          have n1_ : Aside0 (wr.drew.heap[gp]? = some (.cells #[.pointer (some ⟨gT, 0, none⟩), .int .i64 (cK : Int), .int .i64 (cM : Int), .int .i64 (cG : Int), vG, .slice none 0 0] 142 (0, 0))) := ⟨blk_drew BKp.out⟩
          have n2_ : Aside0 (wr.drew.heap[gb]? = some (.cells (globAt cK i j).toArray 147 (0, 0))) := ⟨blk_drew BKg.out⟩
          have n3_ : Aside0 (TabInv wr.drew gT 255) := ⟨HT.out.block rfl⟩
          have n4_ : Aside0 (((Kd.raw 33).R 147 wr.drew w.heap.size (fun k => (k ≠ gp ∧ k ≠ gc ∧ k ≠ gT) ∧ k ≠ gb) vG ((List.range i).map fun j => globAt cK j cK))) := ⟨Kd.R_drew HR.out⟩
          have n5_ : Aside0 (Below w.heap.size w wr.drew) := ⟨below_drew1 HB.out⟩
          clear BKc BKp BKg HT HR HB
          have BKc := n0_
          have BKp := n1_
          have BKg := n2_
          have HT := n3_
          have HR := n4_
          have HB := n5_
          clear n0_ n1_ n2_ n3_ n4_ n5_
          refine start_ (n := 16) (S := fun w' => w'.cell? ⟨gc, 0, none⟩ = some (.int .i64 (cK : Int)) ∧ w'.cell? ⟨gp, 0, none⟩ = some (.pointer (some ⟨gT, 0, none⟩))) (ds := [15]) #[false, false, false, false, false, false, false, false, false, false, false, false, false, false, false, false] (by kernel_rfl) rfl rfl ⟨(blk_cell BKc.out 0).trans rfl, (blk_cell BKp.out 0).trans rfl⟩ (fun hHeld => ?_)
          generalize wr.drew = w7 at BKc BKp BKg HT HR HB hHeld ⊢
          refine pure_ (i := 0) (N := some 28) (v := ?_) (a' := ?_) #[true, false, false, false, false, false, false, false, false, false, false, false, false, false, false, false] rfl rfl (by kernel_rfl) (fun _ _ _ h => h) (Or.inl ⟨by rfl, ?_⟩) ?_ ?_; rotate_left; intro w'; go_simp; with_reducible rfl; rotate_left; simp only [Cap.pz]; rfl
          refine pure_ (i := 1) (N := some 29) (v := ?_) (a' := ?_) #[true, true, false, false, false, false, false, false, false, false, false, false, false, false, false, false] rfl rfl (by kernel_rfl) (fun _ _ _ h => h) (Or.inl ⟨by rfl, ?_⟩) ?_ ?_; rotate_left; intro w'; go_simp; with_reducible rfl; rotate_left; simp only [Cap.pz]; rfl
          refine pure_ (i := 2) (N := some 30) (v := ?_) (a' := ?_) #[true, true, true, false, false, false, false, false, false, false, false, false, false, false, false, false] rfl rfl (by kernel_rfl) (fun _ _ _ h => h) (Or.inl ⟨by rfl, ?_⟩) ?_ ?_; rotate_left; intro w'; go_simp; with_reducible rfl; rotate_left; simp only [Cap.pz]; rfl
          refine pure_ (i := 3) (N := some 31) (v := ?_) (a' := ?_) #[true, true, true, true, false, false, false, false, false, false, false, false, false, false, false, false] rfl rfl (by kernel_rfl) (fun _ _ _ h => h) (Or.inl ⟨by rfl, ?_⟩) ?_ ?_; rotate_left; intro w'; go_simp; with_reducible rfl; rotate_left; simp only [Cap.pz]; rfl
          refine take_ (i := 4) (N := some 32) (v := ?_) (a' := ?_) #[true, true, true, true, true, false, false, false, false, false, false, false, false, false, false, false] rfl rfl (by kernel_rfl) (fun _ _ _ h => h) (Or.inl ⟨by rfl, ?_⟩) hHeld ?_ ?_; rotate_left; rintro w' ⟨s0, s1⟩; go_simp; with_reducible rfl; rotate_left; simp only [Cap.pz]; rfl
          refine pure_ (i := 5) (N := some 33) (v := ?_) (a' := ?_) #[true, true, true, true, true, true, false, false, false, false, false, false, false, false, false, false] rfl rfl (by kernel_rfl) (fun _ _ _ h => h) (Or.inl ⟨by rfl, ?_⟩) ?_ ?_; rotate_left; intro w'; go_simp; with_reducible rfl; rotate_left; simp only [Cap.pz]; rfl
          refine take_ (i := 6) (N := some 34) (v := ?_) (a' := ?_) #[true, true, true, true, true, true, true, false, false, false, false, false, false, false, false, false] rfl rfl (by kernel_rfl) (fun _ _ _ h => h) (Or.inl ⟨by rfl, ?_⟩) hHeld ?_ ?_; rotate_left; rintro w' ⟨s0, s1⟩; go_simp; with_reducible rfl; rotate_left; simp only [Cap.pz]; rfl
          refine pure_ (i := 7) (N := some 35) (v := ?_) (a' := ?_) #[true, true, true, true, true, true, true, true, false, false, false, false, false, false, false, false] rfl rfl (by kernel_rfl) (fun _ _ _ h => h) (Or.inl ⟨by rfl, ?_⟩) ?_ ?_; rotate_left; intro w'; go_simp; with_reducible rfl; rotate_left; simp only [Cap.pz]; rfl
          refine pure_ (i := 8) (N := some 36) (v := ?_) (a' := ?_) #[true, true, true, true, true, true, true, true, true, false, false, false, false, false, false, false] rfl rfl (by kernel_rfl) (fun _ _ _ h => h) (Or.inl ⟨by rfl, ?_⟩) ?_ ?_; rotate_left; intro w'; go_simp; with_reducible rfl; rotate_left; simp only [Cap.pz]; rfl
          refine pure_ (i := 9) (N := some 37) (v := ?_) (a' := ?_) #[true, true, true, true, true, true, true, true, true, true, false, false, false, false, false, false] rfl rfl (by kernel_rfl) (fun _ _ _ h => h) (Or.inl ⟨by rfl, ?_⟩) ?_ ?_; rotate_left; intro w'; go_simp; with_reducible rfl; rotate_left; simp only [Cap.pz]; rfl
          refine pure_ (i := 10) (N := some 38) (v := ?_) (a' := ?_) #[true, true, true, true, true, true, true, true, true, true, true, false, false, false, false, false] rfl rfl (by kernel_rfl) (fun _ _ _ h => h) (Or.inl ⟨by rfl, ?_⟩) ?_ ?_; rotate_left; intro w'; go_simp; with_reducible rfl; rotate_left; simp only [Cap.pz]; rfl
          refine pure_ (i := 11) (N := some 39) (v := ?_) (a' := ?_) #[true, true, true, true, true, true, true, true, true, true, true, true, false, false, false, false] rfl rfl (by kernel_rfl) (fun _ _ _ h => h) (Or.inl ⟨by rfl, ?_⟩) ?_ ?_; rotate_left; intro w'; go_simp; with_reducible rfl; rotate_left; simp only [Cap.pz]; rfl
          refine pure_ (i := 13) (N := some 41) (v := ?_) (a' := ?_) #[true, true, true, true, true, true, true, true, true, true, true, true, false, true, false, false] rfl rfl (by kernel_rfl) (fun _ _ _ h => h) (Or.inl ⟨by rfl, ?_⟩) ?_ ?_; rotate_left; intro w'; go_simp; with_reducible rfl; rotate_left; simp only [Cap.pz]; rfl
          refine one_ (i := 12) (N := some 40) #[true, true, true, true, true, true, true, true, true, true, true, true, true, true, false, false] rfl rfl (by kernel_rfl) (by decide) (fun Kq hK => ?_)
          refine goes_ Try.func105 (by kernel_rfl) rfl #[.pointer (some ⟨gT, 0, none⟩), .int .u8 ((xr (cK + i) j : Nat) : Int)] (by rfl) rfl rfl (by simp only [List.map_toArray, List.map_cons, List.map_nil]; rfl) ?_
          with_reducible refine (impl_tables8_inv.callsN gT (xr (cK + i) j) hx2 _ HT.out).mono ?_
          rintro e w' ⟨rfl, ⟨nd, rfl⟩⟩
          refine ⟨_, rfl, ?_⟩
          refine hK.out _ _ ⟨(blk_cell BKc.out 0).trans rfl, (blk_cell BKp.out 0).trans rfl⟩ (fun hHeld => ?_)
          clear hK Kq
          refine norm_ (a' := ?_) ?_ ?_; rotate_left; show Act.put _ (some 40) _ = _; simp only [Cap.pz]; rfl
          refine pure_ (i := 14) (N := some 42) (v := ?_) (a' := ?_) #[true, true, true, true, true, true, true, true, true, true, true, true, true, true, true, false] rfl rfl (by kernel_rfl) (fun _ _ _ h => h) (Or.inl ⟨by rfl, ?_⟩) ?_ ?_; rotate_left; intro w'; go_simp; with_reducible rfl; rotate_left; simp only [Cap.pz]; rfl
          refine last_ (i := 15) (N := none) #[true, true, true, true, true, true, true, true, true, true, true, true, true, true, true, true] rfl rfl (by kernel_rfl) (by decide) (fun Kq hK => ?_)
          obtain ⟨vq, hvq⟩ := globAt_get cK i j (1 + j) (by omega)
          have hcg : (w7.drewN nd).cell? ⟨gb, 1 + j, none⟩ = some vq := (blk_cell BKg.out (1 + j)).trans hvq
          have hfg := blk_frozen BKg.out (1 + j)
          refine skip_ (w1 := ?_) (by rfl) rfl ?_ ?_
          rotate_left
          · go_simp
            rfl
          refine hK.out _ _ ?_
          clear hK Kq
          refine done_ (by kernel_rfl) ?_
          go_wp2
          refine ⟨⟨j + 1, by omega, by go_num, ⟨blk_far (blk_drewN BKc.out nd) NEcg.out _⟩, ⟨blk_far (blk_drewN BKp.out nd) NEpg.out _⟩, ⟨blk_put (blk_drewN BKg.out nd) (1 + j) _ (globAt_set cK i j (by omega))⟩, ⟨Kd.R_step (Kd.R_drewN HR.out nd) (fun k ho _ => Below.heap_setCell _ _ _ k ho.2)⟩, ⟨(HT.out.block (w' := w7.drewN nd) rfl).block (Below.heap_setCell _ _ _ gT NETg.out)⟩, ⟨below_set (pw_below_drewN HB.out nd) GEg.out⟩⟩, ?_⟩
          simp [intOf]; omega
        · have c1 : decide ((j : Int) < (cK : Int)) = false := decide_eq_false (by omega)
          have ej : j = cK := by omega
          have nG_ : Aside0 (wr.heap[gb]? = some (.cells (globAt cK i cK).toArray 147 (0, 0))) := ⟨by have h := BKg.out; rwa [ej] at h⟩
          clear BKg
          have BKg := nG_
          clear nG_ ej
          go_wp2
          have n0_ : Aside0 (wr.drew.heap[gc]? = some (.cells #[.int .i64 (cK : Int), .int .i64 (cM : Int), .int .i64 (cG : Int)] 26 (0, 0))) := ⟨blk_drew BKc.out⟩
          have n1_ : Aside0 (wr.drew.heap[gp]? = some (.cells #[.pointer (some ⟨gT, 0, none⟩), .int .i64 (cK : Int), .int .i64 (cM : Int), .int .i64 (cG : Int), vG, .slice none 0 0] 142 (0, 0))) := ⟨blk_drew BKp.out⟩
          have n2_ : Aside0 (wr.drew.heap[gb]? = some (.cells (globAt cK i cK).toArray 147 (0, 0))) := ⟨blk_drew BKg.out⟩
          have n3_ : Aside0 (TabInv wr.drew gT 255) := ⟨HT.out.block rfl⟩
          have n4_ : Aside0 (((Kd.raw 33).R 147 wr.drew w.heap.size (fun k => (k ≠ gp ∧ k ≠ gc ∧ k ≠ gT) ∧ k ≠ gb) vG ((List.range i).map fun j => globAt cK j cK))) := ⟨Kd.R_drew HR.out⟩
          have n5_ : Aside0 (Below w.heap.size w wr.drew) := ⟨below_drew1 HB.out⟩
          clear BKc BKp BKg HT HR HB
          have BKc := n0_
          have BKp := n1_
          have BKg := n2_
          have HT := n3_
          have HR := n4_
          have HB := n5_
          clear n0_ n1_ n2_ n3_ n4_ n5_
          refine start_ (n := 11) (S := fun w' => w'.cell? ⟨gp, 4, none⟩ = some vG ∧ w'.heap[gb]? = some (.cells (globAt cK i cK).toArray 147 (0, 0))) (ds := [10]) #[false, false, false, false, false, false, false, false, false, false, false] (by kernel_rfl) rfl rfl ⟨(blk_cell BKp.out 4).trans rfl, BKg.out⟩ (fun hHeld => ?_)
          generalize wr.drew = w7 at BKc BKp BKg HT HR HB hHeld ⊢
          refine pure_ (i := 0) (N := some 44) (v := ?_) (a' := ?_) #[true, false, false, false, false, false, false, false, false, false, false] rfl rfl (by kernel_rfl) (fun _ _ _ h => h) (Or.inl ⟨by rfl, ?_⟩) ?_ ?_; rotate_left; intro w'; go_simp; with_reducible rfl; rotate_left; simp only [Cap.pz]; rfl
          refine pure_ (i := 1) (N := some 45) (v := ?_) (a' := ?_) #[true, true, false, false, false, false, false, false, false, false, false] rfl rfl (by kernel_rfl) (fun _ _ _ h => h) (Or.inl ⟨by rfl, ?_⟩) ?_ ?_; rotate_left; intro w'; go_simp; with_reducible rfl; rotate_left; simp only [Cap.pz]; rfl
          refine pure_ (i := 2) (N := some 46) (v := ?_) (a' := ?_) #[true, true, true, false, false, false, false, false, false, false, false] rfl rfl (by kernel_rfl) (fun _ _ _ h => h) (Or.inl ⟨by rfl, ?_⟩) ?_ ?_; rotate_left; intro w'; go_simp; with_reducible rfl; rotate_left; simp only [Cap.pz]; rfl
          refine pure_ (i := 3) (N := some 47) (v := ?_) (a' := ?_) #[true, true, true, true, false, false, false, false, false, false, false] rfl rfl (by kernel_rfl) (fun _ _ _ h => h) (Or.inl ⟨by rfl, ?_⟩) ?_ ?_; rotate_left; intro w'; go_simp; with_reducible rfl; rotate_left; simp only [Cap.pz]; rfl
          refine take_ (i := 4) (N := some 48) (v := ?_) (a' := ?_) #[true, true, true, true, true, false, false, false, false, false, false] rfl rfl (by kernel_rfl) (fun _ _ _ h => h) (Or.inl ⟨by rfl, ?_⟩) hHeld ?_ ?_; rotate_left; rintro w' ⟨s0, s1⟩; go_simp; with_reducible rfl; rotate_left; simp only [Cap.pz]; rfl
          refine take_ (i := 5) (N := some 49) (v := ?_) (a' := ?_) #[true, true, true, true, true, true, false, false, false, false, false] rfl rfl (by kernel_rfl) (fun _ _ _ h => h) (Or.inl ⟨by rfl, ?_⟩) hHeld ?_ ?_; rotate_left; rintro w' ⟨s0, s1⟩; refine row_load 147 (.tmp 5) ?ro gb _ ?rx (run_loadVar_row w' gb 147 147 _ (0, 0) _ s1 Try.underlying147 rfl (by kernel_rfl)); (case ro => rfl); (case rx => rfl); rotate_left; simp only [Cap.pz]; rfl
          refine one_ (i := 6) (N := some 50) #[true, true, true, true, true, true, true, false, false, false, false] rfl rfl (by kernel_rfl) (by decide) (fun Kq hK => ?_)
          refine value_ (w1 := ?_) (v := ?_) (by rfl) rfl ?_ ?_
          rotate_left 2
          · go_simp
            rw [if_neg (by rw [globAt_len]; omega), fold_zip _ _ (by rw [globAt_len]; rfl)]
            go_simp
            constructor
            · rfl
            · rfl
          refine hK.out _ _ ⟨(blk_cell (blk_alloc BKp.out _) 4).trans rfl, blk_alloc BKg.out _⟩ (fun hHeld => ?_)
          clear hK Kq
          refine norm_ (a' := ?_) ?_ ?_; rotate_left; show Act.put _ (some 50) _ = _; simp only [Cap.pz]; rfl
          refine one_ (i := 7) (N := some 51) #[true, true, true, true, true, true, true, true, false, false, false] rfl rfl (by kernel_rfl) (by decide) (fun Kq hK => ?_)
          refine Kd.R_append_step (Kd.raw 33) (w0 := w) w.heap.size (by rfl) (.tmp 48) (.tmp 50) 139 147 (.agg (Value.int .i64 0 :: List.replicate 32 (.int .u8 0)).toArray) 40 rfl Try.underlying139 (by kernel_rfl) rfl (by decide) (by omega) vG ((List.range i).map fun j => globAt cK j cK) (globAt cK i cK) (globAt cK i cK) (fun k => k ≠ gp ∧ k ≠ gc ∧ k ≠ gT) (fun _ => False) rfl rfl ?aP (fun _ hk => hk.elim) ?aF ?aO ?aB ?aS ?aL ?_
          (case aP => exact ⟨rfl, globAt_len _ _ _, by simpa using globAt_one cK i cK⟩)
          (case aB => exact HB.out)
          (case aF => exact (fun k hk => by have h1 := blk_lt BKp.out; have h2 := blk_lt BKc.out; have h3 := HT.out.lt; omega))
          (case aO => exact Kd.R_mono HR.out (fun k h => h.1))
          (case aS => exact below_size HB.out)
          (case aL => simp; omega)
          intro vG2 w8 ho hb hg hat
          have nP_ : some gp ≠ vG.ownBlock := fun e => (HR.out.1 gp e.symm).1.1 rfl
          have nC_ : some gc ≠ vG.ownBlock := fun e => (HR.out.1 gc e.symm).1.2.1 rfl
          have nT_ : some gT ≠ vG.ownBlock := fun e => (HR.out.1 gT e.symm).1.2.2 rfl
          have nB_ : some gb ≠ vG.ownBlock := fun e => (HR.out.1 gb e.symm).2 rfl
          have er_ : ((List.range i).map fun j => globAt cK j cK) ++ [globAt cK i cK] = (List.range (i + 1)).map fun j => globAt cK j cK := by rw [List.range_succ, List.map_append]; rfl
          rw [er_] at ho
          have n0_ : Aside0 (w8.heap[gc]? = some (.cells #[.int .i64 (cK : Int), .int .i64 (cM : Int), .int .i64 (cG : Int)] 26 (0, 0))) := ⟨blk_grown BKc.out hg nC_⟩
          have n1_ : Aside0 (w8.heap[gp]? = some (.cells #[.pointer (some ⟨gT, 0, none⟩), .int .i64 (cK : Int), .int .i64 (cM : Int), .int .i64 (cG : Int), vG, .slice none 0 0] 142 (0, 0))) := ⟨blk_grown BKp.out hg nP_⟩
          have n2_ : Aside0 (w8.heap[gb]? = some (.cells (globAt cK i cK).toArray 147 (0, 0))) := ⟨blk_grown BKg.out hg nB_⟩
          have n3_ : Aside0 (TabInv w8 gT 255) := ⟨HT.out.block (hg.block gT HT.out.lt nT_)⟩
          have n4_ : Aside0 (((Kd.raw 33).R 147 w8 w.heap.size (fun k => k ≠ gp ∧ k ≠ gc ∧ k ≠ gT) vG2 ((List.range (i + 1)).map fun j => globAt cK j cK))) := ⟨ho⟩
          have n5_ : Aside0 (Below w.heap.size w w8) := ⟨hb⟩
          clear BKc BKp BKg HT HR HB
          have BKc := n0_
          have BKp := n1_
          have BKg := n2_
          have HT := n3_
          have HR := n4_
          have HB := n5_
          clear n0_ n1_ n2_ n3_ n4_ n5_
          clear ho hb hg hat nP_ nC_ nT_ nB_ er_
          obtain ⟨AG2, cG2, eG2⟩ := Kd.R_slice HR.out
          rw [show ((List.range (i + 1)).map fun j => globAt cK j cK).length = i + 1 by simp] at eG2
          subst eG2
          refine hK.out _ _ ⟨(blk_cell BKp.out 4).trans rfl, BKg.out⟩ (fun hHeld => ?_)
          clear hK Kq
          refine norm_ (a' := ?_) ?_ ?_; rotate_left; show Act.put _ (some 51) _ = _; simp only [Cap.pz]; rfl
          refine pure_ (i := 8) (N := some 52) (v := ?_) (a' := ?_) #[true, true, true, true, true, true, true, true, true, false, false] rfl rfl (by kernel_rfl) (fun _ _ _ h => h) (Or.inl ⟨by rfl, ?_⟩) ?_ ?_; rotate_left; intro w'; go_simp; with_reducible rfl; rotate_left; simp only [Cap.pz]; rfl
          refine pure_ (i := 9) (N := some 53) (v := ?_) (a' := ?_) #[true, true, true, true, true, true, true, true, true, true, false] rfl rfl (by kernel_rfl) (fun _ _ _ h => h) (Or.inl ⟨by rfl, ?_⟩) ?_ ?_; rotate_left; intro w'; go_simp; with_reducible rfl; rotate_left; simp only [Cap.pz]; rfl
          refine last_ (i := 10) (N := none) #[true, true, true, true, true, true, true, true, true, true, true] rfl rfl (by kernel_rfl) (by decide) (fun Kq hK => ?_)
          have hcs : w8.cell? ⟨gp, 4, none⟩ = some vG := (blk_cell BKp.out 4).trans rfl
          have hfs := blk_frozen BKp.out 4
          refine skip_ (w1 := ?_) (by rfl) rfl ?_ ?_
          rotate_left
          · go_simp
            rfl
          refine hK.out _ _ ?_
          clear hK Kq
          refine done_ (by kernel_rfl) ?_
          go_wp2
          refine ⟨⟨i + 1, _, by omega, by go_num, ⟨blk_far BKc.out NEc.out _⟩, ⟨blk_put BKp.out 4 _ rfl⟩, ⟨Kd.R_step HR.out (fun k ho _ => Below.heap_setCell _ _ _ k ho.1)⟩, ⟨HT.out.block (Below.heap_setCell _ _ _ gT NET.out)⟩, ⟨below_set HB.out GEp.out⟩⟩, ?_⟩
          simp [intOf]; omega
    · have c0 : decide ((i : Int) < (cM : Int)) = false := decide_eq_false (by omega)
      have ei : i = cM := by omega
      have hcz0 : wr.cell? ⟨gc, 2, none⟩ = some (.int .i64 (cG : Int)) := (blk_cell BKc.out 2).trans rfl
      go_wp2
      have nG_ : Aside0 ((Kd.raw 33).R 147 wr w.heap.size (fun k => k ≠ gp ∧ k ≠ gc ∧ k ≠ gT) vG ((List.range cM).map fun j => globAt cK j cK)) := ⟨by have h := HR.out; rwa [ei] at h⟩
      clear HR
      have HR := nG_
      clear nG_ ei hcz0
      go_loopw [57] (fun v57 wq => ∃ (i : Nat) (vL : Value), i ≤ cG ∧ v57 = .int .i64 (i : Int) ∧ Aside0 (wq.heap[gc]? = some (.cells #[.int .i64 (cK : Int), .int .i64 (cM : Int), .int .i64 (cG : Int)] 26 (0, 0))) ∧ Aside0 (wq.heap[gp]? = some (.cells #[.pointer (some ⟨gT, 0, none⟩), .int .i64 (cK : Int), .int .i64 (cM : Int), .int .i64 (cG : Int), vG, vL] 142 (0, 0))) ∧ Aside0 ((Kd.raw 33).R 147 wq w.heap.size (fun k => k ≠ gp ∧ k ≠ gc ∧ k ≠ gT) vG ((List.range cM).map fun j => globAt cK j cK)) ∧ Aside0 ((Kd.raw 2).R 149 wq w.heap.size (fun k => k ≠ gp ∧ k ≠ gc ∧ k ≠ gT) vL ((List.range i).map fun j => locAt cK cM j)) ∧ Aside0 (TabInv wq gT 255) ∧ Aside0 (Below w.heap.size w wq)) (fun v57 _ => cG - (intOf v57).toNat)
      case atStart => exact ⟨0, _, Nat.zero_le _, rfl, BKc, BKp, HR, ⟨Kd.R_nil _ _ _ _ _⟩, HT, HB⟩
      case round =>
        clear BKc BKp HT HB HR
        obtain ⟨l, vL, hl, rfl, BKc, BKp, HR, HL, HT, HB⟩ := hrel
        by_cases hll : l < cG
        · have c2 : decide ((l : Int) < (cG : Int)) = true := decide_eq_true (by omega)
          go_wp2
          have n0_ : Aside0 (wr.drew.heap[gc]? = some (.cells #[.int .i64 (cK : Int), .int .i64 (cM : Int), .int .i64 (cG : Int)] 26 (0, 0))) := ⟨blk_drew BKc.out⟩
          have n1_ : Aside0 (wr.drew.heap[gp]? = some (.cells #[.pointer (some ⟨gT, 0, none⟩), .int .i64 (cK : Int), .int .i64 (cM : Int), .int .i64 (cG : Int), vG, vL] 142 (0, 0))) := ⟨blk_drew BKp.out⟩
          have n2_ : Aside0 (TabInv wr.drew gT 255) := ⟨HT.out.block rfl⟩
          have n3_ : Aside0 (((Kd.raw 33).R 147 wr.drew w.heap.size (fun k => k ≠ gp ∧ k ≠ gc ∧ k ≠ gT) vG ((List.range cM).map fun j => globAt cK j cK))) := ⟨Kd.R_drew HR.out⟩
          have n4_ : Aside0 (((Kd.raw 2).R 149 wr.drew w.heap.size (fun k => k ≠ gp ∧ k ≠ gc ∧ k ≠ gT) vL ((List.range l).map fun j => locAt cK cM j))) := ⟨Kd.R_drew HL.out⟩
          have n5_ : Aside0 (Below w.heap.size w wr.drew) := ⟨below_drew1 HB.out⟩
          clear BKc BKp HT HR HL HB
          have BKc := n0_
          have BKp := n1_
          have HT := n2_
          have HR := n3_
          have HL := n4_
          have HB := n5_
          clear n0_ n1_ n2_ n3_ n4_ n5_
          refine start_ (n := 20) (S := fun w' => w'.cell? ⟨gp, 5, none⟩ = some vL ∧ w'.cell? ⟨gc, 0, none⟩ = some (.int .i64 (cK : Int)) ∧ w'.cell? ⟨gc, 1, none⟩ = some (.int .i64 (cM : Int))) (ds := [19]) #[false, false, false, false, false, false, false, false, false, false, false, false, false, false, false, false, false, false, false, false] (by kernel_rfl) rfl rfl ⟨(blk_cell BKp.out 5).trans rfl, (blk_cell BKc.out 0).trans rfl, (blk_cell BKc.out 1).trans rfl⟩ (fun hHeld => ?_)
          generalize wr.drew = w7 at BKc BKp HT HR HL HB hHeld ⊢
          refine pure_ (i := 0) (N := some 60) (v := ?_) (a' := ?_) #[true, false, false, false, false, false, false, false, false, false, false, false, false, false, false, false, false, false, false, false] rfl rfl (by kernel_rfl) (fun _ _ _ h => h) (Or.inl ⟨by rfl, ?_⟩) ?_ ?_; rotate_left; intro w'; go_simp; with_reducible rfl; rotate_left; simp only [Cap.pz]; rfl
          refine pure_ (i := 1) (N := some 61) (v := ?_) (a' := ?_) #[true, true, false, false, false, false, false, false, false, false, false, false, false, false, false, false, false, false, false, false] rfl rfl (by kernel_rfl) (fun _ _ _ h => h) (Or.inl ⟨by rfl, ?_⟩) ?_ ?_; rotate_left; intro w'; go_simp; with_reducible rfl; rotate_left; simp only [Cap.pz]; rfl
          refine pure_ (i := 2) (N := some 62) (v := ?_) (a' := ?_) #[true, true, true, false, false, false, false, false, false, false, false, false, false, false, false, false, false, false, false, false] rfl rfl (by kernel_rfl) (fun _ _ _ h => h) (Or.inl ⟨by rfl, ?_⟩) ?_ ?_; rotate_left; intro w'; go_simp; with_reducible rfl; rotate_left; simp only [Cap.pz]; rfl
          refine pure_ (i := 3) (N := some 63) (v := ?_) (a' := ?_) #[true, true, true, true, false, false, false, false, false, false, false, false, false, false, false, false, false, false, false, false] rfl rfl (by kernel_rfl) (fun _ _ _ h => h) (Or.inl ⟨by rfl, ?_⟩) ?_ ?_; rotate_left; intro w'; go_simp; with_reducible rfl; rotate_left; simp only [Cap.pz]; rfl
          refine take_ (i := 4) (N := some 64) (v := ?_) (a' := ?_) #[true, true, true, true, true, false, false, false, false, false, false, false, false, false, false, false, false, false, false, false] rfl rfl (by kernel_rfl) (fun _ _ _ h => h) (Or.inl ⟨by rfl, ?_⟩) hHeld ?_ ?_; rotate_left; rintro w' ⟨s0, s1, s2⟩; go_simp; with_reducible rfl; rotate_left; simp only [Cap.pz]; rfl
          refine pure_ (i := 5) (N := some 65) (v := ?_) (a' := ?_) #[true, true, true, true, true, true, false, false, false, false, false, false, false, false, false, false, false, false, false, false] rfl rfl (by kernel_rfl) (fun _ _ _ h => h) (Or.inl ⟨by rfl, ?_⟩) ?_ ?_; rotate_left; intro w'; go_simp; with_reducible rfl; rotate_left; simp only [Cap.pz]; rfl
          refine take_ (i := 6) (N := some 66) (v := ?_) (a' := ?_) #[true, true, true, true, true, true, true, false, false, false, false, false, false, false, false, false, false, false, false, false] rfl rfl (by kernel_rfl) (fun _ _ _ h => h) (Or.inl ⟨by rfl, ?_⟩) hHeld ?_ ?_; rotate_left; rintro w' ⟨s0, s1, s2⟩; go_simp; with_reducible rfl; rotate_left; simp only [Cap.pz]; rfl
          refine pure_ (i := 7) (N := some 67) (v := ?_) (a' := ?_) #[true, true, true, true, true, true, true, true, false, false, false, false, false, false, false, false, false, false, false, false] rfl rfl (by kernel_rfl) (fun _ _ _ h => h) (Or.inl ⟨by rfl, ?_⟩) ?_ ?_; rotate_left; intro w'; go_simp; with_reducible rfl; rotate_left; simp only [Cap.pz]; rfl
          refine take_ (i := 8) (N := some 68) (v := ?_) (a' := ?_) #[true, true, true, true, true, true, true, true, true, false, false, false, false, false, false, false, false, false, false, false] rfl rfl (by kernel_rfl) (fun _ _ _ h => h) (Or.inl ⟨by rfl, ?_⟩) hHeld ?_ ?_; rotate_left; rintro w' ⟨s0, s1, s2⟩; go_simp; with_reducible rfl; rotate_left; simp only [Cap.pz]; rfl
          refine pure_ (i := 9) (N := some 69) (v := ?_) (a' := ?_) #[true, true, true, true, true, true, true, true, true, true, false, false, false, false, false, false, false, false, false, false] rfl rfl (by kernel_rfl) (fun _ _ _ h => h) (Or.inl ⟨by rfl, ?_⟩) ?_ ?_; rotate_left; intro w'; go_simp; with_reducible rfl; rotate_left; simp only [Cap.pz]; rfl
          refine pure_ (i := 10) (N := some 70) (v := ?_) (a' := ?_) #[true, true, true, true, true, true, true, true, true, true, true, false, false, false, false, false, false, false, false, false] rfl rfl (by kernel_rfl) (fun _ _ _ h => h) (Or.inl ⟨by rfl, ?_⟩) ?_ ?_; rotate_left; intro w'; go_simp; with_reducible rfl; rotate_left; simp only [Cap.pz]; rfl
          refine pure_ (i := 11) (N := some 71) (v := ?_) (a' := ?_) #[true, true, true, true, true, true, true, true, true, true, true, true, false, false, false, false, false, false, false, false] rfl rfl (by kernel_rfl) (fun _ _ _ h => h) (Or.inl ⟨by rfl, ?_⟩) ?_ ?_; rotate_left; intro w'; go_simp; with_reducible rfl; rotate_left; simp only [Cap.pz]; rfl
          refine pure_ (i := 12) (N := some 72) (v := ?_) (a' := ?_) #[true, true, true, true, true, true, true, true, true, true, true, true, true, false, false, false, false, false, false, false] rfl rfl (by kernel_rfl) (fun _ _ _ h => h) (Or.inl ⟨by rfl, ?_⟩) ?_ ?_; rotate_left; intro w'; go_simp; with_reducible rfl; rotate_left; simp only [Cap.pz]; rfl
          refine pure_ (i := 13) (N := some 73) (v := ?_) (a' := ?_) #[true, true, true, true, true, true, true, true, true, true, true, true, true, true, false, false, false, false, false, false] rfl rfl (by kernel_rfl) (fun _ _ _ h => h) (Or.inl ⟨by rfl, ?_⟩) ?_ ?_; rotate_left; intro w'; go_simp; with_reducible rfl; rotate_left; simp only [Cap.pz]; rfl
          refine pure_ (i := 14) (N := some 74) (v := ?_) (a' := ?_) #[true, true, true, true, true, true, true, true, true, true, true, true, true, true, true, false, false, false, false, false] rfl rfl (by kernel_rfl) (fun _ _ _ h => h) (Or.inl ⟨by rfl, ?_⟩) ?_ ?_; rotate_left; intro w'; go_simp; with_reducible rfl; rotate_left; simp only [Cap.pz]; rfl
          refine one_ (i := 15) (N := some 75) #[true, true, true, true, true, true, true, true, true, true, true, true, true, true, true, true, false, false, false, false] rfl rfl (by kernel_rfl) (by decide) (fun Kq hK => ?_)
          refine value_ (w1 := ?_) (v := ?_) (by rfl) rfl ?_ ?_
          rotate_left 2
          · go_simp
            constructor
            · rfl
            · rfl
          refine hK.out _ _ ⟨(blk_cell (blk_alloc BKp.out _) 5).trans rfl, (blk_cell (blk_alloc BKc.out _) 0).trans rfl, (blk_cell (blk_alloc BKc.out _) 1).trans rfl⟩ (fun hHeld => ?_)
          clear hK Kq
          refine norm_ (a' := ?_) ?_ ?_; rotate_left; show Act.put _ (some 75) _ = _; simp only [Cap.pz]; rfl
          refine one_ (i := 16) (N := some 76) #[true, true, true, true, true, true, true, true, true, true, true, true, true, true, true, true, true, false, false, false] rfl rfl (by kernel_rfl) (by decide) (fun Kq hK => ?_)
          refine Kd.R_append_step (Kd.raw 2) (w0 := w) w.heap.size (by rfl) (.tmp 64) (.tmp 75) 140 149 (.agg #[.int .i64 0, .int .i64 0]) 16 rfl Try.underlying140 (by kernel_rfl) rfl (by decide) (by omega) vL ((List.range l).map fun j => locAt cK cM j) [.int .i64 (wrap64 (wrap64 ((cK : Int) + (cM : Int)) + (l : Int))), .int .i64 (l : Int)] [.int .i64 (wrap64 (wrap64 ((cK : Int) + (cM : Int)) + (l : Int))), .int .i64 (l : Int)] (fun k => k ≠ gp ∧ k ≠ gc ∧ k ≠ gT) (fun _ => False) rfl rfl ?aP (fun _ hk => hk.elim) ?aF ?aO ?aB ?aS ?aL ?_
          (case aP => exact ⟨rfl, rfl, by simp [Value.oneCell']⟩)
          (case aB => exact HB.out)
          (case aF => exact (fun k hk => by have h1 := blk_lt BKp.out; have h2 := blk_lt BKc.out; have h3 := HT.out.lt; omega))
          (case aO => exact HL.out)
          (case aS => exact below_size HB.out)
          (case aL => simp; omega)
          intro vL2 w8 ho hb hg hat
          have nP_ : some gp ≠ vL.ownBlock := fun e => (HL.out.1 gp e.symm).1 rfl
          have nC_ : some gc ≠ vL.ownBlock := fun e => (HL.out.1 gc e.symm).2.1 rfl
          have nT_ : some gT ≠ vL.ownBlock := fun e => (HL.out.1 gT e.symm).2.2 rfl
          have er_ : ((List.range l).map fun j => locAt cK cM j) ++ [[.int .i64 (wrap64 (wrap64 ((cK : Int) + (cM : Int)) + (l : Int))), .int .i64 (l : Int)]] = (List.range (l + 1)).map fun j => locAt cK cM j := by rw [List.range_succ, List.map_append]; congr 1; show _ = [locAt cK cM l]; unfold locAt; rw [show wrap64 (wrap64 ((cK : Int) + (cM : Int)) + (l : Int)) = ((cK + cM + l : Nat) : Int) by unfold wrap64; omega]
          rw [er_] at ho
          have n0_ : Aside0 (w8.heap[gc]? = some (.cells #[.int .i64 (cK : Int), .int .i64 (cM : Int), .int .i64 (cG : Int)] 26 (0, 0))) := ⟨blk_grown BKc.out hg nC_⟩
          have n1_ : Aside0 (w8.heap[gp]? = some (.cells #[.pointer (some ⟨gT, 0, none⟩), .int .i64 (cK : Int), .int .i64 (cM : Int), .int .i64 (cG : Int), vG, vL] 142 (0, 0))) := ⟨blk_grown BKp.out hg nP_⟩
          have n2_ : Aside0 (TabInv w8 gT 255) := ⟨HT.out.block (hg.block gT HT.out.lt nT_)⟩
          have n3_ : Aside0 (((Kd.raw 33).R 147 w8 w.heap.size (fun k => k ≠ gp ∧ k ≠ gc ∧ k ≠ gT) vG ((List.range cM).map fun j => globAt cK j cK))) := ⟨Kd.R_mono (Kd.R_step (Kd.R_bound HR.out) (fun k hk hk2 => hg.block k hk2 (by obtain ⟨q, hq, cells, hc⟩ := hk.2.2.2; obtain rfl : q = 147 := (by simpa [Kd.raw] using hq); exact Kd.R_ne HL.out hc (by decide)))) (fun k hk => hk.1)⟩
          have n4_ : Aside0 (((Kd.raw 2).R 149 w8 w.heap.size (fun k => k ≠ gp ∧ k ≠ gc ∧ k ≠ gT) vL2 ((List.range (l + 1)).map fun j => locAt cK cM j))) := ⟨ho⟩
          have n5_ : Aside0 (Below w.heap.size w w8) := ⟨hb⟩
          clear BKc BKp HT HR HL HB
          have BKc := n0_
          have BKp := n1_
          have HT := n2_
          have HR := n3_
          have HL := n4_
          have HB := n5_
          clear n0_ n1_ n2_ n3_ n4_ n5_
          clear ho hb hg hat nP_ nC_ nT_ er_
          obtain ⟨AL2, cL2, eL2⟩ := Kd.R_slice HL.out
          rw [show ((List.range (l + 1)).map fun j => locAt cK cM j).length = l + 1 by simp] at eL2
          subst eL2
          refine hK.out _ _ ⟨(blk_cell BKp.out 5).trans rfl, (blk_cell BKc.out 0).trans rfl, (blk_cell BKc.out 1).trans rfl⟩ (fun hHeld => ?_)
          clear hK Kq
          refine norm_ (a' := ?_) ?_ ?_; rotate_left; show Act.put _ (some 76) _ = _; simp only [Cap.pz]; rfl
          refine pure_ (i := 17) (N := some 77) (v := ?_) (a' := ?_) #[true, true, true, true, true, true, true, true, true, true, true, true, true, true, true, true, true, true, false, false] rfl rfl (by kernel_rfl) (fun _ _ _ h => h) (Or.inl ⟨by rfl, ?_⟩) ?_ ?_; rotate_left; intro w'; go_simp; with_reducible rfl; rotate_left; simp only [Cap.pz]; rfl
          refine pure_ (i := 18) (N := some 78) (v := ?_) (a' := ?_) #[true, true, true, true, true, true, true, true, true, true, true, true, true, true, true, true, true, true, true, false] rfl rfl (by kernel_rfl) (fun _ _ _ h => h) (Or.inl ⟨by rfl, ?_⟩) ?_ ?_; rotate_left; intro w'; go_simp; with_reducible rfl; rotate_left; simp only [Cap.pz]; rfl
          refine last_ (i := 19) (N := none) #[true, true, true, true, true, true, true, true, true, true, true, true, true, true, true, true, true, true, true, true] rfl rfl (by kernel_rfl) (by decide) (fun Kq hK => ?_)
          have hcs : w8.cell? ⟨gp, 5, none⟩ = some vL := (blk_cell BKp.out 5).trans rfl
          have hfs := blk_frozen BKp.out 5
          refine skip_ (w1 := ?_) (by rfl) rfl ?_ ?_
          rotate_left
          · go_simp
            rfl
          refine hK.out _ _ ?_
          clear hK Kq
          refine done_ (by kernel_rfl) ?_
          go_wp2
          refine ⟨⟨l + 1, _, by omega, by go_num, ⟨blk_far BKc.out NEc.out _⟩, ⟨blk_put BKp.out 5 _ rfl⟩, ⟨Kd.R_step HR.out (fun k ho _ => Below.heap_setCell _ _ _ k ho.1)⟩, ⟨Kd.R_step HL.out (fun k ho _ => Below.heap_setCell _ _ _ k ho.1)⟩, ⟨HT.out.block (Below.heap_setCell _ _ _ gT NET.out)⟩, ⟨below_set HB.out GEp.out⟩⟩, ?_⟩
          simp [intOf]; omega
        · have c2 : decide ((l : Int) < (cG : Int)) = false := decide_eq_false (by omega)
          have el : l = cG := by omega
          have nG_ : Aside0 ((Kd.raw 2).R 149 wr w.heap.size (fun k => k ≠ gp ∧ k ≠ gc ∧ k ≠ gT) vL ((List.range cG).map fun j => locAt cK cM j)) := ⟨by have h := HL.out; rwa [el] at h⟩
          clear HL
          have HL := nG_
          clear nG_ el
          go_wp2
          go_ret
          refine ⟨gp, rfl, GEp.out, ⟨⟨gT, (blk_cell BKp.out 0).trans rfl, HT.out⟩, (blk_cell BKp.out 1).trans rfl, (blk_cell BKp.out 2).trans rfl, (blk_cell BKp.out 3).trans rfl, ?_, ?_⟩, HB.out⟩
          · obtain ⟨A, c, e, hc⟩ := Kd.R_reads HR.out
            rw [show ((List.range cM).map fun j => globAt cK j cK).length = cM by simp] at e hc
            exact ⟨A, c, (blk_cell BKp.out 4).trans (congrArg some e), hc.2, fun ad ha => Kd.R_head (by have h := HR.out; rw [e, ha] at h; exact h)⟩
          · obtain ⟨A, c, e, hc⟩ := Kd.R_reads HL.out
            rw [show ((List.range cG).map fun j => locAt cK cM j).length = cG by simp] at e hc
            exact ⟨A, c, (blk_cell BKp.out 5).trans (congrArg some e), hc.2, fun ad ha => Kd.R_head (by have h := HL.out; rw [e, ha] at h; exact h)⟩
theorem impl_newPlant.calls (K M G : Int) (r : Int) (w : World) (h : impl_newPlant.f K M G = some r) :
    Calls Try.prog 66 #[.agg #[.int .i64 K, .int .i64 M, .int .i64 G]] w fun e w' => ∃ g, e = .returned (.pointer (some ⟨g, 0, none⟩)) ∧ w.heap.size ≤ g ∧ PlantAt w' g r ∧ Below w.heap.size w w' := by
  unfold impl_newPlant.f at h
  by_cases hc : 1 ≤ K ∧ K ≤ 32 ∧ 0 ≤ M ∧ M ≤ 16 ∧ 0 ≤ G ∧ G ≤ 32
  · rw [if_pos hc] at h
    obtain rfl := Option.some.inj h
    obtain ⟨h1, h2, h3, h4, h5, h6⟩ := hc
    obtain ⟨K, rfl⟩ := Int.eq_ofNat_of_zero_le (show 0 ≤ K by omega)
    obtain ⟨M, rfl⟩ := Int.eq_ofNat_of_zero_le h3
    obtain ⟨G, rfl⟩ := Int.eq_ofNat_of_zero_le h5
    obtain ⟨e1, e2, e3⟩ := plantNo_of K M G (by omega) (by omega) (by omega)
    refine (impl_newPlant.callsN K M G (by omega) (by omega) (by omega) w).mono ?_
    rintro e w' ⟨g, he, hg, hp, hb⟩
    exact ⟨g, he, hg, ⟨by omega, by omega, by omega, by omega, by rw [e1, e2, e3]; exact hp⟩, hb⟩
  · rw [if_neg hc] at h
    exact absurd h (by simp)

/-! ### impl_oneLength: function 83 -/
def impl_oneLength.l0 : Nat → List ByteArray → List ByteArray → Int → Int → Option (Bool)
  | 0, _, _, _, _ => none
  | k + 1, x0, x5, x6, x7 => if x7 < x6 then (if 0 ≤ x7 then (if x7 < (x5.length : Int) then (if ((rdOf ByteArray.empty x5 x7).size : Int) < 1 then (some false) else (if ((rdOf ByteArray.empty x5 x7).size : Int) > 4096 then (some false) else (if 0 < (x0.length : Int) then (if ((rdOf ByteArray.empty x5 x7).size : Int) = ((rdOf ByteArray.empty x0 0).size : Int) then (impl_oneLength.l0 k x0 x5 x6 (wrap64 (x7 + 1))) else (some false)) else (none)))) else (none)) else (none)) else (some true)
def impl_oneLength.f (k : Nat) (l0 : List ByteArray) : Option (Bool) := impl_oneLength.l0 k l0 l0 (l0.length : Int) 0
theorem impl_oneLength.mono_l : ∀ k, (∀ y0 y1 y2 y3, LeO (impl_oneLength.l0 k y0 y1 y2 y3) (impl_oneLength.l0 (k + 1) y0 y1 y2 y3))
  | 0 => fun _ _ _ _ r h => by simp [impl_oneLength.l0] at h
  | k + 1 => by
    have ih0 := impl_oneLength.mono_l k
    · intro y0 y1 y2 y3
      unfold impl_oneLength.l0
      repeat' first
      | (with_reducible exact ih0 _ _ _ _)
      | (with_reducible exact LeO.refl _)
      | (with_reducible exact LeO.none _)
      | (with_reducible refine LeO.ite ?_ ?_)
      | (with_reducible refine LeO.bind ?_ (fun _ => ?_))
      | exact ih0 _ _ _ _
      | exact LeO.none _
      | refine LeO.ite ?_ ?_
      | refine LeO.bind ?_ (fun _ => ?_)
theorem impl_oneLength.mono : ∀ a0 k, LeO (impl_oneLength.f k a0) (impl_oneLength.f (k + 1) a0) := by
  intro a0 k
  have ih0 := impl_oneLength.mono_l k
  unfold impl_oneLength.f
  repeat' first
      | (with_reducible exact ih0 _ _ _ _)
      | (with_reducible exact LeO.refl _)
      | (with_reducible exact LeO.none _)
      | (with_reducible refine LeO.ite ?_ ?_)
      | (with_reducible refine LeO.bind ?_ (fun _ => ?_))
      | exact ih0 _ _ _ _
      | exact LeO.none _
      | refine LeO.ite ?_ ?_
      | refine LeO.bind ?_ (fun _ => ?_)
set_option maxHeartbeats 8000000 in
set_option maxRecDepth 100000 in
theorem impl_oneLength.calls (k : Nat) (A0 : Option Addr) (c0 : Nat) (l0 : List ByteArray) (r : Bool) (w : World) (hr0 : Kd.C Kd.string w A0 l0.length l0) (hc0 : l0.length ≤ c0) (h : impl_oneLength.f k l0 = some r) :
    Calls Try.prog 83 #[.slice A0 l0.length c0] w fun e w' => e = .returned (.bool r) ∧ Drawn0 w w' := by
  have HR0 := Aside0.mk hr0
  have HC0 := Aside0.mk hc0
  clear hr0 hc0
  have H : (impl_oneLength.l0 k l0 l0 (l0.length : Int) 0) = some r := h
  clear h
  have H' := Aside0.mk H
  clear H
  go_enter Try.func83, Try.ntmps83
  go_wp2
  go_loopg [7] k (fun kq v7 w' => ∃ (x7_1 : Int), v7 = .int .i64 x7_1 ∧ Aside0 (impl_oneLength.l0 kq l0 l0 (l0.length : Int) x7_1 = some r) ∧ Aside0 (kq ≤ k) ∧ Drawn0 w w')
  case atStart => exact ⟨(0), (by first | rfl | (simp; done) | (simp [*]; done)), H', ⟨Nat.le_refl _⟩, by repeat (first | exact Drawn0.refl _ | apply Drawn0.step)⟩
  case round =>
    clear H'
    obtain ⟨x7_1, rfl, HA, HK1, ⟨m1, rfl⟩⟩ := hrel
    cases gk with
    | zero => exact absurd HA.out (by simp [impl_oneLength.l0])
    | succ k1 =>
      have H := HA.out
      clear HA
      simp only [impl_oneLength.l0] at H
      by_cases c2 : x7_1 < (l0.length : Int)
      · rw [if_pos c2] at H
        have c2b0 : decide (x7_1 < (l0.length : Int)) = true := decide_eq_true c2
        clear c2
        by_cases c3 : 0 ≤ x7_1
        · rw [if_pos c3] at H
          have c3b0 : decide (0 ≤ x7_1) = true := decide_eq_true c3
          clear c3
          by_cases c4 : x7_1 < (l0.length : Int)
          · rw [if_pos c4] at H
            have c4b0 : decide (x7_1 < (l0.length : Int)) = true := decide_eq_true c4
            clear c4
            by_cases c5 : ((rdOf ByteArray.empty l0 x7_1).size : Int) < 1
            · rw [if_pos c5] at H
              have c5b0 : decide (((rdOf ByteArray.empty l0 x7_1).size : Int) < 1) = true := decide_eq_true c5
              have c5b1 : decide ((rdOf ByteArray.empty l0 x7_1).size < 1) = true := decide_eq_true (by omega)
              clear c5
              obtain rfl := Option.some.inj H
              have p173 : 0 ≤ (x7_1 : Int) := of_decide_eq_true (by first | (with_reducible assumption) | assumption)
              have q173 : x7_1 < (l0.length : Int) := of_decide_eq_true (by first | (with_reducible assumption) | assumption)
              obtain ⟨ad173, e173, hx173_0⟩ := Kd.at_string HR0.out x7_1 p173 q173
              cases e173
              replace p173 := eq_true p173
              replace q173 := eq_true q173
              go_wp2
              go_ret
              exact ⟨by first | rfl | (simp; done) | (simp [*]; done), by repeat (first | exact Drawn0.refl _ | apply Drawn0.step)⟩
            · rw [if_neg c5] at H
              have c5b0 : decide (((rdOf ByteArray.empty l0 x7_1).size : Int) < 1) = false := decide_eq_false c5
              have c5b1 : decide ((rdOf ByteArray.empty l0 x7_1).size < 1) = false := decide_eq_false (by omega)
              clear c5
              by_cases c6 : ((rdOf ByteArray.empty l0 x7_1).size : Int) > 4096
              · rw [if_pos c6] at H
                have c6b0 : decide (4096 < ((rdOf ByteArray.empty l0 x7_1).size : Int)) = true := decide_eq_true c6
                have c6b1 : decide (4096 < (rdOf ByteArray.empty l0 x7_1).size) = true := decide_eq_true (by omega)
                clear c6
                obtain rfl := Option.some.inj H
                have p173 : 0 ≤ (x7_1 : Int) := of_decide_eq_true (by first | (with_reducible assumption) | assumption)
                have q173 : x7_1 < (l0.length : Int) := of_decide_eq_true (by first | (with_reducible assumption) | assumption)
                obtain ⟨ad173, e173, hx173_0⟩ := Kd.at_string HR0.out x7_1 p173 q173
                cases e173
                replace p173 := eq_true p173
                replace q173 := eq_true q173
                go_wp2
                go_ret
                exact ⟨by first | rfl | (simp; done) | (simp [*]; done), by repeat (first | exact Drawn0.refl _ | apply Drawn0.step)⟩
              · rw [if_neg c6] at H
                have c6b0 : decide (4096 < ((rdOf ByteArray.empty l0 x7_1).size : Int)) = false := decide_eq_false c6
                have c6b1 : decide (4096 < (rdOf ByteArray.empty l0 x7_1).size) = false := decide_eq_false (by omega)
                clear c6
                by_cases c7 : 0 < (l0.length : Int)
                · rw [if_pos c7] at H
                  have c7b0 : decide (0 < (l0.length : Int)) = true := decide_eq_true c7
                  have c7b1 : decide (0 < l0.length) = true := decide_eq_true (by omega)
                  clear c7
                  by_cases c8 : ((rdOf ByteArray.empty l0 x7_1).size : Int) = ((rdOf ByteArray.empty l0 0).size : Int)
                  · rw [if_pos c8] at H
                    have c8b0 : (((rdOf ByteArray.empty l0 x7_1).size : Int) == ((rdOf ByteArray.empty l0 0).size : Int)) = true := beq_iff_eq.mpr c8
                    have c8b1 : (((rdOf ByteArray.empty l0 x7_1).size : Int) != ((rdOf ByteArray.empty l0 0).size : Int)) = false := bne_eq_false_iff_eq.mpr c8
                    have c8b2 : ((rdOf ByteArray.empty l0 x7_1).size == (rdOf ByteArray.empty l0 0).size) = true := by first | simpa using c8 | (simp at c8 ⊢; omega)
                    clear c8
                    have H' := Aside0.mk H
                    clear H
                    have p173 : 0 ≤ (x7_1 : Int) := of_decide_eq_true (by first | (with_reducible assumption) | assumption)
                    have q173 : x7_1 < (l0.length : Int) := of_decide_eq_true (by first | (with_reducible assumption) | assumption)
                    obtain ⟨ad173, e173, hx173_0⟩ := Kd.at_string HR0.out x7_1 p173 q173
                    cases e173
                    replace p173 := eq_true p173
                    replace q173 := eq_true q173
                    have p174 : 0 ≤ (0 : Int) := (by omega)
                    have q174 : 0 < (l0.length : Int) := of_decide_eq_true (by first | (with_reducible assumption) | assumption)
                    obtain ⟨ad174, e174, hx174_0⟩ := Kd.at_string HR0.out 0 p174 q174
                    obtain rfl : ad173 = ad174 := (by injection e174)
                    have qi174 : (0 < l0.length) = True := eq_true (by omega)
                    (try rw [show ((0 : Int)).toNat = 0 from rfl] at hx174_0)
                    (try rw [Addr.add_zero'] at hx174_0)
                    replace p174 := eq_true p174
                    replace q174 := eq_true q174
                    go_wp2
                    go_roundg k1
                    case measure => have := HK1.out; omega
                    case rel => exact ⟨(wrap64 (x7_1 + 1)), (by first | rfl | (simp; done) | (simp [*]; done)), H', ⟨by have := HK1.out; omega⟩, by repeat (first | exact Drawn0.refl _ | apply Drawn0.step)⟩
                  · rw [if_neg c8] at H
                    have c8b0 : (((rdOf ByteArray.empty l0 x7_1).size : Int) == ((rdOf ByteArray.empty l0 0).size : Int)) = false := beq_eq_false_iff_ne.mpr c8
                    have c8b1 : (((rdOf ByteArray.empty l0 x7_1).size : Int) != ((rdOf ByteArray.empty l0 0).size : Int)) = true := bne_iff_ne.mpr c8
                    have c8b2 : ((rdOf ByteArray.empty l0 x7_1).size == (rdOf ByteArray.empty l0 0).size) = false := by first | simpa using c8 | (simp at c8 ⊢; omega)
                    obtain rfl := Option.some.inj H
                    have p173 : 0 ≤ (x7_1 : Int) := of_decide_eq_true (by first | (with_reducible assumption) | assumption)
                    have q173 : x7_1 < (l0.length : Int) := of_decide_eq_true (by first | (with_reducible assumption) | assumption)
                    obtain ⟨ad173, e173, hx173_0⟩ := Kd.at_string HR0.out x7_1 p173 q173
                    cases e173
                    replace p173 := eq_true p173
                    replace q173 := eq_true q173
                    have p174 : 0 ≤ (0 : Int) := (by omega)
                    have q174 : 0 < (l0.length : Int) := of_decide_eq_true (by first | (with_reducible assumption) | assumption)
                    obtain ⟨ad174, e174, hx174_0⟩ := Kd.at_string HR0.out 0 p174 q174
                    obtain rfl : ad173 = ad174 := (by injection e174)
                    have qi174 : (0 < l0.length) = True := eq_true (by omega)
                    (try rw [show ((0 : Int)).toNat = 0 from rfl] at hx174_0)
                    (try rw [Addr.add_zero'] at hx174_0)
                    replace p174 := eq_true p174
                    replace q174 := eq_true q174
                    go_wp2
                    go_ret
                    exact ⟨by first | rfl | (simp; done) | (simp [*]; done), by repeat (first | exact Drawn0.refl _ | apply Drawn0.step)⟩
                · rw [if_neg c7] at H
                  exact absurd H (by simp)
          · exact absurd (of_decide_eq_true c2b0) c4
        · rw [if_neg c3] at H
          exact absurd H (by simp)
      · rw [if_neg c2] at H
        have c2b0 : decide (x7_1 < (l0.length : Int)) = false := decide_eq_false c2
        clear c2
        obtain rfl := Option.some.inj H
        go_wp2
        go_ret
        exact ⟨by first | rfl | (simp; done) | (simp [*]; done), by repeat (first | exact Drawn0.refl _ | apply Drawn0.step)⟩

end Go.Proofs.Ytcpmlelejlmpdaa.QFnExactEncodeShards
