-- A text of this session, printed by a program of its own (wip/tools: xpatch.py, xprint.sh, mkq.py). No condition.
import Derived.Test.YtcpmlelejlmpdaaQFnExactSplitObjectx0
import Derived.Test.YtcpmlelejlmpdaaQFnExactSplitObjectx6
namespace Go.Proofs.Ytcpmlelejlmpdaa.QFnExactSplitObject
open Go.RowKit Go.Proofs.YtcpmlelejlmpdaaW.PrintWords Go.Proofs.YtcpmlelejlmpdaaW.PrintLast Go.Proofs.YtcpmlelejlmpdaaW.PrintMore
attribute [local go_sem] max2_int min2_int max_two min_two max_three min_three max_four min_four   -- for this text's walks alone
set_option linter.unusedVariables false
set_option linter.unusedSimpArgs false

/-! ### impl_newPlant: function 66 -/
/-- (The plant's place is no number: its code, written as one number, stands for it.) -/
def plantNo (K M G : Int) : Int := (K * 100 + M) * 100 + G
def pK (p : Int) : Nat := (p / 10000).toNat
def pM (p : Int) : Nat := (p / 100 % 100).toNat
def pG (p : Int) : Nat := (p % 100).toNat
def impl_newPlant.f (K M G : Int) : Option (Int) := if 1 ≤ K ∧ K ≤ 32 ∧ 0 ≤ M ∧ M ≤ 16 ∧ 0 ≤ G ∧ G ≤ 32 then some (plantNo K M G) else none
def xr (a b : Nat) : Nat := a ^^^ b
def rowAt (K i n : Nat) : List Value := (List.range 32).map fun j => .int .u8 ((if j < n then tabInv (xr (K + i) j) else 0 : Nat) : Int)
def globAt (K i n : Nat) : List Value := .int .i64 ((K + i : Nat) : Int) :: rowAt K i n
def globs (K M : Nat) : List (List Value) := (List.range M).map fun i => globAt K i K
def locAt (K M i : Nat) : List Value := [.int .i64 ((K + M + i : Nat) : Int), .int .i64 (i : Int)]
def locs (K M G : Nat) : List (List Value) := (List.range G).map fun i => locAt K M i
/-- A plant in memory. -/
structure PlantIn (W : World) (g K M G : Nat) : Prop where
 tab : ∃ gT, W.cell? ⟨g, 0, none⟩ = some (.pointer (some ⟨gT, 0, none⟩)) ∧ TabInv W gT 255
 k : W.cell? ⟨g, 1, none⟩ = some (.int .i64 (K : Int))
 m : W.cell? ⟨g, 2, none⟩ = some (.int .i64 (M : Int))
 n : W.cell? ⟨g, 3, none⟩ = some (.int .i64 (G : Int))
 gl : ∃ A c, W.cell? ⟨g, 4, none⟩ = some (.slice A M c) ∧ (Kd.raw 33).C W A M (globs K M) ∧ ∀ ad, A = some ad → ∃ b, ad = ⟨b, 0, none⟩
 lo : ∃ A c, W.cell? ⟨g, 5, none⟩ = some (.slice A G c) ∧ (Kd.raw 2).C W A G (locs K M G) ∧ ∀ ad, A = some ad → ∃ b, ad = ⟨b, 0, none⟩
theorem PlantIn.lt {W : World} {g K M G : Nat} (h : PlantIn W g K M G) : g < W.heap.size := World.block_lt_of_cell? W ⟨g, 1, none⟩ h.k
theorem PlantIn.below {W W' : World} {g K M G : Nat} (h : PlantIn W g K M G) (hb : Below W.heap.size W W') : PlantIn W' g K M G where
 tab := by obtain ⟨gT, h1, h2⟩ := h.tab; exact ⟨gT, pw_cell_below hb h1, h2.below hb⟩
 k := pw_cell_below hb h.k
 m := pw_cell_below hb h.m
 n := pw_cell_below hb h.n
 gl := by obtain ⟨A, c, h1, h2, h3⟩ := h.gl; exact ⟨A, c, pw_cell_below hb h1, Kd.C_below h2 hb, h3⟩
 lo := by obtain ⟨A, c, h1, h2, h3⟩ := h.lo; exact ⟨A, c, pw_cell_below hb h1, Kd.C_below h2 hb, h3⟩
theorem plantNo_of (K M G : Nat) (hK : K ≤ 32) (hM : M ≤ 16) (hG : G ≤ 32) : pK (plantNo K M G) = K ∧ pM (plantNo K M G) = M ∧ pG (plantNo K M G) = G := by
 unfold pK pM pG plantNo
 refine ⟨?_, ?_, ?_⟩ <;> omega
/-- A plant in memory, by its number. -/
structure PlantAt (W : World) (g : Nat) (p : Int) : Prop where
 k1 : 1 ≤ pK p
 k2 : pK p ≤ 32
 m2 : pM p ≤ 16
 g2 : pG p ≤ 32
 at_ : PlantIn W g (pK p) (pM p) (pG p)
theorem PlantAt.below {W W' : World} {g : Nat} {p : Int} (h : PlantAt W g p) (hb : Below W.heap.size W W') : PlantAt W' g p := ⟨h.k1, h.k2, h.m2, h.g2, h.at_.below hb⟩
theorem rowAt_len (K i n : Nat) : (rowAt K i n).length = 32 := by unfold rowAt; simp
theorem globAt_len (K i n : Nat) : (globAt K i n).length = 33 := by unfold globAt; simp [rowAt_len]
theorem globAt_set (K i j : Nat) (hj : j < 32) : (globAt K i j).toArray.setIfInBounds (1 + j) (.int .u8 ((tabInv (xr (K + i) j) : Nat) : Int)) = (globAt K i (j + 1)).toArray := by
 rw [List.setIfInBounds_toArray]
 unfold globAt
 rw [show 1 + j = j + 1 by omega, List.set_cons_succ]
 congr 2
 apply List.ext_getElem?
 intro t
 unfold rowAt
 rw [List.getElem?_set, List.getElem?_map, List.getElem?_map, List.length_map, List.length_range]
 by_cases h : j = t
 ·subst h
  rw [if_pos rfl, if_pos hj, List.getElem?_range hj]
  show some _ = some (Value.int .u8 ((if j < j + 1 then tabInv (xr (K + i) j) else 0 : Nat) : Int))
  rw [if_pos (by omega)]
 ·rw [if_neg h]
  by_cases ht : t < 32
  ·rw [List.getElem?_range ht]
   show some (Value.int .u8 ((if t < j then tabInv (xr (K + i) t) else 0 : Nat) : Int)) = some (Value.int .u8 ((if t < j + 1 then tabInv (xr (K + i) t) else 0 : Nat) : Int))
   by_cases h2 : t < j
   ·rw [if_pos h2, if_pos (by omega)]
   ·rw [if_neg h2, if_neg (by omega)]
  ·rw [List.getElem?_eq_none (by simp; omega)]; rfl
theorem globAt_get (K i n j : Nat) (hj : j < 33) : ∃ v, (globAt K i n).toArray[j]? = some v := by
 rw [List.getElem?_toArray, List.getElem?_eq_getElem (by rw [globAt_len]; exact hj)]
 exact ⟨_, rfl⟩
theorem globAt_one (K i n : Nat) : (globAt K i n).toArray.all (·.oneCell') = true := by
 rw [List.all_toArray]
 unfold globAt rowAt
 simp [Value.oneCell']
theorem fold_set : ∀ (l : List Value) (k : Nat) (pre post : List Value), pre.length = k → post.length = l.length → List.foldl (fun (cs : Array Value) (x : Value × Nat) => cs.setIfInBounds x.2 x.1) (pre ++ post).toArray (l.zipIdx k) = (pre ++ l).toArray
 | [], k, pre, post, _, h2 => by
  have : post = [] := List.eq_nil_of_length_eq_zero (by simpa using h2)
  subst this
  rfl
 | a :: l, k, pre, [], _, h2 => by simp at h2
 | a :: l, k, pre, p :: post, h1, h2 => by
  rw [List.zipIdx_cons, List.foldl_cons, List.setIfInBounds_toArray, List.set_append_right _ _ (by omega), h1, Nat.sub_self, List.set_cons_zero]
  have := fold_set l (k + 1) (pre ++ [a]) post (by simp [h1]) (by simpa using h2)
  simpa using this
theorem fold_zip (l : List Value) (cs : Array Value) (h : cs.size = l.length) : List.foldl (fun (cs : Array Value) (x : Value × Nat) => cs.setIfInBounds x.2 x.1) cs l.zipIdx = l.toArray := by
 have := fold_set l 0 [] cs.toList rfl (by simpa using h)
 simpa using this
theorem xor_nat (a b : Nat) (ha : a < 128) (hb : b < 128) : (Go.bits .xor .i64 (a : Int) (b : Int)) % 256 = ((xr a b : Nat) : Int) ∧ xr a b < 256 := by
 have hx : a ^^^ b < 2 ^ 7 := Nat.xor_lt_two_pow (by simpa using ha) (by simpa using hb)
 have e : Go.bits .xor .i64 (a : Int) (b : Int) = ((a ^^^ b : Nat) : Int) := by
  show IntKind.i64.wrap (((BitVec.ofInt 64 (a : Int)) ^^^ (BitVec.ofInt 64 (b : Int))).toNat : Int) = _
  rw [BitVec.toNat_xor, BitVec.ofInt_natCast, BitVec.ofInt_natCast, BitVec.toNat_ofNat, BitVec.toNat_ofNat, Nat.mod_eq_of_lt (by omega : a < 2 ^ 64), Nat.mod_eq_of_lt (by omega : b < 2 ^ 64), IntKind.wrap_i64]
  omega
 unfold xr
 rw [e]
 omega
theorem below_row {w W : World} (h : Below w.heap.size w W) {g : Nat} (hg : w.heap.size ≤ g) (cs : Array Value) : Below w.heap.size w (W.setRow g cs) :=
 ⟨h.os, h.tape, h.output, by rw [setRow_size]; exact h.size, fun i hi => (setRow_other W g i cs (by omega)).trans (h.block i hi)⟩
section
variable {ops : Array Oper} {rest : List Oper} {o : Oper} {a : Act} {Q : Exit → Act → World → Prop}
/-- A whole struct (or array) into a block of its own. -/
theorem row_store {W : World} (hgd : o.guard = none) (ty : TypeId) (x y : Operand) (ho : o.op = .store ty x y) (hN : o.dst = none) (g : Nat) (old cells : Array Value) (hx : a.eval x = .pointer (some ⟨g, 0, none⟩)) (hy : a.eval y = .agg cells)
  (hb : W.heap[g]? = some (.cells old ty (0, 0))) (hi : (Try.prog.info? ty).map (·.size) = some cells.size) (hs : old.size = cells.size) (h1 : cells.all (·.oneCell') = true)
  (h : ∀ W', W' = W.setRow g cells → W'.heap[g]? = some (.cells cells ty (0, 0)) → wpList Try.prog ops Q rest a W') : wpList Try.prog ops Q (o :: rest) a W := by
 refine wpList_plain hgd fun K hK => ?_
 unfold Oper.wp execOp
 simp only [ho, hx, hy, Instr.storeAt, Instr.sureAddr, Sem.run_bind, Sem.run_pure, Result.andThen_ok, run_storeVar_row W g ty ty old cells hb hi hs h1]
 show K (a.put o.dst undef) _
 rw [hN]
 exact hK _ _ (h _ rfl (setRow_heap W g old cells ty (0, 0) hb))
/-- A whole struct read. -/
theorem row_load {W : World} {oi : Oper} {a : Act} (ty : TypeId) (x : Operand) (ho : oi.op = .load ty x) (g : Nat) (cells : Array Value) (hx : a.eval x = .pointer (some ⟨g, 0, none⟩)) (hl : (loadVar ty ⟨g, 0, none⟩).run Try.prog W = .ok (.agg cells) W) :
  (execOp a.eval oi).run Try.prog W = .ok (.value (.agg cells)) W := by
 simp [execOp, ho, hx, Instr.loadAt, Instr.sureAddr, hl]
end

set_option maxHeartbeats 8000000 in
set_option maxRecDepth 100000 in
theorem impl_newPlant.callsN (cK cM cG : Nat) (hcK : cK ≤ 32) (hcM : cM ≤ 16) (hcG : cG ≤ 32) (w : World) :
  Calls Try.prog 66 #[.agg #[.int .i64 (cK : Int), .int .i64 (cM : Int), .int .i64 (cG : Int)]] w fun e w' => ∃ g, e = .returned (.pointer (some ⟨g, 0, none⟩)) ∧ w.heap.size ≤ g ∧ PlantIn w' g cK cM cG ∧ Below w.heap.size w w' := by
 have HB := Aside0.mk (Below.refl w.heap.size w)
 go_enter Try.func66, Try.ntmps66
 go_wp2_with (first | ((with_reducible refine gate_dst (N := 1) rfl ?_); refine box_event ?hg (N := 1) ?hd (cs := #[.int .i64 (cK : Int), .int .i64 (cM : Int), .int .i64 (cG : Int)]) (t := 26) ?hr ?_; (case hd => rfl); (case hg => rfl); (case hr => first | (go_simp; done) | (go_simp; rfl)); intro gc hg w1 hbox hb; have n1_ := Aside0.mk (below_step HB.out hb); have n2_ := Aside0.mk (hbox); have n3_ := Aside0.mk ((by rw [hg]; exact below_size HB.out) : w.heap.size ≤ gc); clear HB; have HB := n1_; have BKc := n2_; have GEc := n3_; clear n1_ n2_ n3_; clear hb hbox hg))
 have n2_ := Aside0.mk (blk_drew BKc.out)
 have n3_ := Aside0.mk (below_drew1 HB.out)
 clear BKc HB
 have BKc := n2_
 have HB := n3_
 clear n2_ n3_
 refine start_ (n := 5) (S := fun w' => w'.cell? ⟨gc, 0, none⟩ = some (.int .i64 (cK : Int)) ∧ w'.cell? ⟨gc, 1, none⟩ = some (.int .i64 (cM : Int)) ∧ w'.cell? ⟨gc, 2, none⟩ = some (.int .i64 (cG : Int))) (ds := []) #[false, false, false, false, false] (by kernel_rfl) rfl rfl ⟨(blk_cell BKc.out 0).trans rfl, (blk_cell BKc.out 1).trans rfl, (blk_cell BKc.out 2).trans rfl⟩ (fun hHeld => ?_)
 generalize w1.drew = w2 at BKc HB hHeld ⊢
 refine take_ (i := 1) (N := some 9) (v := ?_) (a' := ?_) #[false, true, false, false, false] rfl rfl (by kernel_rfl) (fun _ _ _ h => h) (Or.inl ⟨by rfl, ?_⟩) hHeld ?_ ?_; rotate_left; rintro w' ⟨s0, s1, s2⟩; go_simp; with_reducible rfl; rotate_left; simp only [Cap.pz]; rfl
 refine one_ (i := 0) (N := some 8) #[true, true, false, false, false] rfl rfl (by kernel_rfl) (by decide) (fun Kq hK => ?_)
 refine goes_ Try.func75 (by kernel_rfl) rfl #[] (by rfl) rfl rfl (by (try simp only [List.map_toArray, List.map_cons, List.map_nil]); first | done | rfl) ?_
 with_reducible refine (impl_makeTables8.calls _).mono ?_
 rintro e w3 ⟨gT, rfl, hgT, hT, hb⟩
 refine ⟨_, rfl, ?_⟩
 have n0_ := Aside0.mk (blk_below BKc.out hb)
 have n1_ := Aside0.mk (below_step HB.out hb)
 have HT := Aside0.mk hT
 clear BKc HB hT hb
 have BKc := n0_
 have HB := n1_
 clear n0_ n1_
 refine hK.out _ _ ⟨(blk_cell BKc.out 0).trans rfl, (blk_cell BKc.out 1).trans rfl, (blk_cell BKc.out 2).trans rfl⟩ (fun hHeld => ?_)
 clear hK Kq
 refine norm_ (a' := ?_) ?_ ?_; rotate_left; show Act.put _ (some 8) _ = _; simp only [Cap.pz]; rfl
 refine pure_ (i := 2) (N := some 10) (v := ?_) (a' := ?_) #[true, true, true, false, false] rfl rfl (by kernel_rfl) (fun _ _ _ h => h) (Or.inl ⟨by rfl, ?_⟩) ?_ ?_; rotate_left; intro w'; go_simp; with_reducible rfl; rotate_left; simp only [Cap.pz]; rfl
 refine one_ (i := 3) (N := some 11) #[true, true, true, true, false] rfl rfl (by kernel_rfl) (by decide) (fun Kq hK => ?_)
 refine value_ (w1 := ?_) (v := ?_) (by rfl) rfl ?_ ?_
 rotate_left 2
 ·go_simp
  constructor
  ·rfl
  ·rfl
 refine hK.out _ _ ⟨(blk_cell (blk_alloc BKc.out _) 0).trans rfl, (blk_cell (blk_alloc BKc.out _) 1).trans rfl, (blk_cell (blk_alloc BKc.out _) 2).trans rfl⟩ (fun hHeld => ?_)
 clear hK Kq
 refine norm_ (a' := ?_) ?_ ?_; rotate_left; show Act.put _ (some 11) _ = _; simp only [Cap.pz]; rfl
 refine pure_ (i := 4) (N := some 3) (v := ?_) (a' := ?_) #[true, true, true, true, true] rfl rfl (by kernel_rfl) (fun _ _ _ h => h) (Or.inl ⟨by rfl, ?_⟩) ?_ ?_; rotate_left; intro w'; go_simp; with_reducible rfl; rotate_left; simp only [Cap.pz]; rfl
 refine done_ (by kernel_rfl) ?_
 clear hHeld
 have n0_ := Aside0.mk (blk_alloc BKc.out (.cells #[.pointer (some ⟨gT, 0, none⟩), .int .i64 (cK : Int), .int .i64 (cM : Int), .int .i64 (cG : Int), .slice none 0 0, .slice none 0 0] 142))
 have n1_ := Aside0.mk (blk_new w3 (.cells #[.pointer (some ⟨gT, 0, none⟩), .int .i64 (cK : Int), .int .i64 (cM : Int), .int .i64 (cG : Int), .slice none 0 0, .slice none 0 0] 142))
 have n2_ := Aside0.mk (HT.out.block (Below.heap_alloc w3 (.cells #[.pointer (some ⟨gT, 0, none⟩), .int .i64 (cK : Int), .int .i64 (cM : Int), .int .i64 (cG : Int), .slice none 0 0, .slice none 0 0] 142) _ HT.out.lt))
 have n3_ := Aside0.mk (below_alloc HB.out (.cells #[.pointer (some ⟨gT, 0, none⟩), .int .i64 (cK : Int), .int .i64 (cM : Int), .int .i64 (cG : Int), .slice none 0 0, .slice none 0 0] 142))
 have GEp := Aside0.mk (below_size HB.out)
 have NEc := Aside0.mk (Nat.ne_of_lt (blk_lt BKc.out))
 have NET := Aside0.mk (Nat.ne_of_lt HT.out.lt)
 clear BKc HT HB
 generalize w3.heap.size = gp at n1_ GEp NEc NET ⊢
 generalize w3.alloc (.cells #[.pointer (some ⟨gT, 0, none⟩), .int .i64 (cK : Int), .int .i64 (cM : Int), .int .i64 (cG : Int), .slice none 0 0, .slice none 0 0] 142) = w4 at n0_ n1_ n2_ n3_ ⊢
 have BKc := n0_
 have BKp := n1_
 have HT := n2_
 have HB := n3_
 clear n0_ n1_ n2_ n3_
 have hcz1 : w4.cell? ⟨gc, 1, none⟩ = some (.int .i64 (cM : Int)) := (blk_cell BKc.out 1).trans rfl
 go_wp2
 go_loopw [14] (fun v14 wr => ∃ (i : Nat) (vG : Value), i ≤ cM ∧ v14 = .int .i64 (i : Int) ∧ Aside0 (wr.heap[gc]? = some (.cells #[.int .i64 (cK : Int), .int .i64 (cM : Int), .int .i64 (cG : Int)] 26 (0, 0))) ∧ Aside0 (wr.heap[gp]? = some (.cells #[.pointer (some ⟨gT, 0, none⟩), .int .i64 (cK : Int), .int .i64 (cM : Int), .int .i64 (cG : Int), vG, .slice none 0 0] 142 (0, 0))) ∧ Aside0 ((Kd.raw 33).R 147 wr w.heap.size (fun k => k ≠ gp ∧ k ≠ gc ∧ k ≠ gT) vG ((List.range i).map fun j => globAt cK j cK)) ∧ Aside0 (TabInv wr gT 255) ∧ Aside0 (Below w.heap.size w wr)) (fun v14 _ => cM - (intOf v14).toNat)
 case atStart => exact ⟨0, _, Nat.zero_le _, rfl, BKc, BKp, ⟨Kd.R_nil _ _ _ _ _⟩, HT, HB⟩
 case round =>
  clear BKc BKp HT HB hcz1
  obtain ⟨i, vG, hi, rfl, BKc, BKp, HR, HT, HB⟩ := hrel
  have hcz0 : wr.cell? ⟨gc, 0, none⟩ = some (.int .i64 (cK : Int)) := (blk_cell BKc.out 0).trans rfl
  by_cases hlt : i < cM
  ·have c0 : decide ((i : Int) < (cM : Int)) = true := decide_eq_true (by omega)
   have hwK : IntKind.i64.wrap ((cK : Int) + (i : Int)) = ((cK + i : Nat) : Int) := by rw [IntKind.wrap_i64]; omega
   go_wp2_with (first | ((with_reducible refine gate_dst (N := 5) rfl ?_); refine box_event ?hg (N := 5) ?hd (cs := (Value.int .i64 0 :: List.replicate 32 (.int .u8 0)).toArray) (t := 147) ?hr ?_; (case hd => rfl); (case hg => rfl); (case hr => first | (go_simp; done) | (go_simp; rfl)); intro gb hgb w5 hbox hb; have GEg := Aside0.mk ((by rw [hgb]; exact below_size HB.out) : w.heap.size ≤ gb); have NEcg := Aside0.mk ((by have := blk_lt BKc.out; omega) : gc ≠ gb); have NEpg := Aside0.mk ((by have := blk_lt BKp.out; omega) : gp ≠ gb); have NETg := Aside0.mk ((by have := HT.out.lt; omega) : gT ≠ gb); have n0_ : Aside0 (w5.heap[gc]? = some (.cells #[.int .i64 (cK : Int), .int .i64 (cM : Int), .int .i64 (cG : Int)] 26 (0, 0))) := ⟨blk_below BKc.out hb⟩; have n1_ : Aside0 (w5.heap[gp]? = some (.cells #[.pointer (some ⟨gT, 0, none⟩), .int .i64 (cK : Int), .int .i64 (cM : Int), .int .i64 (cG : Int), vG, .slice none 0 0] 142 (0, 0))) := ⟨blk_below BKp.out hb⟩; have n2_ : Aside0 (TabInv w5 gT 255) := ⟨HT.out.below hb⟩; have n3_ : Aside0 (((Kd.raw 33).R 147 w5 w.heap.size (fun k => (k ≠ gp ∧ k ≠ gc ∧ k ≠ gT) ∧ k ≠ gb) vG ((List.range i).map fun j => globAt cK j cK))) := ⟨Kd.R_mono (Kd.R_below (Kd.R_bound HR.out) hb) (fun k hk => ⟨hk.1, by have := hk.2.2.1; omega⟩)⟩; have n4_ : Aside0 (Below w.heap.size w w5) := ⟨below_step HB.out hb⟩; clear BKc BKp HT HR HB; have BKc := n0_; have BKp := n1_; have HT := n2_; have HR := n3_; have HB := n4_; clear n0_ n1_ n2_ n3_ n4_; have BKg := Aside0.mk hbox; clear hb hbox hgb) | ((with_reducible refine gate_store (t := 147) (p := 5) rfl ?_); (refine row_store (by rfl) 147 (.tmp 5) (.tmp 22) rfl rfl gb _ (globAt cK i 0).toArray (by rfl) (by kernel_rfl) BKg.out (by kernel_rfl) (by simp [globAt_len]) ?h1 ?_); (case h1 => exact globAt_one _ _ _); intro w6 hw6 hbg; have n0_ : Aside0 (w6.heap[gc]? = some (.cells #[.int .i64 (cK : Int), .int .i64 (cM : Int), .int .i64 (cG : Int)] 26 (0, 0))) := ⟨by rw [hw6]; exact (setRow_other _ _ _ _ NEcg.out).trans BKc.out⟩; have n1_ : Aside0 (w6.heap[gp]? = some (.cells #[.pointer (some ⟨gT, 0, none⟩), .int .i64 (cK : Int), .int .i64 (cM : Int), .int .i64 (cG : Int), vG, .slice none 0 0] 142 (0, 0))) := ⟨by rw [hw6]; exact (setRow_other _ _ _ _ NEpg.out).trans BKp.out⟩; have n2_ : Aside0 (TabInv w6 gT 255) := ⟨by rw [hw6]; exact HT.out.block (setRow_other _ _ _ _ NETg.out)⟩; have n3_ : Aside0 (((Kd.raw 33).R 147 w6 w.heap.size (fun k => (k ≠ gp ∧ k ≠ gc ∧ k ≠ gT) ∧ k ≠ gb) vG ((List.range i).map fun j => globAt cK j cK))) := ⟨by rw [hw6]; exact Kd.R_step HR.out (fun k ho _ => setRow_other _ _ _ _ ho.2)⟩; have n4_ : Aside0 (Below w.heap.size w w6) := ⟨by rw [hw6]; exact below_row HB.out GEg.out _⟩; clear BKc BKp HT HR HB; have BKc := n0_; have BKp := n1_; have HT := n2_; have HR := n3_; have HB := n4_; clear n0_ n1_ n2_ n3_ n4_; clear BKg hw6; have BKg := Aside0.mk hbg; clear hbg; have hcz6 : w6.cell? ⟨gc, 0, none⟩ = some (.int .i64 (cK : Int)) := (blk_cell BKc.out 0).trans rfl))
   go_loopw [25] (fun v25 wq => ∃ (j : Nat), j ≤ cK ∧ v25 = .int .i64 (j : Int) ∧ Aside0 (wq.heap[gc]? = some (.cells #[.int .i64 (cK : Int), .int .i64 (cM : Int), .int .i64 (cG : Int)] 26 (0, 0))) ∧ Aside0 (wq.heap[gp]? = some (.cells #[.pointer (some ⟨gT, 0, none⟩), .int .i64 (cK : Int), .int .i64 (cM : Int), .int .i64 (cG : Int), vG, .slice none 0 0] 142 (0, 0))) ∧ Aside0 (wq.heap[gb]? = some (.cells (globAt cK i j).toArray 147 (0, 0))) ∧ Aside0 ((Kd.raw 33).R 147 wq w.heap.size (fun k => (k ≠ gp ∧ k ≠ gc ∧ k ≠ gT) ∧ k ≠ gb) vG ((List.range i).map fun j => globAt cK j cK)) ∧ Aside0 (TabInv wq gT 255) ∧ Aside0 (Below w.heap.size w wq)) (fun v25 _ => cK - (intOf v25).toNat)
   case atStart => exact ⟨0, Nat.zero_le _, rfl, BKc, BKp, BKg, HR, HT, HB⟩
   case round =>
    clear BKc BKp BKg HR HT HB hcz6 hcz0
    obtain ⟨j, hj, rfl, BKc, BKp, BKg, HR, HT, HB⟩ := hrel
    by_cases hlj : j < cK
    ·have c1 : decide ((j : Int) < (cK : Int)) = true := decide_eq_true (by omega)
     have hj32 : (j : Int) < 32 := by omega
     have hxw : ((cK + i : Nat) : Int) = wrap64 ((cK : Int) + (i : Int)) := by unfold wrap64; omega
     obtain ⟨hx1, hx2⟩ := xor_nat (cK + i) j (by omega) (by omega)
     have hxe : IntKind.u8.wrap (Go.bits .xor .i64 (wrap64 ((cK : Int) + (i : Int))) (j : Int)) = ((xr (cK + i) j : Nat) : Int) := by rw [← hxw, IntKind.wrap_u8]; exact hx1
     clear hx1
     go_wp2
     have n0_ : Aside0 (wr.drew.heap[gc]? = some (.cells #[.int .i64 (cK : Int), .int .i64 (cM : Int), .int .i64 (cG : Int)] 26 (0, 0))) := ⟨blk_drew BKc.out⟩
     have n1_ : Aside0 (wr.drew.heap[gp]? = some (.cells #[.pointer (some ⟨gT, 0, none⟩), .int .i64 (cK : Int), .int .i64 (cM : Int), .int .i64 (cG : Int), vG, .slice none 0 0] 142 (0, 0))) := ⟨blk_drew BKp.out⟩
     have n2_ : Aside0 (wr.drew.heap[gb]? = some (.cells (globAt cK i j).toArray 147 (0, 0))) := ⟨blk_drew BKg.out⟩
     have n3_ : Aside0 (TabInv wr.drew gT 255) := ⟨HT.out.block rfl⟩
     have n4_ : Aside0 (((Kd.raw 33).R 147 wr.drew w.heap.size (fun k => (k ≠ gp ∧ k ≠ gc ∧ k ≠ gT) ∧ k ≠ gb) vG ((List.range i).map fun j => globAt cK j cK))) := ⟨Kd.R_drew HR.out⟩
     have n5_ : Aside0 (Below w.heap.size w wr.drew) := ⟨below_drew1 HB.out⟩
     clear BKc BKp BKg HT HR HB
     have BKc := n0_
     have BKp := n1_
     have BKg := n2_
     have HT := n3_
     have HR := n4_
     have HB := n5_
     clear n0_ n1_ n2_ n3_ n4_ n5_
     refine start_ (n := 16) (S := fun w' => w'.cell? ⟨gc, 0, none⟩ = some (.int .i64 (cK : Int)) ∧ w'.cell? ⟨gp, 0, none⟩ = some (.pointer (some ⟨gT, 0, none⟩))) (ds := [15]) #[false, false, false, false, false, false, false, false, false, false, false, false, false, false, false, false] (by kernel_rfl) rfl rfl ⟨(blk_cell BKc.out 0).trans rfl, (blk_cell BKp.out 0).trans rfl⟩ (fun hHeld => ?_)
     generalize wr.drew = w7 at BKc BKp BKg HT HR HB hHeld ⊢
     refine pure_ (i := 0) (N := some 28) (v := ?_) (a' := ?_) #[true, false, false, false, false, false, false, false, false, false, false, false, false, false, false, false] rfl rfl (by kernel_rfl) (fun _ _ _ h => h) (Or.inl ⟨by rfl, ?_⟩) ?_ ?_; rotate_left; intro w'; go_simp; with_reducible rfl; rotate_left; simp only [Cap.pz]; rfl
     refine pure_ (i := 1) (N := some 29) (v := ?_) (a' := ?_) #[true, true, false, false, false, false, false, false, false, false, false, false, false, false, false, false] rfl rfl (by kernel_rfl) (fun _ _ _ h => h) (Or.inl ⟨by rfl, ?_⟩) ?_ ?_; rotate_left; intro w'; go_simp; with_reducible rfl; rotate_left; simp only [Cap.pz]; rfl
     refine pure_ (i := 2) (N := some 30) (v := ?_) (a' := ?_) #[true, true, true, false, false, false, false, false, false, false, false, false, false, false, false, false] rfl rfl (by kernel_rfl) (fun _ _ _ h => h) (Or.inl ⟨by rfl, ?_⟩) ?_ ?_; rotate_left; intro w'; go_simp; with_reducible rfl; rotate_left; simp only [Cap.pz]; rfl
     refine pure_ (i := 3) (N := some 31) (v := ?_) (a' := ?_) #[true, true, true, true, false, false, false, false, false, false, false, false, false, false, false, false] rfl rfl (by kernel_rfl) (fun _ _ _ h => h) (Or.inl ⟨by rfl, ?_⟩) ?_ ?_; rotate_left; intro w'; go_simp; with_reducible rfl; rotate_left; simp only [Cap.pz]; rfl
     refine take_ (i := 4) (N := some 32) (v := ?_) (a' := ?_) #[true, true, true, true, true, false, false, false, false, false, false, false, false, false, false, false] rfl rfl (by kernel_rfl) (fun _ _ _ h => h) (Or.inl ⟨by rfl, ?_⟩) hHeld ?_ ?_; rotate_left; rintro w' ⟨s0, s1⟩; go_simp; with_reducible rfl; rotate_left; simp only [Cap.pz]; rfl
     refine pure_ (i := 5) (N := some 33) (v := ?_) (a' := ?_) #[true, true, true, true, true, true, false, false, false, false, false, false, false, false, false, false] rfl rfl (by kernel_rfl) (fun _ _ _ h => h) (Or.inl ⟨by rfl, ?_⟩) ?_ ?_; rotate_left; intro w'; go_simp; with_reducible rfl; rotate_left; simp only [Cap.pz]; rfl
     refine take_ (i := 6) (N := some 34) (v := ?_) (a' := ?_) #[true, true, true, true, true, true, true, false, false, false, false, false, false, false, false, false] rfl rfl (by kernel_rfl) (fun _ _ _ h => h) (Or.inl ⟨by rfl, ?_⟩) hHeld ?_ ?_; rotate_left; rintro w' ⟨s0, s1⟩; go_simp; with_reducible rfl; rotate_left; simp only [Cap.pz]; rfl
     refine pure_ (i := 7) (N := some 35) (v := ?_) (a' := ?_) #[true, true, true, true, true, true, true, true, false, false, false, false, false, false, false, false] rfl rfl (by kernel_rfl) (fun _ _ _ h => h) (Or.inl ⟨by rfl, ?_⟩) ?_ ?_; rotate_left; intro w'; go_simp; with_reducible rfl; rotate_left; simp only [Cap.pz]; rfl
     refine pure_ (i := 8) (N := some 36) (v := ?_) (a' := ?_) #[true, true, true, true, true, true, true, true, true, false, false, false, false, false, false, false] rfl rfl (by kernel_rfl) (fun _ _ _ h => h) (Or.inl ⟨by rfl, ?_⟩) ?_ ?_; rotate_left; intro w'; go_simp; with_reducible rfl; rotate_left; simp only [Cap.pz]; rfl
     refine pure_ (i := 9) (N := some 37) (v := ?_) (a' := ?_) #[true, true, true, true, true, true, true, true, true, true, false, false, false, false, false, false] rfl rfl (by kernel_rfl) (fun _ _ _ h => h) (Or.inl ⟨by rfl, ?_⟩) ?_ ?_; rotate_left; intro w'; go_simp; with_reducible rfl; rotate_left; simp only [Cap.pz]; rfl
     refine pure_ (i := 10) (N := some 38) (v := ?_) (a' := ?_) #[true, true, true, true, true, true, true, true, true, true, true, false, false, false, false, false] rfl rfl (by kernel_rfl) (fun _ _ _ h => h) (Or.inl ⟨by rfl, ?_⟩) ?_ ?_; rotate_left; intro w'; go_simp; with_reducible rfl; rotate_left; simp only [Cap.pz]; rfl
     refine pure_ (i := 11) (N := some 39) (v := ?_) (a' := ?_) #[true, true, true, true, true, true, true, true, true, true, true, true, false, false, false, false] rfl rfl (by kernel_rfl) (fun _ _ _ h => h) (Or.inl ⟨by rfl, ?_⟩) ?_ ?_; rotate_left; intro w'; go_simp; with_reducible rfl; rotate_left; simp only [Cap.pz]; rfl
     refine pure_ (i := 13) (N := some 41) (v := ?_) (a' := ?_) #[true, true, true, true, true, true, true, true, true, true, true, true, false, true, false, false] rfl rfl (by kernel_rfl) (fun _ _ _ h => h) (Or.inl ⟨by rfl, ?_⟩) ?_ ?_; rotate_left; intro w'; go_simp; with_reducible rfl; rotate_left; simp only [Cap.pz]; rfl
     refine one_ (i := 12) (N := some 40) #[true, true, true, true, true, true, true, true, true, true, true, true, true, true, false, false] rfl rfl (by kernel_rfl) (by decide) (fun Kq hK => ?_)
     refine goes_ Try.func105 (by kernel_rfl) rfl #[.pointer (some ⟨gT, 0, none⟩), .int .u8 ((xr (cK + i) j : Nat) : Int)] (by rfl) rfl rfl (by simp only [List.map_toArray, List.map_cons, List.map_nil]; rfl) ?_
     with_reducible refine (impl_tables8_inv.callsN gT (xr (cK + i) j) hx2 _ HT.out).mono ?_
     rintro e w' ⟨rfl, ⟨nd, rfl⟩⟩
     refine ⟨_, rfl, ?_⟩
     refine hK.out _ _ ⟨(blk_cell BKc.out 0).trans rfl, (blk_cell BKp.out 0).trans rfl⟩ (fun hHeld => ?_)
     clear hK Kq
     refine norm_ (a' := ?_) ?_ ?_; rotate_left; show Act.put _ (some 40) _ = _; simp only [Cap.pz]; rfl
     refine pure_ (i := 14) (N := some 42) (v := ?_) (a' := ?_) #[true, true, true, true, true, true, true, true, true, true, true, true, true, true, true, false] rfl rfl (by kernel_rfl) (fun _ _ _ h => h) (Or.inl ⟨by rfl, ?_⟩) ?_ ?_; rotate_left; intro w'; go_simp; with_reducible rfl; rotate_left; simp only [Cap.pz]; rfl
     refine last_ (i := 15) (N := none) #[true, true, true, true, true, true, true, true, true, true, true, true, true, true, true, true] rfl rfl (by kernel_rfl) (by decide) (fun Kq hK => ?_)
     obtain ⟨vq, hvq⟩ := globAt_get cK i j (1 + j) (by omega)
     have hcg : (w7.drewN nd).cell? ⟨gb, 1 + j, none⟩ = some vq := (blk_cell BKg.out (1 + j)).trans hvq
     have hfg := blk_frozen BKg.out (1 + j)
     refine skip_ (w1 := ?_) (by rfl) rfl ?_ ?_
     rotate_left
     ·go_simp
      rfl
     refine hK.out _ _ ?_
     clear hK Kq
     refine done_ (by kernel_rfl) ?_
     go_wp2
     refine ⟨⟨j + 1, by omega, by go_num, ⟨blk_far (blk_drewN BKc.out nd) NEcg.out _⟩, ⟨blk_far (blk_drewN BKp.out nd) NEpg.out _⟩, ⟨blk_put (blk_drewN BKg.out nd) (1 + j) _ (globAt_set cK i j (by omega))⟩, ⟨Kd.R_step (Kd.R_drewN HR.out nd) (fun k ho _ => Below.heap_setCell _ _ _ k ho.2)⟩, ⟨(HT.out.block (w' := w7.drewN nd) rfl).block (Below.heap_setCell _ _ _ gT NETg.out)⟩, ⟨below_set (pw_below_drewN HB.out nd) GEg.out⟩⟩, ?_⟩
     simp [intOf]; omega
    ·have c1 : decide ((j : Int) < (cK : Int)) = false := decide_eq_false (by omega)
     have ej : j = cK := by omega
     have nG_ : Aside0 (wr.heap[gb]? = some (.cells (globAt cK i cK).toArray 147 (0, 0))) := ⟨by have h := BKg.out; rwa [ej] at h⟩
     clear BKg
     have BKg := nG_
     clear nG_ ej
     go_wp2
     have n0_ : Aside0 (wr.drew.heap[gc]? = some (.cells #[.int .i64 (cK : Int), .int .i64 (cM : Int), .int .i64 (cG : Int)] 26 (0, 0))) := ⟨blk_drew BKc.out⟩
     have n1_ : Aside0 (wr.drew.heap[gp]? = some (.cells #[.pointer (some ⟨gT, 0, none⟩), .int .i64 (cK : Int), .int .i64 (cM : Int), .int .i64 (cG : Int), vG, .slice none 0 0] 142 (0, 0))) := ⟨blk_drew BKp.out⟩
     have n2_ : Aside0 (wr.drew.heap[gb]? = some (.cells (globAt cK i cK).toArray 147 (0, 0))) := ⟨blk_drew BKg.out⟩
     have n3_ : Aside0 (TabInv wr.drew gT 255) := ⟨HT.out.block rfl⟩
     have n4_ : Aside0 (((Kd.raw 33).R 147 wr.drew w.heap.size (fun k => (k ≠ gp ∧ k ≠ gc ∧ k ≠ gT) ∧ k ≠ gb) vG ((List.range i).map fun j => globAt cK j cK))) := ⟨Kd.R_drew HR.out⟩
     have n5_ : Aside0 (Below w.heap.size w wr.drew) := ⟨below_drew1 HB.out⟩
     clear BKc BKp BKg HT HR HB
     have BKc := n0_
     have BKp := n1_
     have BKg := n2_
     have HT := n3_
     have HR := n4_
     have HB := n5_
     clear n0_ n1_ n2_ n3_ n4_ n5_
     refine start_ (n := 11) (S := fun w' => w'.cell? ⟨gp, 4, none⟩ = some vG ∧ w'.heap[gb]? = some (.cells (globAt cK i cK).toArray 147 (0, 0))) (ds := [10]) #[false, false, false, false, false, false, false, false, false, false, false] (by kernel_rfl) rfl rfl ⟨(blk_cell BKp.out 4).trans rfl, BKg.out⟩ (fun hHeld => ?_)
     generalize wr.drew = w7 at BKc BKp BKg HT HR HB hHeld ⊢
     refine pure_ (i := 0) (N := some 44) (v := ?_) (a' := ?_) #[true, false, false, false, false, false, false, false, false, false, false] rfl rfl (by kernel_rfl) (fun _ _ _ h => h) (Or.inl ⟨by rfl, ?_⟩) ?_ ?_; rotate_left; intro w'; go_simp; with_reducible rfl; rotate_left; simp only [Cap.pz]; rfl
     refine pure_ (i := 1) (N := some 45) (v := ?_) (a' := ?_) #[true, true, false, false, false, false, false, false, false, false, false] rfl rfl (by kernel_rfl) (fun _ _ _ h => h) (Or.inl ⟨by rfl, ?_⟩) ?_ ?_; rotate_left; intro w'; go_simp; with_reducible rfl; rotate_left; simp only [Cap.pz]; rfl
     refine pure_ (i := 2) (N := some 46) (v := ?_) (a' := ?_) #[true, true, true, false, false, false, false, false, false, false, false] rfl rfl (by kernel_rfl) (fun _ _ _ h => h) (Or.inl ⟨by rfl, ?_⟩) ?_ ?_; rotate_left; intro w'; go_simp; with_reducible rfl; rotate_left; simp only [Cap.pz]; rfl
     refine pure_ (i := 3) (N := some 47) (v := ?_) (a' := ?_) #[true, true, true, true, false, false, false, false, false, false, false] rfl rfl (by kernel_rfl) (fun _ _ _ h => h) (Or.inl ⟨by rfl, ?_⟩) ?_ ?_; rotate_left; intro w'; go_simp; with_reducible rfl; rotate_left; simp only [Cap.pz]; rfl
     refine take_ (i := 4) (N := some 48) (v := ?_) (a' := ?_) #[true, true, true, true, true, false, false, false, false, false, false] rfl rfl (by kernel_rfl) (fun _ _ _ h => h) (Or.inl ⟨by rfl, ?_⟩) hHeld ?_ ?_; rotate_left; rintro w' ⟨s0, s1⟩; go_simp; with_reducible rfl; rotate_left; simp only [Cap.pz]; rfl
     refine take_ (i := 5) (N := some 49) (v := ?_) (a' := ?_) #[true, true, true, true, true, true, false, false, false, false, false] rfl rfl (by kernel_rfl) (fun _ _ _ h => h) (Or.inl ⟨by rfl, ?_⟩) hHeld ?_ ?_; rotate_left; rintro w' ⟨s0, s1⟩; refine row_load 147 (.tmp 5) ?ro gb _ ?rx (run_loadVar_row w' gb 147 147 _ (0, 0) _ s1 Try.underlying147 rfl (by kernel_rfl)); (case ro => rfl); (case rx => rfl); rotate_left; simp only [Cap.pz]; rfl
     refine one_ (i := 6) (N := some 50) #[true, true, true, true, true, true, true, false, false, false, false] rfl rfl (by kernel_rfl) (by decide) (fun Kq hK => ?_)
     refine value_ (w1 := ?_) (v := ?_) (by rfl) rfl ?_ ?_
     rotate_left 2
     ·go_simp
      rw [if_neg (by rw [globAt_len]; omega), fold_zip _ _ (by rw [globAt_len]; rfl)]
      go_simp
      constructor
      ·rfl
      ·rfl
     refine hK.out _ _ ⟨(blk_cell (blk_alloc BKp.out _) 4).trans rfl, blk_alloc BKg.out _⟩ (fun hHeld => ?_)
     clear hK Kq
     refine norm_ (a' := ?_) ?_ ?_; rotate_left; show Act.put _ (some 50) _ = _; simp only [Cap.pz]; rfl
     refine one_ (i := 7) (N := some 51) #[true, true, true, true, true, true, true, true, false, false, false] rfl rfl (by kernel_rfl) (by decide) (fun Kq hK => ?_)
     refine Kd.R_append_step (Kd.raw 33) (w0 := w) w.heap.size (by rfl) (.tmp 48) (.tmp 50) 139 147 (.agg (Value.int .i64 0 :: List.replicate 32 (.int .u8 0)).toArray) 40 rfl Try.underlying139 (by kernel_rfl) rfl (by decide) (by omega) vG ((List.range i).map fun j => globAt cK j cK) (globAt cK i cK) (globAt cK i cK) (fun k => k ≠ gp ∧ k ≠ gc ∧ k ≠ gT) (fun _ => False) rfl rfl ?aP (fun _ hk => hk.elim) ?aF ?aO ?aB ?aS ?aL ?_
     (case aP => exact ⟨rfl, globAt_len _ _ _, by simpa using globAt_one cK i cK⟩)
     (case aB => exact HB.out)
     (case aF => exact (fun k hk => by have h1 := blk_lt BKp.out; have h2 := blk_lt BKc.out; have h3 := HT.out.lt; omega))
     (case aO => exact Kd.R_mono HR.out (fun k h => h.1))
     (case aS => exact below_size HB.out)
     (case aL => simp; omega)
     intro vG2 w8 ho hb hg hat
     have nP_ : some gp ≠ vG.ownBlock := fun e => (HR.out.1 gp e.symm).1.1 rfl
     have nC_ : some gc ≠ vG.ownBlock := fun e => (HR.out.1 gc e.symm).1.2.1 rfl
     have nT_ : some gT ≠ vG.ownBlock := fun e => (HR.out.1 gT e.symm).1.2.2 rfl
     have nB_ : some gb ≠ vG.ownBlock := fun e => (HR.out.1 gb e.symm).2 rfl
     have er_ : ((List.range i).map fun j => globAt cK j cK) ++ [globAt cK i cK] = (List.range (i + 1)).map fun j => globAt cK j cK := by rw [List.range_succ, List.map_append]; rfl
     rw [er_] at ho
     have n0_ : Aside0 (w8.heap[gc]? = some (.cells #[.int .i64 (cK : Int), .int .i64 (cM : Int), .int .i64 (cG : Int)] 26 (0, 0))) := ⟨blk_grown BKc.out hg nC_⟩
     have n1_ : Aside0 (w8.heap[gp]? = some (.cells #[.pointer (some ⟨gT, 0, none⟩), .int .i64 (cK : Int), .int .i64 (cM : Int), .int .i64 (cG : Int), vG, .slice none 0 0] 142 (0, 0))) := ⟨blk_grown BKp.out hg nP_⟩
     have n2_ : Aside0 (w8.heap[gb]? = some (.cells (globAt cK i cK).toArray 147 (0, 0))) := ⟨blk_grown BKg.out hg nB_⟩
     have n3_ : Aside0 (TabInv w8 gT 255) := ⟨HT.out.block (hg.block gT HT.out.lt nT_)⟩
     have n4_ : Aside0 (((Kd.raw 33).R 147 w8 w.heap.size (fun k => k ≠ gp ∧ k ≠ gc ∧ k ≠ gT) vG2 ((List.range (i + 1)).map fun j => globAt cK j cK))) := ⟨ho⟩
     have n5_ : Aside0 (Below w.heap.size w w8) := ⟨hb⟩
     clear BKc BKp BKg HT HR HB
     have BKc := n0_
     have BKp := n1_
     have BKg := n2_
     have HT := n3_
     have HR := n4_
     have HB := n5_
     clear n0_ n1_ n2_ n3_ n4_ n5_
     clear ho hb hg hat nP_ nC_ nT_ nB_ er_
     obtain ⟨AG2, cG2, eG2⟩ := Kd.R_slice HR.out
     rw [show ((List.range (i + 1)).map fun j => globAt cK j cK).length = i + 1 by simp] at eG2
     subst eG2
     refine hK.out _ _ ⟨(blk_cell BKp.out 4).trans rfl, BKg.out⟩ (fun hHeld => ?_)
     clear hK Kq
     refine norm_ (a' := ?_) ?_ ?_; rotate_left; show Act.put _ (some 51) _ = _; simp only [Cap.pz]; rfl
     refine pure_ (i := 8) (N := some 52) (v := ?_) (a' := ?_) #[true, true, true, true, true, true, true, true, true, false, false] rfl rfl (by kernel_rfl) (fun _ _ _ h => h) (Or.inl ⟨by rfl, ?_⟩) ?_ ?_; rotate_left; intro w'; go_simp; with_reducible rfl; rotate_left; simp only [Cap.pz]; rfl
     refine pure_ (i := 9) (N := some 53) (v := ?_) (a' := ?_) #[true, true, true, true, true, true, true, true, true, true, false] rfl rfl (by kernel_rfl) (fun _ _ _ h => h) (Or.inl ⟨by rfl, ?_⟩) ?_ ?_; rotate_left; intro w'; go_simp; with_reducible rfl; rotate_left; simp only [Cap.pz]; rfl
     refine last_ (i := 10) (N := none) #[true, true, true, true, true, true, true, true, true, true, true] rfl rfl (by kernel_rfl) (by decide) (fun Kq hK => ?_)
     have hcs : w8.cell? ⟨gp, 4, none⟩ = some vG := (blk_cell BKp.out 4).trans rfl
     have hfs := blk_frozen BKp.out 4
     refine skip_ (w1 := ?_) (by rfl) rfl ?_ ?_
     rotate_left
     ·go_simp
      rfl
     refine hK.out _ _ ?_
     clear hK Kq
     refine done_ (by kernel_rfl) ?_
     go_wp2
     refine ⟨⟨i + 1, _, by omega, by go_num, ⟨blk_far BKc.out NEc.out _⟩, ⟨blk_put BKp.out 4 _ rfl⟩, ⟨Kd.R_step HR.out (fun k ho _ => Below.heap_setCell _ _ _ k ho.1)⟩, ⟨HT.out.block (Below.heap_setCell _ _ _ gT NET.out)⟩, ⟨below_set HB.out GEp.out⟩⟩, ?_⟩
     simp [intOf]; omega
  ·have c0 : decide ((i : Int) < (cM : Int)) = false := decide_eq_false (by omega)
   have ei : i = cM := by omega
   have hcz0 : wr.cell? ⟨gc, 2, none⟩ = some (.int .i64 (cG : Int)) := (blk_cell BKc.out 2).trans rfl
   go_wp2
   have nG_ : Aside0 ((Kd.raw 33).R 147 wr w.heap.size (fun k => k ≠ gp ∧ k ≠ gc ∧ k ≠ gT) vG ((List.range cM).map fun j => globAt cK j cK)) := ⟨by have h := HR.out; rwa [ei] at h⟩
   clear HR
   have HR := nG_
   clear nG_ ei hcz0
   go_loopw [57] (fun v57 wq => ∃ (i : Nat) (vL : Value), i ≤ cG ∧ v57 = .int .i64 (i : Int) ∧ Aside0 (wq.heap[gc]? = some (.cells #[.int .i64 (cK : Int), .int .i64 (cM : Int), .int .i64 (cG : Int)] 26 (0, 0))) ∧ Aside0 (wq.heap[gp]? = some (.cells #[.pointer (some ⟨gT, 0, none⟩), .int .i64 (cK : Int), .int .i64 (cM : Int), .int .i64 (cG : Int), vG, vL] 142 (0, 0))) ∧ Aside0 ((Kd.raw 33).R 147 wq w.heap.size (fun k => k ≠ gp ∧ k ≠ gc ∧ k ≠ gT) vG ((List.range cM).map fun j => globAt cK j cK)) ∧ Aside0 ((Kd.raw 2).R 149 wq w.heap.size (fun k => k ≠ gp ∧ k ≠ gc ∧ k ≠ gT) vL ((List.range i).map fun j => locAt cK cM j)) ∧ Aside0 (TabInv wq gT 255) ∧ Aside0 (Below w.heap.size w wq)) (fun v57 _ => cG - (intOf v57).toNat)
   case atStart => exact ⟨0, _, Nat.zero_le _, rfl, BKc, BKp, HR, ⟨Kd.R_nil _ _ _ _ _⟩, HT, HB⟩
   case round =>
    clear BKc BKp HT HB HR
    obtain ⟨l, vL, hl, rfl, BKc, BKp, HR, HL, HT, HB⟩ := hrel
    by_cases hll : l < cG
    ·have c2 : decide ((l : Int) < (cG : Int)) = true := decide_eq_true (by omega)
     go_wp2
     have n0_ : Aside0 (wr.drew.heap[gc]? = some (.cells #[.int .i64 (cK : Int), .int .i64 (cM : Int), .int .i64 (cG : Int)] 26 (0, 0))) := ⟨blk_drew BKc.out⟩
     have n1_ : Aside0 (wr.drew.heap[gp]? = some (.cells #[.pointer (some ⟨gT, 0, none⟩), .int .i64 (cK : Int), .int .i64 (cM : Int), .int .i64 (cG : Int), vG, vL] 142 (0, 0))) := ⟨blk_drew BKp.out⟩
     have n2_ : Aside0 (TabInv wr.drew gT 255) := ⟨HT.out.block rfl⟩
     have n3_ : Aside0 (((Kd.raw 33).R 147 wr.drew w.heap.size (fun k => k ≠ gp ∧ k ≠ gc ∧ k ≠ gT) vG ((List.range cM).map fun j => globAt cK j cK))) := ⟨Kd.R_drew HR.out⟩
     have n4_ : Aside0 (((Kd.raw 2).R 149 wr.drew w.heap.size (fun k => k ≠ gp ∧ k ≠ gc ∧ k ≠ gT) vL ((List.range l).map fun j => locAt cK cM j))) := ⟨Kd.R_drew HL.out⟩
     have n5_ : Aside0 (Below w.heap.size w wr.drew) := ⟨below_drew1 HB.out⟩
     clear BKc BKp HT HR HL HB
     have BKc := n0_
     have BKp := n1_
     have HT := n2_
     have HR := n3_
     have HL := n4_
     have HB := n5_
     clear n0_ n1_ n2_ n3_ n4_ n5_
     refine start_ (n := 20) (S := fun w' => w'.cell? ⟨gp, 5, none⟩ = some vL ∧ w'.cell? ⟨gc, 0, none⟩ = some (.int .i64 (cK : Int)) ∧ w'.cell? ⟨gc, 1, none⟩ = some (.int .i64 (cM : Int))) (ds := [19]) #[false, false, false, false, false, false, false, false, false, false, false, false, false, false, false, false, false, false, false, false] (by kernel_rfl) rfl rfl ⟨(blk_cell BKp.out 5).trans rfl, (blk_cell BKc.out 0).trans rfl, (blk_cell BKc.out 1).trans rfl⟩ (fun hHeld => ?_)
     generalize wr.drew = w7 at BKc BKp HT HR HL HB hHeld ⊢
     refine pure_ (i := 0) (N := some 60) (v := ?_) (a' := ?_) #[true, false, false, false, false, false, false, false, false, false, false, false, false, false, false, false, false, false, false, false] rfl rfl (by kernel_rfl) (fun _ _ _ h => h) (Or.inl ⟨by rfl, ?_⟩) ?_ ?_; rotate_left; intro w'; go_simp; with_reducible rfl; rotate_left; simp only [Cap.pz]; rfl
     refine pure_ (i := 1) (N := some 61) (v := ?_) (a' := ?_) #[true, true, false, false, false, false, false, false, false, false, false, false, false, false, false, false, false, false, false, false] rfl rfl (by kernel_rfl) (fun _ _ _ h => h) (Or.inl ⟨by rfl, ?_⟩) ?_ ?_; rotate_left; intro w'; go_simp; with_reducible rfl; rotate_left; simp only [Cap.pz]; rfl
     refine pure_ (i := 2) (N := some 62) (v := ?_) (a' := ?_) #[true, true, true, false, false, false, false, false, false, false, false, false, false, false, false, false, false, false, false, false] rfl rfl (by kernel_rfl) (fun _ _ _ h => h) (Or.inl ⟨by rfl, ?_⟩) ?_ ?_; rotate_left; intro w'; go_simp; with_reducible rfl; rotate_left; simp only [Cap.pz]; rfl
     refine pure_ (i := 3) (N := some 63) (v := ?_) (a' := ?_) #[true, true, true, true, false, false, false, false, false, false, false, false, false, false, false, false, false, false, false, false] rfl rfl (by kernel_rfl) (fun _ _ _ h => h) (Or.inl ⟨by rfl, ?_⟩) ?_ ?_; rotate_left; intro w'; go_simp; with_reducible rfl; rotate_left; simp only [Cap.pz]; rfl
     refine take_ (i := 4) (N := some 64) (v := ?_) (a' := ?_) #[true, true, true, true, true, false, false, false, false, false, false, false, false, false, false, false, false, false, false, false] rfl rfl (by kernel_rfl) (fun _ _ _ h => h) (Or.inl ⟨by rfl, ?_⟩) hHeld ?_ ?_; rotate_left; rintro w' ⟨s0, s1, s2⟩; go_simp; with_reducible rfl; rotate_left; simp only [Cap.pz]; rfl
     refine pure_ (i := 5) (N := some 65) (v := ?_) (a' := ?_) #[true, true, true, true, true, true, false, false, false, false, false, false, false, false, false, false, false, false, false, false] rfl rfl (by kernel_rfl) (fun _ _ _ h => h) (Or.inl ⟨by rfl, ?_⟩) ?_ ?_; rotate_left; intro w'; go_simp; with_reducible rfl; rotate_left; simp only [Cap.pz]; rfl
     refine take_ (i := 6) (N := some 66) (v := ?_) (a' := ?_) #[true, true, true, true, true, true, true, false, false, false, false, false, false, false, false, false, false, false, false, false] rfl rfl (by kernel_rfl) (fun _ _ _ h => h) (Or.inl ⟨by rfl, ?_⟩) hHeld ?_ ?_; rotate_left; rintro w' ⟨s0, s1, s2⟩; go_simp; with_reducible rfl; rotate_left; simp only [Cap.pz]; rfl
     refine pure_ (i := 7) (N := some 67) (v := ?_) (a' := ?_) #[true, true, true, true, true, true, true, true, false, false, false, false, false, false, false, false, false, false, false, false] rfl rfl (by kernel_rfl) (fun _ _ _ h => h) (Or.inl ⟨by rfl, ?_⟩) ?_ ?_; rotate_left; intro w'; go_simp; with_reducible rfl; rotate_left; simp only [Cap.pz]; rfl
     refine take_ (i := 8) (N := some 68) (v := ?_) (a' := ?_) #[true, true, true, true, true, true, true, true, true, false, false, false, false, false, false, false, false, false, false, false] rfl rfl (by kernel_rfl) (fun _ _ _ h => h) (Or.inl ⟨by rfl, ?_⟩) hHeld ?_ ?_; rotate_left; rintro w' ⟨s0, s1, s2⟩; go_simp; with_reducible rfl; rotate_left; simp only [Cap.pz]; rfl
     refine pure_ (i := 9) (N := some 69) (v := ?_) (a' := ?_) #[true, true, true, true, true, true, true, true, true, true, false, false, false, false, false, false, false, false, false, false] rfl rfl (by kernel_rfl) (fun _ _ _ h => h) (Or.inl ⟨by rfl, ?_⟩) ?_ ?_; rotate_left; intro w'; go_simp; with_reducible rfl; rotate_left; simp only [Cap.pz]; rfl
     refine pure_ (i := 10) (N := some 70) (v := ?_) (a' := ?_) #[true, true, true, true, true, true, true, true, true, true, true, false, false, false, false, false, false, false, false, false] rfl rfl (by kernel_rfl) (fun _ _ _ h => h) (Or.inl ⟨by rfl, ?_⟩) ?_ ?_; rotate_left; intro w'; go_simp; with_reducible rfl; rotate_left; simp only [Cap.pz]; rfl
     refine pure_ (i := 11) (N := some 71) (v := ?_) (a' := ?_) #[true, true, true, true, true, true, true, true, true, true, true, true, false, false, false, false, false, false, false, false] rfl rfl (by kernel_rfl) (fun _ _ _ h => h) (Or.inl ⟨by rfl, ?_⟩) ?_ ?_; rotate_left; intro w'; go_simp; with_reducible rfl; rotate_left; simp only [Cap.pz]; rfl
     refine pure_ (i := 12) (N := some 72) (v := ?_) (a' := ?_) #[true, true, true, true, true, true, true, true, true, true, true, true, true, false, false, false, false, false, false, false] rfl rfl (by kernel_rfl) (fun _ _ _ h => h) (Or.inl ⟨by rfl, ?_⟩) ?_ ?_; rotate_left; intro w'; go_simp; with_reducible rfl; rotate_left; simp only [Cap.pz]; rfl
     refine pure_ (i := 13) (N := some 73) (v := ?_) (a' := ?_) #[true, true, true, true, true, true, true, true, true, true, true, true, true, true, false, false, false, false, false, false] rfl rfl (by kernel_rfl) (fun _ _ _ h => h) (Or.inl ⟨by rfl, ?_⟩) ?_ ?_; rotate_left; intro w'; go_simp; with_reducible rfl; rotate_left; simp only [Cap.pz]; rfl
     refine pure_ (i := 14) (N := some 74) (v := ?_) (a' := ?_) #[true, true, true, true, true, true, true, true, true, true, true, true, true, true, true, false, false, false, false, false] rfl rfl (by kernel_rfl) (fun _ _ _ h => h) (Or.inl ⟨by rfl, ?_⟩) ?_ ?_; rotate_left; intro w'; go_simp; with_reducible rfl; rotate_left; simp only [Cap.pz]; rfl
     refine one_ (i := 15) (N := some 75) #[true, true, true, true, true, true, true, true, true, true, true, true, true, true, true, true, false, false, false, false] rfl rfl (by kernel_rfl) (by decide) (fun Kq hK => ?_)
     refine value_ (w1 := ?_) (v := ?_) (by rfl) rfl ?_ ?_
     rotate_left 2
     ·go_simp
      constructor
      ·rfl
      ·rfl
     refine hK.out _ _ ⟨(blk_cell (blk_alloc BKp.out _) 5).trans rfl, (blk_cell (blk_alloc BKc.out _) 0).trans rfl, (blk_cell (blk_alloc BKc.out _) 1).trans rfl⟩ (fun hHeld => ?_)
     clear hK Kq
     refine norm_ (a' := ?_) ?_ ?_; rotate_left; show Act.put _ (some 75) _ = _; simp only [Cap.pz]; rfl
     refine one_ (i := 16) (N := some 76) #[true, true, true, true, true, true, true, true, true, true, true, true, true, true, true, true, true, false, false, false] rfl rfl (by kernel_rfl) (by decide) (fun Kq hK => ?_)
     refine Kd.R_append_step (Kd.raw 2) (w0 := w) w.heap.size (by rfl) (.tmp 64) (.tmp 75) 140 149 (.agg #[.int .i64 0, .int .i64 0]) 16 rfl Try.underlying140 (by kernel_rfl) rfl (by decide) (by omega) vL ((List.range l).map fun j => locAt cK cM j) [.int .i64 (wrap64 (wrap64 ((cK : Int) + (cM : Int)) + (l : Int))), .int .i64 (l : Int)] [.int .i64 (wrap64 (wrap64 ((cK : Int) + (cM : Int)) + (l : Int))), .int .i64 (l : Int)] (fun k => k ≠ gp ∧ k ≠ gc ∧ k ≠ gT) (fun _ => False) rfl rfl ?aP (fun _ hk => hk.elim) ?aF ?aO ?aB ?aS ?aL ?_
     (case aP => exact ⟨rfl, rfl, by simp [Value.oneCell']⟩)
     (case aB => exact HB.out)
     (case aF => exact (fun k hk => by have h1 := blk_lt BKp.out; have h2 := blk_lt BKc.out; have h3 := HT.out.lt; omega))
     (case aO => exact HL.out)
     (case aS => exact below_size HB.out)
     (case aL => simp; omega)
     intro vL2 w8 ho hb hg hat
     have nP_ : some gp ≠ vL.ownBlock := fun e => (HL.out.1 gp e.symm).1 rfl
     have nC_ : some gc ≠ vL.ownBlock := fun e => (HL.out.1 gc e.symm).2.1 rfl
     have nT_ : some gT ≠ vL.ownBlock := fun e => (HL.out.1 gT e.symm).2.2 rfl
     have er_ : ((List.range l).map fun j => locAt cK cM j) ++ [[.int .i64 (wrap64 (wrap64 ((cK : Int) + (cM : Int)) + (l : Int))), .int .i64 (l : Int)]] = (List.range (l + 1)).map fun j => locAt cK cM j := by rw [List.range_succ, List.map_append]; congr 1; show _ = [locAt cK cM l]; unfold locAt; rw [show wrap64 (wrap64 ((cK : Int) + (cM : Int)) + (l : Int)) = ((cK + cM + l : Nat) : Int) by unfold wrap64; omega]
     rw [er_] at ho
     have n0_ : Aside0 (w8.heap[gc]? = some (.cells #[.int .i64 (cK : Int), .int .i64 (cM : Int), .int .i64 (cG : Int)] 26 (0, 0))) := ⟨blk_grown BKc.out hg nC_⟩
     have n1_ : Aside0 (w8.heap[gp]? = some (.cells #[.pointer (some ⟨gT, 0, none⟩), .int .i64 (cK : Int), .int .i64 (cM : Int), .int .i64 (cG : Int), vG, vL] 142 (0, 0))) := ⟨blk_grown BKp.out hg nP_⟩
     have n2_ : Aside0 (TabInv w8 gT 255) := ⟨HT.out.block (hg.block gT HT.out.lt nT_)⟩
     have n3_ : Aside0 (((Kd.raw 33).R 147 w8 w.heap.size (fun k => k ≠ gp ∧ k ≠ gc ∧ k ≠ gT) vG ((List.range cM).map fun j => globAt cK j cK))) := ⟨Kd.R_mono (Kd.R_step (Kd.R_bound HR.out) (fun k hk hk2 => hg.block k hk2 (by obtain ⟨q, hq, cells, hc⟩ := hk.2.2.2; obtain rfl : q = 147 := (by simpa [Kd.raw] using hq); exact Kd.R_ne HL.out hc (by decide)))) (fun k hk => hk.1)⟩
     have n4_ : Aside0 (((Kd.raw 2).R 149 w8 w.heap.size (fun k => k ≠ gp ∧ k ≠ gc ∧ k ≠ gT) vL2 ((List.range (l + 1)).map fun j => locAt cK cM j))) := ⟨ho⟩
     have n5_ : Aside0 (Below w.heap.size w w8) := ⟨hb⟩
     clear BKc BKp HT HR HL HB
     have BKc := n0_
     have BKp := n1_
     have HT := n2_
     have HR := n3_
     have HL := n4_
     have HB := n5_
     clear n0_ n1_ n2_ n3_ n4_ n5_
     clear ho hb hg hat nP_ nC_ nT_ er_
     obtain ⟨AL2, cL2, eL2⟩ := Kd.R_slice HL.out
     rw [show ((List.range (l + 1)).map fun j => locAt cK cM j).length = l + 1 by simp] at eL2
     subst eL2
     refine hK.out _ _ ⟨(blk_cell BKp.out 5).trans rfl, (blk_cell BKc.out 0).trans rfl, (blk_cell BKc.out 1).trans rfl⟩ (fun hHeld => ?_)
     clear hK Kq
     refine norm_ (a' := ?_) ?_ ?_; rotate_left; show Act.put _ (some 76) _ = _; simp only [Cap.pz]; rfl
     refine pure_ (i := 17) (N := some 77) (v := ?_) (a' := ?_) #[true, true, true, true, true, true, true, true, true, true, true, true, true, true, true, true, true, true, false, false] rfl rfl (by kernel_rfl) (fun _ _ _ h => h) (Or.inl ⟨by rfl, ?_⟩) ?_ ?_; rotate_left; intro w'; go_simp; with_reducible rfl; rotate_left; simp only [Cap.pz]; rfl
     refine pure_ (i := 18) (N := some 78) (v := ?_) (a' := ?_) #[true, true, true, true, true, true, true, true, true, true, true, true, true, true, true, true, true, true, true, false] rfl rfl (by kernel_rfl) (fun _ _ _ h => h) (Or.inl ⟨by rfl, ?_⟩) ?_ ?_; rotate_left; intro w'; go_simp; with_reducible rfl; rotate_left; simp only [Cap.pz]; rfl
     refine last_ (i := 19) (N := none) #[true, true, true, true, true, true, true, true, true, true, true, true, true, true, true, true, true, true, true, true] rfl rfl (by kernel_rfl) (by decide) (fun Kq hK => ?_)
     have hcs : w8.cell? ⟨gp, 5, none⟩ = some vL := (blk_cell BKp.out 5).trans rfl
     have hfs := blk_frozen BKp.out 5
     refine skip_ (w1 := ?_) (by rfl) rfl ?_ ?_
     rotate_left
     ·go_simp
      rfl
     refine hK.out _ _ ?_
     clear hK Kq
     refine done_ (by kernel_rfl) ?_
     go_wp2
     refine ⟨⟨l + 1, _, by omega, by go_num, ⟨blk_far BKc.out NEc.out _⟩, ⟨blk_put BKp.out 5 _ rfl⟩, ⟨Kd.R_step HR.out (fun k ho _ => Below.heap_setCell _ _ _ k ho.1)⟩, ⟨Kd.R_step HL.out (fun k ho _ => Below.heap_setCell _ _ _ k ho.1)⟩, ⟨HT.out.block (Below.heap_setCell _ _ _ gT NET.out)⟩, ⟨below_set HB.out GEp.out⟩⟩, ?_⟩
     simp [intOf]; omega
    ·have c2 : decide ((l : Int) < (cG : Int)) = false := decide_eq_false (by omega)
     have el : l = cG := by omega
     have nG_ : Aside0 ((Kd.raw 2).R 149 wr w.heap.size (fun k => k ≠ gp ∧ k ≠ gc ∧ k ≠ gT) vL ((List.range cG).map fun j => locAt cK cM j)) := ⟨by have h := HL.out; rwa [el] at h⟩
     clear HL
     have HL := nG_
     clear nG_ el
     go_wp2
     go_ret
     refine ⟨gp, rfl, GEp.out, ⟨⟨gT, (blk_cell BKp.out 0).trans rfl, HT.out⟩, (blk_cell BKp.out 1).trans rfl, (blk_cell BKp.out 2).trans rfl, (blk_cell BKp.out 3).trans rfl, ?_, ?_⟩, HB.out⟩
     ·obtain ⟨A, c, e, hc⟩ := Kd.R_reads HR.out
      rw [show ((List.range cM).map fun j => globAt cK j cK).length = cM by simp] at e hc
      exact ⟨A, c, (blk_cell BKp.out 4).trans (congrArg some e), hc.2, fun ad ha => Kd.R_head (by have h := HR.out; rw [e, ha] at h; exact h)⟩
     ·obtain ⟨A, c, e, hc⟩ := Kd.R_reads HL.out
      rw [show ((List.range cG).map fun j => locAt cK cM j).length = cG by simp] at e hc
      exact ⟨A, c, (blk_cell BKp.out 5).trans (congrArg some e), hc.2, fun ad ha => Kd.R_head (by have h := HL.out; rw [e, ha] at h; exact h)⟩
theorem impl_newPlant.calls (K M G : Int) (r : Int) (w : World) (h : impl_newPlant.f K M G = some r) :
  Calls Try.prog 66 #[.agg #[.int .i64 K, .int .i64 M, .int .i64 G]] w fun e w' => ∃ g, e = .returned (.pointer (some ⟨g, 0, none⟩)) ∧ w.heap.size ≤ g ∧ PlantAt w' g r ∧ Below w.heap.size w w' := by
 unfold impl_newPlant.f at h
 by_cases hc : 1 ≤ K ∧ K ≤ 32 ∧ 0 ≤ M ∧ M ≤ 16 ∧ 0 ≤ G ∧ G ≤ 32
 ·rw [if_pos hc] at h
  obtain rfl := Option.some.inj h
  obtain ⟨h1, h2, h3, h4, h5, h6⟩ := hc
  obtain ⟨K, rfl⟩ := Int.eq_ofNat_of_zero_le (show 0 ≤ K by omega)
  obtain ⟨M, rfl⟩ := Int.eq_ofNat_of_zero_le h3
  obtain ⟨G, rfl⟩ := Int.eq_ofNat_of_zero_le h5
  obtain ⟨e1, e2, e3⟩ := plantNo_of K M G (by omega) (by omega) (by omega)
  refine (impl_newPlant.callsN K M G (by omega) (by omega) (by omega) w).mono ?_
  rintro e w' ⟨g, he, hg, hp, hb⟩
  exact ⟨g, he, hg, ⟨by omega, by omega, by omega, by omega, by rw [e1, e2, e3]; exact hp⟩, hb⟩
 ·rw [if_neg hc] at h
  exact absurd h (by simp)

/-! ### impl_plant_row: function 67 -/
/-- By which factors a shard is made. -/
def rowC (K M G i j : Nat) : Int := if i < K then (if j = i then 1 else 0) else if i < K + M then ((tabInv (xr i j) : Nat) : Int) else if j % G = i - K - M then 1 else 0
def rowL (K M G i : Nat) : List Int := (List.range K).map (rowC K M G i)
theorem rowL_len (K M G i : Nat) : (rowL K M G i).length = K := by unfold rowL; simp
theorem rowL_get (K M G i j : Nat) (h : j < K) : (rowL K M G i)[j]? = some (rowC K M G i j) := by unfold rowL; rw [List.getElem?_map, List.getElem?_range h]; rfl
theorem row_ext {K : Nat} {l l' : List Int} (h : l.length = K) (h' : l'.length = K) (e : ∀ j, j < K → l[j]? = l'[j]?) : l = l' := by
 apply List.ext_getElem?
 intro t
 by_cases ht : t < K
 ·exact e t ht
 ·rw [List.getElem?_eq_none (by omega), List.getElem?_eq_none (by omega)]
theorem row_one (K M G i : Nat) (h : i < K) : (List.replicate K (0 : Int)).set i 1 = rowL K M G i := by
 refine row_ext (K := K) (by simp) (rowL_len _ _ _ _) (fun t ht => ?_)
 rw [rowL_get _ _ _ _ _ ht, List.getElem?_set, List.length_replicate]
 unfold rowC
 simp only [if_pos h]
 by_cases e : i = t
 ·subst e
  rw [if_pos rfl, if_pos rfl]
 ·rw [if_neg e, List.getElem?_replicate, if_pos ht, if_neg (fun x => e x.symm)]
/-- The ones of a group, up to a place. -/
def rowG (K G l n : Nat) : List Int := (List.range K).map fun j => if j < n ∧ j % G = l then 1 else 0
theorem rowG_len (K G l n : Nat) : (rowG K G l n).length = K := by unfold rowG; simp
theorem rowG_get (K G l n j : Nat) (h : j < K) : (rowG K G l n)[j]? = some (if j < n ∧ j % G = l then 1 else 0) := by unfold rowG; rw [List.getElem?_map, List.getElem?_range h]; rfl
theorem rowG_zero (K G l : Nat) : List.replicate K (0 : Int) = rowG K G l l := by
 refine row_ext (K := K) (by simp) (rowG_len _ _ _ _) (fun t ht => ?_)
 rw [rowG_get _ _ _ _ _ ht, List.getElem?_replicate, if_pos ht, if_neg]
 rintro ⟨h1, h2⟩
 have := Nat.mod_le t G
 omega
theorem rowG_set (K G l n : Nat) (hl : l < G) (hn : n % G = l) (hK : n < K) : (rowG K G l n).set n 1 = rowG K G l (n + G) := by
 refine row_ext (K := K) (by simp [rowG_len]) (rowG_len _ _ _ _) (fun t ht => ?_)
 rw [rowG_get _ _ _ _ _ ht, List.getElem?_set, rowG_len, rowG_get _ _ _ _ _ ht]
 by_cases e : n = t
 ·subst e
  rw [if_pos rfl, if_pos hK, if_pos ⟨by omega, hn⟩]
 ·rw [if_neg e]
  by_cases h1 : t < n
  ·by_cases h2 : t % G = l
   ·rw [if_pos ⟨h1, h2⟩, if_pos ⟨by omega, h2⟩]
   ·rw [if_neg (fun h => h2 h.2), if_neg (fun h => h2 h.2)]
  ·rw [if_neg (fun h => h1 h.1), if_neg]
   rintro ⟨h2, h3⟩
   have e1 := Nat.div_add_mod t G
   have e2 := Nat.div_add_mod n G
   rw [h3] at e1
   rw [hn] at e2
   have h4 : G * (n / G) < G * (t / G) := by omega
   have h5 : n / G < t / G := Nat.lt_of_mul_lt_mul_left h4
   have h6 : G * (n / G + 1) ≤ G * (t / G) := Nat.mul_le_mul_left G h5
   rw [Nat.mul_add, Nat.mul_one] at h6
   omega
theorem rowG_last (K M G i n : Nat) (h1 : ¬ i < K) (h2 : ¬ i < K + M) (hn : K ≤ n) : rowG K G (i - K - M) n = rowL K M G i := by
 refine row_ext (K := K) (rowG_len _ _ _ _) (rowL_len _ _ _ _) (fun t ht => ?_)
 rw [rowG_get _ _ _ _ _ ht, rowL_get _ _ _ _ _ ht]
 unfold rowC
 rw [if_neg h1, if_neg h2]
 by_cases h3 : t % G = i - K - M
 ·rw [if_pos ⟨by omega, h3⟩, if_pos h3]
 ·rw [if_neg (fun h => h3 h.2), if_neg h3]
/-- The row behind a copy into it. -/
theorem row_after {w2 : World} {base gO K cO : Nat} {curL : List Value} {L : List Int} (hh : w2.heap[gO]? = some (.cells (splice curL 0 (L.map (Value.int .u8))).toArray 5 (0, 0))) (hL : L.length = K) (hc : curL.length = cO) (hK : K ≤ cO) (hm : cO ≤ maxLen) (hb : base ≤ gO) :
  (Kd.int .u8).R 5 w2 base (fun _ => True) (.slice (some ⟨gO, 0, none⟩) K cO) L := by
 subst hL
 refine Kd.R_of_own ⟨by simp [encs], .inr ⟨gO, cO, _, rfl, hb, hh, hK, hm, ?_, ?_⟩⟩ (fun _ _ => trivial)
 ·have := length_splice curL 0 (L.map (Value.int .u8)) (by simp; omega)
  simp only [List.size_toArray]
  omega
 ·simp only [splice, List.take_zero, List.nil_append, Nat.mul_one, Nat.zero_add]
  rw [List.take_append_of_le_length (by simp), List.take_of_length_le (by simp)]
  rfl
theorem own_cur {w1 : World} {K gO cO e base : Nat} {inn : List Value} (h : w1.ownsRow base e 1 (.slice (some ⟨gO, 0, none⟩) K cO) K inn) :
  ∃ cur : Array Value, w1.heap[gO]? = some (.cells cur.toList.toArray e (0, 0)) ∧ K ≤ cO ∧ cO ≤ maxLen ∧ cur.toList.length = cO := by
 rcases h.2 with ⟨h, _⟩ | ⟨g, cap, cur, he, hb, hh, h1, h2, h3, h4⟩
 ·simp at h
 ·simp only [Value.slice.injEq, Option.some.injEq, Addr.mk.injEq, and_true, true_and] at he
  obtain ⟨rfl, rfl⟩ := he
  exact ⟨cur, by simpa using hh, h1, h2, by simpa using h3⟩
theorem two_src {w w1 : World} {K M G i bA : Nat} (h1 : ¬ i < K) (h2 : i < K + M) (hb : Aside0 (Below w.heap.size w w1)) {cs : List Value} (hc : ∀ (j : Nat) (u : Value), cs[j]? = some u → w.cell? ((⟨bA, 0, none⟩ : Addr).add ((i - K) * (Kd.raw 33).sz + j)) = some u) (hr : (Kd.raw 33).K w (globAt K (i - K) K) cs) (hK : K ≤ 32 := by omega) :
  ∀ j v, ((rowL K M G i).map (Value.int .u8))[j]? = some v → w1.cell? ((⟨bA, (i - K) * 33 + 1, none⟩ : Addr).add j) = some v := by
 intro j v hv
 rw [List.getElem?_map] at hv
 by_cases hj : j < K
 ·rw [rowL_get _ _ _ _ _ hj] at hv
  obtain rfl := Option.some.inj hv
  obtain ⟨rfl, _, _⟩ := hr
  have h3 := hc (1 + j) (.int .u8 (rowC K M G i j)) (by
   unfold globAt rowAt
   rw [show 1 + j = j + 1 by omega, List.getElem?_cons_succ, List.getElem?_map, List.getElem?_range (by omega)]
   unfold rowC
   rw [if_neg h1, if_pos h2, show K + (i - K) = i by omega]
   show some (Value.int .u8 ((if j < K then tabInv (xr i j) else 0 : Nat) : Int)) = _
   rw [if_pos hj])
  rw [add_plain] at h3
  have h4 := pw_cell_below hb.out h3
  have e : (⟨bA, (i - K) * 33 + 1, none⟩ : Addr).add j = ⟨bA, (i - K) * (Kd.raw 33).sz + (1 + j), none⟩ := by
   have z : (Kd.raw 33).sz = 33 := rfl
   rw [z]
   unfold Addr.add
   split
   ·simp_all
   ·simp; omega
  rw [e]
  exact h4
 ·rw [List.getElem?_eq_none (by rw [rowL_len]; omega)] at hv
  simp at hv

set_option maxHeartbeats 8000000 in
set_option maxRecDepth 100000 in
theorem impl_plant_row.one (g K M G i : Nat) (hK1 : 1 ≤ K) (hK : K ≤ 32) (hM : M ≤ 16) (hG : G ≤ 32) (h1 : i < K) (w : World) (hp : PlantIn w g K M G) :
  Calls Try.prog 67 #[.pointer (some ⟨g, 0, none⟩), .int .i64 (i : Int)] w fun e w' => ∃ v, e = .returned v ∧ (Kd.int .u8).R 5 w' w.heap.size (fun _ => True) v (rowL K M G i) ∧ Below w.heap.size w w' := by
 have hk0 := hp.k
 have c1 : decide ((i : Int) < (K : Int)) = true := decide_eq_true (by omega)
 go_enter Try.func67, Try.ntmps67
 go_wp2_with ((with_reducible refine gate_dst (N := 14) rfl ?_); refine Kd.R_make (Kd.int .u8) _ 5 rfl (N := 14) rfl 78 _ _ rfl (K : Int) rfl rfl Try.underlying78 (.int .u8 0) 1 (by kernel_rfl) rfl (by decide) (by omega) 0 (ok := fun _ => True) (okp := fun _ => True) rfl (fun _ hk => hk) trivial (by omega) (by simp; omega) (Below.refl _ _) (Nat.le_refl _) ?_; intro v1 w1 ho hb hg_ hnew_; clear hg_ hnew_; rw [Int.toNat_natCast] at ho; obtain ⟨gO, cO, eO, hgO, hlO, cellsO, hcO⟩ := Kd.R_form ho (by simp; omega); rw [List.length_replicate] at eO; subst eO; have hp1 := hp.below hb; have hk1 := hp1.k; have hm1 := hp1.m; have hn1 := hp1.n; clear hcO; obtain ⟨hx0, hf0⟩ := Kd.R_celln 0 ho (i : Int) (by omega) (by omega); rw [Int.toNat_natCast] at hx0 hf0; have HO := Aside0.mk ho; have HB := Aside0.mk hb; have GO := Aside0.mk hgO; have NEo := Aside0.mk (show g ≠ gO from fun e_ => by have := hp.lt; omega); clear ho hb hgO)
 go_ret
 have h1_ := (Kd.R_putg HO.out (i : Int) 1).1
 rw [Int.toNat_natCast, row_one K M G i h1] at h1_
 exact ⟨_, rfl, h1_, below_set HB.out GO.out⟩
set_option maxHeartbeats 8000000 in
set_option maxRecDepth 100000 in
theorem impl_plant_row.two (g K M G i : Nat) (hK1 : 1 ≤ K) (hK : K ≤ 32) (hM : M ≤ 16) (hG : G ≤ 32) (h1 : ¬ i < K) (h2 : i < K + M) (w : World) (hp : PlantIn w g K M G) :
  Calls Try.prog 67 #[.pointer (some ⟨g, 0, none⟩), .int .i64 (i : Int)] w fun e w' => ∃ v, e = .returned v ∧ (Kd.int .u8).R 5 w' w.heap.size (fun _ => True) v (rowL K M G i) ∧ Below w.heap.size w w' := by
 have hk0 := hp.k
 have c1 : decide ((i : Int) < (K : Int)) = false := decide_eq_false (by omega)
 have c2 : decide ((i : Int) < (K : Int) + (M : Int)) = true := decide_eq_true (by omega)
 have b1 : (K : Int) ≤ 32 := by omega
 have b2 : (M : Int) ≤ 16 := by omega
 obtain ⟨A0, cA0, hA0, hC0⟩ := hp.gl
 obtain ⟨ad, rfl, hcell⟩ := hC0.1.2.2 (by omega)
 obtain ⟨bA, rfl⟩ := hC0.2 _ rfl
 obtain ⟨cs_, hcl_, hcr_, hcc_⟩ := hcell (i - K) (globAt K (i - K) K) (by unfold globs; rw [List.getElem?_map, List.getElem?_range (by omega)]; rfl)
 have hi0 : 0 ≤ (i : Int) - (K : Int) := by omega
 have hi1 : decide ((i : Int) - (K : Int) < (M : Int)) = true := decide_eq_true (by omega)
 have hi2 : ((i : Int) - (K : Int)).toNat = i - K := by omega
 have HCC := Aside0.mk hcc_
 clear hcell hcc_ hC0
 go_enter Try.func67, Try.ntmps67
 go_wp2_with (first | ((with_reducible refine gate_dst (N := 14) rfl ?_); refine Kd.R_make (Kd.int .u8) _ 5 rfl (N := 14) rfl 78 _ _ rfl (K : Int) rfl rfl Try.underlying78 (.int .u8 0) 1 (by kernel_rfl) rfl (by decide) (by omega) 0 (ok := fun _ => True) (okp := fun _ => True) rfl (fun _ hk => hk) trivial (by omega) (by simp; omega) (Below.refl _ _) (Nat.le_refl _) ?_; intro v1 w1 ho hb hg_ hnew_; clear hg_ hnew_; rw [Int.toNat_natCast] at ho; obtain ⟨gO, cO, eO, hgO, hlO, cellsO, hcO⟩ := Kd.R_form ho (by simp; omega); rw [List.length_replicate] at eO; subst eO; have hp1 := hp.below hb; have hk1 := hp1.k; have hm1 := hp1.m; have hn1 := hp1.n; clear hcO; have hA1 : w1.cell? ⟨g, 4, none⟩ = some (.slice (some ⟨bA, 0, none⟩) M cA0) := pw_cell_below hb hA0; have hb0_ := Aside0.mk hb; obtain ⟨inn_, hown_⟩ := Kd.R_own ho; rw [List.length_replicate] at hown_; obtain ⟨cur_, hh_, hcap_, hmx_, hsz_⟩ := own_cur hown_; clear hown_; have HO := Aside0.mk ho; have HB := Aside0.mk hb; have GO := Aside0.mk hgO; have NEo := Aside0.mk (show g ≠ gO from fun e_ => by have := hp.lt; omega); clear ho hb hgO) | ((with_reducible refine gate_dst (N := 78) rfl ?_); with_reducible refine wpList_copy_splice rfl (.tmp 67) (.tmp 77) 78 78 rfl 5 Try.underlying78 (by kernel_rfl) _ _ _ _ _ _ rfl rfl gO 0 cur_.toList 5 hh_ ((rowL K M G i).map (Value.int .u8)) (by rw [List.length_map, rowL_len]; show K = min 32 K; omega) (fun _ => ⟨rfl, _, rfl, two_src h1 h2 hb0_ HCC.out hcr_ hK⟩) (by rw [List.length_map, rowL_len]; omega) (by simp [Value.oneCell']) w.heap.size w HB.out GO.out ?_; intro w2 hg2 hb2; have H2 := Aside0.mk hg2.out; have B2 := Aside0.mk hb2; clear hg2 hb2))
 go_ret
 exact ⟨_, rfl, row_after H2.out (rowL_len _ _ _ _) (by simpa using hsz_) hcap_ hmx_ GO.out, B2.out⟩
/-- A whole struct written. -/
theorem row_put {W : World} {oi : Oper} {a : Act} (ty : TypeId) (x y : Operand) (ho : oi.op = .store ty x y) (g : Nat) (old cells : Array Value) (hx : a.eval x = .pointer (some ⟨g, 0, none⟩)) (hy : a.eval y = .agg cells)
  (hb : W.heap[g]? = some (.cells old ty (0, 0))) (hi : (Try.prog.info? ty).map (·.size) = some cells.size) (hs : old.size = cells.size) (h1 : cells.all (·.oneCell') = true) : (execOp a.eval oi).run Try.prog W = .ok .skip (W.setRow g cells) := by
 unfold execOp
 simp only [ho, hx, hy, Instr.storeAt, Instr.sureAddr, Sem.run_bind, Sem.run_pure, Result.andThen_ok, run_storeVar_row W g ty ty old cells hb hi hs h1]
set_option maxHeartbeats 8000000 in
set_option maxRecDepth 100000 in
theorem impl_plant_row.three (g K M G i : Nat) (hK1 : 1 ≤ K) (hK : K ≤ 32) (hM : M ≤ 16) (hG : G ≤ 32) (h1 : ¬ i < K) (h2 : ¬ i < K + M) (h3 : i < K + M + G) (w : World) (hp : PlantIn w g K M G) :
  Calls Try.prog 67 #[.pointer (some ⟨g, 0, none⟩), .int .i64 (i : Int)] w fun e w' => ∃ v, e = .returned v ∧ (Kd.int .u8).R 5 w' w.heap.size (fun _ => True) v (rowL K M G i) ∧ Below w.heap.size w w' := by
 have hk0 := hp.k
 have c1 : decide ((i : Int) < (K : Int)) = false := decide_eq_false (by omega)
 have c2 : decide ((i : Int) < (K : Int) + (M : Int)) = false := decide_eq_false (by omega)
 have b1 : (K : Int) ≤ 32 := by omega
 have b2 : (M : Int) ≤ 16 := by omega
 have b3 : (i : Int) ≤ 100 := by omega
 obtain ⟨A0, cA0, hA0, hC0⟩ := hp.lo
 obtain ⟨ad, rfl, hcell⟩ := hC0.1.2.2 (by omega)
 obtain ⟨bA, rfl⟩ := hC0.2 _ rfl
 obtain ⟨cs_, hcl_, ⟨rfl, _, _⟩, hcc_⟩ := hcell (i - K - M) (locAt K M (i - K - M)) (by unfold locs; rw [List.getElem?_map, List.getElem?_range (by omega)]; rfl)
 have hq0 := hcc_ 0 _ rfl
 have hq1 := hcc_ 1 _ rfl
 rw [add_plain] at hq0 hq1
 have hL : (i - K - M) < G := by omega
 have Q0 : Aside0 (w.cell? ⟨bA, (i - K - M) * 2, none⟩ = some (.int .i64 ((K + M + (i - K - M) : Nat) : Int))) := ⟨hq0⟩
 have Q1 : Aside0 (w.cell? ⟨bA, (i - K - M) * 2 + 1, none⟩ = some (.int .i64 (((i - K - M) : Nat) : Int))) := ⟨hq1⟩
 have HA0 := Aside0.mk hA0
 clear hcell hcc_ hC0 hq0 hq1 hcl_
 go_enter Try.func67, Try.ntmps67
 go_wp2_with ((with_reducible refine gate_dst (N := 14) rfl ?_); refine Kd.R_make (Kd.int .u8) _ 5 rfl (N := 14) rfl 78 _ _ rfl (K : Int) rfl rfl Try.underlying78 (.int .u8 0) 1 (by kernel_rfl) rfl (by decide) (by omega) 0 (ok := fun _ => True) (okp := fun _ => True) rfl (fun _ hk => hk) trivial (by omega) (by simp; omega) (Below.refl _ _) (Nat.le_refl _) ?_; intro v1 w1 ho hb hg_ hnew_; clear hg_ hnew_; rw [Int.toNat_natCast] at ho; obtain ⟨gO, cO, eO, hgO, hlO, cellsO, hcO⟩ := Kd.R_form ho (by simp; omega); rw [List.length_replicate] at eO; subst eO; have hp1 := hp.below hb; have hk1 := hp1.k; have hm1 := hp1.m; have hn1 := hp1.n; clear hcO; have hA1 : w1.cell? ⟨g, 5, none⟩ = some (.slice (some ⟨bA, 0, none⟩) G cA0) := pw_cell_below hb hA0; have HO := Aside0.mk ho; have HB := Aside0.mk hb; have GO := Aside0.mk hgO; have NEo := Aside0.mk (show g ≠ gO from fun e_ => by have := hp.lt; omega); clear ho hb hgO)
 clear hk0 hk1 hm1 hn1 hp1 hA1 hA0
 have n0_ := Aside0.mk (Kd.R_drew HO.out)
 have n1_ := Aside0.mk (below_drew1 HB.out)
 clear HO HB
 have HO := n0_
 have HB := n1_
 clear n0_ n1_
 have hw1 : IntKind.i64.wrap ((i : Int) - (K : Int)) = ((i - K : Nat) : Int) := by rw [IntKind.wrap_i64]; omega
 have hw2 : IntKind.i64.wrap (((i - K : Nat) : Int) - (M : Int)) = (((i - K - M) : Nat) : Int) := by rw [IntKind.wrap_i64]; omega
 have hL2 : (((i - K - M) : Nat) : Int) < (G : Int) := by omega
 refine start_ (n := 17) (S := fun w' => w'.cell? ⟨g, 5, none⟩ = some (.slice (some ⟨bA, 0, none⟩) G cA0) ∧ w'.cell? ⟨g, 2, none⟩ = some (.int .i64 (M : Int)) ∧ w'.cell? ⟨bA, (i - K - M) * 2, none⟩ = some (.int .i64 ((K + M + (i - K - M) : Nat) : Int)) ∧ w'.cell? ⟨bA, (i - K - M) * 2 + 1, none⟩ = some (.int .i64 (((i - K - M) : Nat) : Int))) (ds := [16]) #[false, false, false, false, false, false, false, false, false, false, false, false, false, false, false, false, false] (by kernel_rfl) rfl rfl ⟨pw_cell_below HB.out HA0.out, (hp.below HB.out).m, pw_cell_below HB.out Q0.out, pw_cell_below HB.out Q1.out⟩ (fun hHeld => ?_)
 generalize w1.drew = w7 at HO HB hHeld ⊢
 refine pure_ (i := 0) (N := some 20) (v := ?_) (a' := ?_) #[true, false, false, false, false, false, false, false, false, false, false, false, false, false, false, false, false] rfl rfl (by kernel_rfl) (fun _ _ _ h => h) (Or.inl ⟨by rfl, ?_⟩) ?_ ?_; rotate_left; intro w'; go_simp; with_reducible rfl; rotate_left; simp only [Cap.pz]; rfl
 refine pure_ (i := 1) (N := some 21) (v := ?_) (a' := ?_) #[true, true, false, false, false, false, false, false, false, false, false, false, false, false, false, false, false] rfl rfl (by kernel_rfl) (fun _ _ _ h => h) (Or.inl ⟨by rfl, ?_⟩) ?_ ?_; rotate_left; intro w'; go_simp; with_reducible rfl; rotate_left; simp only [Cap.pz]; rfl
 refine pure_ (i := 2) (N := some 22) (v := ?_) (a' := ?_) #[true, true, true, false, false, false, false, false, false, false, false, false, false, false, false, false, false] rfl rfl (by kernel_rfl) (fun _ _ _ h => h) (Or.inl ⟨by rfl, ?_⟩) ?_ ?_; rotate_left; intro w'; go_simp; with_reducible rfl; rotate_left; simp only [Cap.pz]; rfl
 refine take_ (i := 3) (N := some 23) (v := ?_) (a' := ?_) #[true, true, true, true, false, false, false, false, false, false, false, false, false, false, false, false, false] rfl rfl (by kernel_rfl) (fun _ _ _ h => h) (Or.inl ⟨by rfl, ?_⟩) hHeld ?_ ?_; rotate_left; rintro w' ⟨s0, s1, s2, s3⟩; go_simp; with_reducible rfl; rotate_left; simp only [Cap.pz]; rfl
 refine pure_ (i := 4) (N := some 24) (v := ?_) (a' := ?_) #[true, true, true, true, true, false, false, false, false, false, false, false, false, false, false, false, false] rfl rfl (by kernel_rfl) (fun _ _ _ h => h) (Or.inl ⟨by rfl, ?_⟩) ?_ ?_; rotate_left; intro w'; go_simp; with_reducible rfl; rotate_left; simp only [Cap.pz]; rfl
 refine pure_ (i := 5) (N := some 25) (v := ?_) (a' := ?_) #[true, true, true, true, true, true, false, false, false, false, false, false, false, false, false, false, false] rfl rfl (by kernel_rfl) (fun _ _ _ h => h) (Or.inl ⟨by rfl, ?_⟩) ?_ ?_; rotate_left; intro w'; go_simp; with_reducible rfl; rotate_left; simp only [Cap.pz]; rfl
 refine pure_ (i := 6) (N := some 26) (v := ?_) (a' := ?_) #[true, true, true, true, true, true, true, false, false, false, false, false, false, false, false, false, false] rfl rfl (by kernel_rfl) (fun _ _ _ h => h) (Or.inl ⟨by rfl, ?_⟩) ?_ ?_; rotate_left; intro w'; go_simp; with_reducible rfl; rotate_left; simp only [Cap.pz]; rfl
 refine pure_ (i := 7) (N := some 27) (v := ?_) (a' := ?_) #[true, true, true, true, true, true, true, true, false, false, false, false, false, false, false, false, false] rfl rfl (by kernel_rfl) (fun _ _ _ h => h) (Or.inl ⟨by rfl, ?_⟩) ?_ ?_; rotate_left; intro w'; go_simp; with_reducible rfl; rotate_left; simp only [Cap.pz]; rfl
 refine pure_ (i := 8) (N := some 28) (v := ?_) (a' := ?_) #[true, true, true, true, true, true, true, true, true, false, false, false, false, false, false, false, false] rfl rfl (by kernel_rfl) (fun _ _ _ h => h) (Or.inl ⟨by rfl, ?_⟩) ?_ ?_; rotate_left; intro w'; go_simp; with_reducible rfl; rotate_left; simp only [Cap.pz]; rfl
 refine pure_ (i := 9) (N := some 29) (v := ?_) (a' := ?_) #[true, true, true, true, true, true, true, true, true, true, false, false, false, false, false, false, false] rfl rfl (by kernel_rfl) (fun _ _ _ h => h) (Or.inl ⟨by rfl, ?_⟩) ?_ ?_; rotate_left; intro w'; go_simp; with_reducible rfl; rotate_left; simp only [Cap.pz]; rfl
 refine pure_ (i := 10) (N := some 30) (v := ?_) (a' := ?_) #[true, true, true, true, true, true, true, true, true, true, true, false, false, false, false, false, false] rfl rfl (by kernel_rfl) (fun _ _ _ h => h) (Or.inl ⟨by rfl, ?_⟩) ?_ ?_; rotate_left; intro w'; go_simp; with_reducible rfl; rotate_left; simp only [Cap.pz]; rfl
 refine take_ (i := 11) (N := some 31) (v := ?_) (a' := ?_) #[true, true, true, true, true, true, true, true, true, true, true, true, false, false, false, false, false] rfl rfl (by kernel_rfl) (fun _ _ _ h => h) (Or.inl ⟨by rfl, ?_⟩) hHeld ?_ ?_; rotate_left; rintro w' ⟨s0, s1, s2, s3⟩; go_simp; with_reducible rfl; rotate_left; simp only [Cap.pz]; rfl
 refine pure_ (i := 12) (N := some 32) (v := ?_) (a' := ?_) #[true, true, true, true, true, true, true, true, true, true, true, true, true, false, false, false, false] rfl rfl (by kernel_rfl) (fun _ _ _ h => h) (Or.inl ⟨by rfl, ?_⟩) ?_ ?_; rotate_left; intro w'; go_simp; with_reducible rfl; rotate_left; simp only [Cap.pz]; rfl
 refine pure_ (i := 13) (N := some 33) (v := ?_) (a' := ?_) #[true, true, true, true, true, true, true, true, true, true, true, true, true, true, false, false, false] rfl rfl (by kernel_rfl) (fun _ _ _ h => h) (Or.inl ⟨by rfl, ?_⟩) ?_ ?_; rotate_left; intro w'; go_simp; with_reducible rfl; rotate_left; simp only [Cap.pz]; rfl
 refine take_ (i := 14) (N := some 34) (v := ?_) (a' := ?_) #[true, true, true, true, true, true, true, true, true, true, true, true, true, true, true, false, false] rfl rfl (by kernel_rfl) (fun _ _ _ h => h) (Or.inl ⟨by rfl, ?_⟩) hHeld ?_ ?_; rotate_left; rintro w' ⟨s0, s1, s2, s3⟩; go_simp; with_reducible rfl; rotate_left; simp only [Cap.pz]; rfl
 refine one_ (i := 15) (N := some 7) #[true, true, true, true, true, true, true, true, true, true, true, true, true, true, true, true, false] rfl rfl (by kernel_rfl) (by decide) (fun Kq hK => ?_)
 refine value_ (w1 := ?_) (v := ?_) (by rfl) rfl ?_ ?_
 rotate_left 2
 ·go_simp
  constructor
  ·rfl
  ·rfl
 refine hK.out _ _ ⟨pw_cell_below (below_alloc HB.out _) HA0.out, (hp.below (below_alloc HB.out _)).m, pw_cell_below (below_alloc HB.out _) Q0.out, pw_cell_below (below_alloc HB.out _) Q1.out⟩ (fun hHeld => ?_)
 clear hK Kq
 refine norm_ (a' := ?_) ?_ ?_; rotate_left; show Act.put _ (some 7) _ = _; simp only [Cap.pz]; rfl
 refine last_ (i := 16) (N := none) #[true, true, true, true, true, true, true, true, true, true, true, true, true, true, true, true, true] rfl rfl (by kernel_rfl) (by decide) (fun Kq hK => ?_)
 have hB2_ := below_alloc HB.out (.cells #[.int .i64 0, .int .i64 0] 149 (0, 0))
 have hn_ := blk_new w7 (.cells #[.int .i64 0, .int .i64 0] 149 (0, 0))
 have hsz_ := below_size HB.out
 refine skip_ (w1 := (w7.alloc (.cells #[.int .i64 0, .int .i64 0] 149 (0, 0))).setRow w7.heap.size #[.int .i64 ((K + M + (i - K - M) : Nat) : Int), .int .i64 (((i - K - M) : Nat) : Int)]) (by rfl) rfl (row_put 149 (.tmp 7) (.tmp 34) rfl w7.heap.size _ _ rfl rfl hn_ (by kernel_rfl) rfl (by simp [Value.oneCell'])) ?_
 refine hK.out _ _ ?_
 clear hK Kq
 refine done_ (by kernel_rfl) ?_
 have hl_ : gO < w7.heap.size := by obtain ⟨_, _, e_, _, h_, _⟩ := Kd.R_form HO.out (by simp; omega); injection e_ with e_ _ _; injection e_ with e_; injection e_ with e_; omega
 have n0_ : Aside0 ((Kd.int .u8).R 5 ((w7.alloc (.cells #[.int .i64 0, .int .i64 0] 149 (0, 0))).setRow w7.heap.size #[.int .i64 ((K + M + (i - K - M) : Nat) : Int), .int .i64 (((i - K - M) : Nat) : Int)]) w.heap.size (fun k => k < w7.heap.size) (.slice (some ⟨gO, 0, none⟩) K cO) (rowG K G (i - K - M) (i - K - M))) := ⟨by rw [← rowG_zero]; exact Kd.R_mono (Kd.R_step (Kd.R_alloc (Kd.R_bound HO.out) _) (fun k hk _ => setRow_other _ _ _ _ (by have := hk.2.2.1; omega))) (fun k hk => hk.2.2.1)⟩
 have n1_ : Aside0 (Below w.heap.size w ((w7.alloc (.cells #[.int .i64 0, .int .i64 0] 149 (0, 0))).setRow w7.heap.size #[.int .i64 ((K + M + (i - K - M) : Nat) : Int), .int .i64 (((i - K - M) : Nat) : Int)])) := ⟨below_row hB2_ hsz_ _⟩
 have hg8_ : ((w7.alloc (.cells #[.int .i64 0, .int .i64 0] 149 (0, 0))).setRow w7.heap.size #[.int .i64 ((K + M + (i - K - M) : Nat) : Int), .int .i64 (((i - K - M) : Nat) : Int)]).heap[w7.heap.size]? = some (.cells #[.int .i64 ((K + M + (i - K - M) : Nat) : Int), .int .i64 (((i - K - M) : Nat) : Int)] 149 (0, 0)) := setRow_heap _ _ _ _ 149 (0, 0) hn_
 clear HO HB hHeld hB2_ hn_ hsz_
 generalize w7.heap.size = gl at n0_ n1_ hg8_ hl_ ⊢
 generalize (w7.alloc (.cells #[.int .i64 0, .int .i64 0] 149 (0, 0))).setRow gl #[.int .i64 ((K + M + (i - K - M) : Nat) : Int), .int .i64 (((i - K - M) : Nat) : Int)] = w8 at n0_ n1_ hg8_ ⊢
 have HO := n0_
 have HB := n1_
 clear n0_ n1_ hl_
 have hl1 : w8.cell? ⟨gl, 1, none⟩ = some (.int .i64 (((i - K - M) : Nat) : Int)) := (blk_cell hg8_ 1).trans rfl
 clear hg8_
 go_wp2
 clear hl1
 go_loopw [8] (fun v8 wr => ∃ d : Nat, d % G = (i - K - M) ∧ d < K + G + G ∧ v8 = .int .i64 (d : Int) ∧ Aside0 ((Kd.int .u8).R 5 wr w.heap.size (fun _ => True) (.slice (some ⟨gO, 0, none⟩) K cO) (rowG K G (i - K - M) d)) ∧ Aside0 (Below w.heap.size w wr)) (fun v8 _ => K + 1 - (intOf v8).toNat)
 case atStart => exact ⟨(i - K - M), Nat.mod_eq_of_lt hL, by omega, rfl, ⟨Kd.R_mono HO.out (fun _ _ => trivial)⟩, HB⟩
 case round =>
  clear HO HB
  obtain ⟨d, hd1, hd2, rfl, HO, HB⟩ := hrel
  by_cases hlt : d < K
  ·have c3 : decide ((d : Int) < (K : Int)) = true := decide_eq_true (by omega)
   have b4 : (G : Int) ≤ 32 := by omega
   have b5 : (d : Int) ≤ 32 := by omega
   obtain ⟨hx0, hf0⟩ := Kd.R_celln 0 HO.out (d : Int) (by omega) (by omega)
   rw [Int.toNat_natCast] at hx0 hf0
   have hk1 := (hp.below HB.out).k
   have hn1 := (hp.below HB.out).n
   have hn2 : (wr.setCell ⟨gO, d, none⟩ (.int .u8 1)).cell? ⟨g, 3, none⟩ = some (.int .i64 (G : Int)) := (World.cell?_setCell_far _ _ _ _ (by have := NEo.out; exact fun e => this e.symm)).trans hn1
   go_wp2
   go_roundw
   case rel => exact ⟨d + G, by rw [Nat.add_mod_right]; exact hd1, by omega, by go_num, ⟨by have h := (Kd.R_putg HO.out (d : Int) 1).1; rw [Int.toNat_natCast, rowG_set K G _ d hL hd1 hlt] at h; exact h⟩, ⟨below_set HB.out GO.out⟩⟩
   case measure => simp [intOf]; omega
  ·have c3 : decide ((d : Int) < (K : Int)) = false := decide_eq_false (by omega)
   go_wp2
   go_ret
   exact ⟨_, rfl, by rw [← rowG_last K M G i d h1 h2 (by omega)]; exact HO.out, HB.out⟩
theorem impl_plant_row.callsN (g K M G i : Nat) (hK1 : 1 ≤ K) (hK : K ≤ 32) (hM : M ≤ 16) (hG : G ≤ 32) (hi : i < K + M + G) (w : World) (hp : PlantIn w g K M G) :
  Calls Try.prog 67 #[.pointer (some ⟨g, 0, none⟩), .int .i64 (i : Int)] w fun e w' => ∃ v, e = .returned v ∧ (Kd.int .u8).R 5 w' w.heap.size (fun _ => True) v (rowL K M G i) ∧ Below w.heap.size w w' := by
 by_cases h1 : i < K
 ·exact impl_plant_row.one g K M G i hK1 hK hM hG h1 w hp
 ·by_cases h2 : i < K + M
  ·exact impl_plant_row.two g K M G i hK1 hK hM hG h1 h2 w hp
  ·exact impl_plant_row.three g K M G i hK1 hK hM hG h1 h2 (by omega) w hp
def impl_plant_row.f (p i : Int) : Option (List Int) := if 0 ≤ i ∧ i < pK p + pM p + pG p then some (rowL (pK p) (pM p) (pG p) i.toNat) else none
theorem impl_plant_row.calls {p : Int} (g : Nat) (i : Int) (r : List Int) (w : World) (h : impl_plant_row.f p i = some r) (hp : PlantAt w g p) :
  Calls Try.prog 67 #[.pointer (some ⟨g, 0, none⟩), .int .i64 i] w fun e w' => ∃ v, e = .returned v ∧ Kd.R (Kd.int .u8) 5 w' w.heap.size (fun _ => True) v r ∧ Below w.heap.size w w' := by
 unfold impl_plant_row.f at h
 by_cases hc : 0 ≤ i ∧ i < pK p + pM p + pG p
 ·rw [if_pos hc] at h
  obtain rfl := Option.some.inj h
  obtain ⟨i, rfl⟩ := Int.eq_ofNat_of_zero_le hc.1
  exact impl_plant_row.callsN g (pK p) (pM p) (pG p) i hp.k1 hp.k2 hp.m2 hp.g2 (by omega) w hp.at_
 ·rw [if_neg hc] at h
  exact absurd h (by simp)

/-! ### impl_plant_size: function 114 -/
def impl_plant_size.f (p : Int) : Option (Int) := some ((pK p + pM p + pG p : Nat) : Int)
set_option maxHeartbeats 8000000 in
set_option maxRecDepth 100000 in
theorem impl_plant_size.callsN (g K M G : Nat) (hK : K ≤ 32) (hM : M ≤ 16) (hG : G ≤ 32) (w : World) (hp : PlantIn w g K M G) :
  Calls Try.prog 114 #[.pointer (some ⟨g, 0, none⟩)] w fun e w' => e = .returned (.int .i64 ((K + M + G : Nat) : Int)) ∧ Drawn0 w w' := by
 have hw1 : IntKind.i64.wrap ((K : Int) + (M : Int)) = ((K + M : Nat) : Int) := by rw [IntKind.wrap_i64]; omega
 have hw2 : IntKind.i64.wrap (((K + M : Nat) : Int) + (G : Int)) = ((K + M + G : Nat) : Int) := by rw [IntKind.wrap_i64]; omega
 go_enter Try.func114, Try.ntmps114
 go_wp2
 refine start_ (n := 18) (S := fun w' => w'.cell? ⟨g, 1, none⟩ = some (.int .i64 (K : Int)) ∧ w'.cell? ⟨g, 2, none⟩ = some (.int .i64 (M : Int)) ∧ w'.cell? ⟨g, 3, none⟩ = some (.int .i64 (G : Int))) (ds := []) #[false, false, false, false, false, false, false, false, false, false, false, false, false, false, false, false, false, false] (by kernel_rfl) rfl rfl ⟨hp.k, hp.m, hp.n⟩ (fun hHeld => ?_)
 refine pure_ (i := 0) (N := some 3) (v := ?_) (a' := ?_) #[true, false, false, false, false, false, false, false, false, false, false, false, false, false, false, false, false, false] rfl rfl (by kernel_rfl) (fun _ _ _ h => h) (Or.inl ⟨by rfl, ?_⟩) ?_ ?_; rotate_left; intro w'; go_simp; with_reducible rfl; rotate_left; simp only [Cap.pz]; rfl
 refine pure_ (i := 1) (N := some 4) (v := ?_) (a' := ?_) #[true, true, false, false, false, false, false, false, false, false, false, false, false, false, false, false, false, false] rfl rfl (by kernel_rfl) (fun _ _ _ h => h) (Or.inl ⟨by rfl, ?_⟩) ?_ ?_; rotate_left; intro w'; go_simp; with_reducible rfl; rotate_left; simp only [Cap.pz]; rfl
 refine pure_ (i := 2) (N := some 5) (v := ?_) (a' := ?_) #[true, true, true, false, false, false, false, false, false, false, false, false, false, false, false, false, false, false] rfl rfl (by kernel_rfl) (fun _ _ _ h => h) (Or.inl ⟨by rfl, ?_⟩) ?_ ?_; rotate_left; intro w'; go_simp; with_reducible rfl; rotate_left; simp only [Cap.pz]; rfl
 refine pure_ (i := 3) (N := some 6) (v := ?_) (a' := ?_) #[true, true, true, true, false, false, false, false, false, false, false, false, false, false, false, false, false, false] rfl rfl (by kernel_rfl) (fun _ _ _ h => h) (Or.inl ⟨by rfl, ?_⟩) ?_ ?_; rotate_left; intro w'; go_simp; with_reducible rfl; rotate_left; simp only [Cap.pz]; rfl
 refine take_ (i := 4) (N := some 7) (v := ?_) (a' := ?_) #[true, true, true, true, true, false, false, false, false, false, false, false, false, false, false, false, false, false] rfl rfl (by kernel_rfl) (fun _ _ _ h => h) (Or.inl ⟨by rfl, ?_⟩) hHeld ?_ ?_; rotate_left; rintro w' ⟨s0, s1, s2⟩; go_simp; with_reducible rfl; rotate_left; simp only [Cap.pz]; rfl
 refine pure_ (i := 5) (N := some 8) (v := ?_) (a' := ?_) #[true, true, true, true, true, true, false, false, false, false, false, false, false, false, false, false, false, false] rfl rfl (by kernel_rfl) (fun _ _ _ h => h) (Or.inl ⟨by rfl, ?_⟩) ?_ ?_; rotate_left; intro w'; go_simp; with_reducible rfl; rotate_left; simp only [Cap.pz]; rfl
 refine pure_ (i := 6) (N := some 9) (v := ?_) (a' := ?_) #[true, true, true, true, true, true, true, false, false, false, false, false, false, false, false, false, false, false] rfl rfl (by kernel_rfl) (fun _ _ _ h => h) (Or.inl ⟨by rfl, ?_⟩) ?_ ?_; rotate_left; intro w'; go_simp; with_reducible rfl; rotate_left; simp only [Cap.pz]; rfl
 refine pure_ (i := 7) (N := some 10) (v := ?_) (a' := ?_) #[true, true, true, true, true, true, true, true, false, false, false, false, false, false, false, false, false, false] rfl rfl (by kernel_rfl) (fun _ _ _ h => h) (Or.inl ⟨by rfl, ?_⟩) ?_ ?_; rotate_left; intro w'; go_simp; with_reducible rfl; rotate_left; simp only [Cap.pz]; rfl
 refine pure_ (i := 8) (N := some 11) (v := ?_) (a' := ?_) #[true, true, true, true, true, true, true, true, true, false, false, false, false, false, false, false, false, false] rfl rfl (by kernel_rfl) (fun _ _ _ h => h) (Or.inl ⟨by rfl, ?_⟩) ?_ ?_; rotate_left; intro w'; go_simp; with_reducible rfl; rotate_left; simp only [Cap.pz]; rfl
 refine take_ (i := 9) (N := some 12) (v := ?_) (a' := ?_) #[true, true, true, true, true, true, true, true, true, true, false, false, false, false, false, false, false, false] rfl rfl (by kernel_rfl) (fun _ _ _ h => h) (Or.inl ⟨by rfl, ?_⟩) hHeld ?_ ?_; rotate_left; rintro w' ⟨s0, s1, s2⟩; go_simp; with_reducible rfl; rotate_left; simp only [Cap.pz]; rfl
 refine pure_ (i := 10) (N := some 13) (v := ?_) (a' := ?_) #[true, true, true, true, true, true, true, true, true, true, true, false, false, false, false, false, false, false] rfl rfl (by kernel_rfl) (fun _ _ _ h => h) (Or.inl ⟨by rfl, ?_⟩) ?_ ?_; rotate_left; intro w'; go_simp; with_reducible rfl; rotate_left; simp only [Cap.pz]; rfl
 refine pure_ (i := 11) (N := some 14) (v := ?_) (a' := ?_) #[true, true, true, true, true, true, true, true, true, true, true, true, false, false, false, false, false, false] rfl rfl (by kernel_rfl) (fun _ _ _ h => h) (Or.inl ⟨by rfl, ?_⟩) ?_ ?_; rotate_left; intro w'; go_simp; with_reducible rfl; rotate_left; simp only [Cap.pz]; rfl
 refine pure_ (i := 12) (N := some 15) (v := ?_) (a' := ?_) #[true, true, true, true, true, true, true, true, true, true, true, true, true, false, false, false, false, false] rfl rfl (by kernel_rfl) (fun _ _ _ h => h) (Or.inl ⟨by rfl, ?_⟩) ?_ ?_; rotate_left; intro w'; go_simp; with_reducible rfl; rotate_left; simp only [Cap.pz]; rfl
 refine pure_ (i := 13) (N := some 16) (v := ?_) (a' := ?_) #[true, true, true, true, true, true, true, true, true, true, true, true, true, true, false, false, false, false] rfl rfl (by kernel_rfl) (fun _ _ _ h => h) (Or.inl ⟨by rfl, ?_⟩) ?_ ?_; rotate_left; intro w'; go_simp; with_reducible rfl; rotate_left; simp only [Cap.pz]; rfl
 refine pure_ (i := 14) (N := some 17) (v := ?_) (a' := ?_) #[true, true, true, true, true, true, true, true, true, true, true, true, true, true, true, false, false, false] rfl rfl (by kernel_rfl) (fun _ _ _ h => h) (Or.inl ⟨by rfl, ?_⟩) ?_ ?_; rotate_left; intro w'; go_simp; with_reducible rfl; rotate_left; simp only [Cap.pz]; rfl
 refine take_ (i := 15) (N := some 18) (v := ?_) (a' := ?_) #[true, true, true, true, true, true, true, true, true, true, true, true, true, true, true, true, false, false] rfl rfl (by kernel_rfl) (fun _ _ _ h => h) (Or.inl ⟨by rfl, ?_⟩) hHeld ?_ ?_; rotate_left; rintro w' ⟨s0, s1, s2⟩; go_simp; with_reducible rfl; rotate_left; simp only [Cap.pz]; rfl
 refine pure_ (i := 16) (N := some 19) (v := ?_) (a' := ?_) #[true, true, true, true, true, true, true, true, true, true, true, true, true, true, true, true, true, false] rfl rfl (by kernel_rfl) (fun _ _ _ h => h) (Or.inl ⟨by rfl, ?_⟩) ?_ ?_; rotate_left; intro w'; go_simp; with_reducible rfl; rotate_left; simp only [Cap.pz]; rfl
 refine pure_ (i := 17) (N := some 2) (v := ?_) (a' := ?_) #[true, true, true, true, true, true, true, true, true, true, true, true, true, true, true, true, true, true] rfl rfl (by kernel_rfl) (fun _ _ _ h => h) (Or.inl ⟨by rfl, ?_⟩) ?_ ?_; rotate_left; intro w'; go_simp; with_reducible rfl; rotate_left; simp only [Cap.pz]; rfl
 refine done_ (by kernel_rfl) ?_
 go_wp2
 go_ret
 exact ⟨by show Ending.returned (Value.int .i64 (wrap64 ((K : Int) + (M : Int) + (G : Int)))) = _; rw [show wrap64 ((K : Int) + (M : Int) + (G : Int)) = ((K + M + G : Nat) : Int) by unfold wrap64; omega], ⟨⟨1, rfl⟩⟩⟩
theorem impl_plant_size.calls {p : Int} (g : Nat) (r : Int) (w : World) (h : impl_plant_size.f p = some r) (hp : PlantAt w g p) :
  Calls Try.prog 114 #[.pointer (some ⟨g, 0, none⟩)] w fun e w' => e = .returned (.int .i64 r) ∧ Drawn0 w w' := by
 obtain rfl := Option.some.inj h
 exact impl_plant_size.callsN g _ _ _ hp.k2 hp.m2 hp.g2 w hp.at_

/-! ### impl_tables8_mul: function 78 -/
/-- The table's product. -/
def tabMul (a b : Nat) : Nat := if a = 0 then 0 else if b = 0 then 0 else tE 255 (lg a + lg b)
def impl_tables8_mul.f (_ : Int) (a : Int) (b : Int) : Option (Int) := some ((tabMul a.toNat b.toNat : Nat) : Int)
theorem impl_tables8_mul.callsN (g : Nat) (a : Nat) (ha : a < 256) (b : Nat) (hb : b < 256) (w : World) (hT : TabInv w g 255) :
  Calls Try.prog 78 #[.pointer (some ⟨g, 0, none⟩), .int .u8 (a : Int), .int .u8 (b : Int)] w fun e w' => e = .returned (.int .u8 ((tabMul a b : Nat) : Int)) ∧ Drawn0 w w' := by
 by_cases h0 : a = 0
 ·subst h0
  go_enter Try.func78, Try.ntmps78
  go_wp2
  go_ret
  exact ⟨rfl, Drawn0.refl _⟩
 ·have c0 : ((a : Int) == 0) = false := beq_eq_false_iff_ne.mpr (by omega)
  by_cases h1 : b = 0
  ·subst h1
   have e : tabMul a 0 = 0 := by unfold tabMul; rw [if_neg h0, if_pos rfl]
   rw [e]
   go_enter Try.func78, Try.ntmps78
   go_wp2
   go_ret
   exact ⟨rfl, Drawn0.refl _⟩
  ·have c1 : ((b : Int) == 0) = false := beq_eq_false_iff_ne.mpr (by omega)
   obtain ⟨l0, _⟩ := lg_facts ⟨a, ha⟩
   obtain ⟨l1, _⟩ := lg_facts ⟨b, hb⟩
   simp only at l0 l1
   have e0 : tL 255 a = lg a := by unfold tL; rw [if_pos ⟨h0, l0⟩]
   have e1 : tL 255 b = lg b := by unfold tL; rw [if_pos ⟨h1, l1⟩]
   have hl := hT.log a ha
   rw [e0] at hl
   have hm := hT.log b hb
   rw [e1] at hm
   have he := hT.exp (lg a + lg b) (by omega)
   have hw : IntKind.i64.wrap ((lg a : Int) + (lg b : Int)) = ((lg a + lg b : Nat) : Int) := by rw [IntKind.wrap_i64]; omega
   have hr : tabMul a b = tE 255 (lg a + lg b) := by unfold tabMul; rw [if_neg h0, if_neg h1]
   rw [hr]
   have b0 : (a : Int) < 256 := by omega
   have b2 : (b : Int) < 256 := by omega
   have b1 : ((lg a + lg b : Nat) : Int) < 512 := by omega
   have hl2 : w.drew.cell? ⟨g, 512 + a, none⟩ = some (.int .i64 ((lg a : Nat) : Int)) := hl
   have hm2 : w.drew.cell? ⟨g, 512 + b, none⟩ = some (.int .i64 ((lg b : Nat) : Int)) := hm
   have he2 : w.drew.cell? ⟨g, lg a + lg b, none⟩ = some (.int .u8 ((tE 255 (lg a + lg b) : Nat) : Int)) := he
   go_enter Try.func78, Try.ntmps78
   go_wp2
   go_region
   all_goals go_wp2
   all_goals go_ret
   all_goals exact ⟨rfl, ⟨⟨1, rfl⟩⟩⟩
theorem impl_tables8_mul.calls {t : Int} (g : Nat) (a : Int) (b : Int) (r : Int) (w : World) (h : impl_tables8_mul.f t a b = some r) (ha0 : 0 ≤ a ∧ a < 256) (hb0 : 0 ≤ b ∧ b < 256) (hT : TabInv w g 255) :
  Calls Try.prog 78 #[.pointer (some ⟨g, 0, none⟩), .int .u8 a, .int .u8 b] w fun e w' => e = .returned (.int .u8 r) ∧ Drawn0 w w' := by
 obtain ⟨m, rfl⟩ := Int.eq_ofNat_of_zero_le ha0.1
 obtain ⟨n, rfl⟩ := Int.eq_ofNat_of_zero_le hb0.1
 obtain rfl := Option.some.inj h
 exact impl_tables8_mul.callsN g m (by omega) n (by omega) w hT

end Go.Proofs.Ytcpmlelejlmpdaa.QFnExactSplitObject
