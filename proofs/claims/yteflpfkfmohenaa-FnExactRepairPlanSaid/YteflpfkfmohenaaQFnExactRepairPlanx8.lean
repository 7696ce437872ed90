-- A text of this session, printed by a program of its own (wip/tools: xpatch.py, xprint.sh, mkq.py). No condition.
import Derived.Test.YteflpfkfmohenaaQFnExactRepairPlanx0
import Derived.Test.YteflpfkfmohenaaQFnExactRepairPlanx7
namespace Go.Proofs.Yteflpfkfmohenaa.QFnExactRepairPlan
open Go.RowKit Go.Proofs.YteflpfkfmohenaaW.PrintWords Go.Proofs.YteflpfkfmohenaaW.PrintLast Go.Proofs.YteflpfkfmohenaaW.PrintMore
attribute [local go_sem] max2_int min2_int max_two min_two max_three min_three max_four min_four   -- for this text's walks alone
set_option linter.unusedVariables false
set_option linter.unusedSimpArgs false

/-! ### impl_makeTables8: function 26 -/
/-- (The tables' place is no number: 0 stands for it.) -/
def impl_makeTables8.f : Option (Int) := some 0
/-! The tables of the field of 256: the powers of x, and of which power a number is. -/
def exList : List Nat := [1, 2, 4, 8, 16, 32, 64, 128, 29, 58, 116, 232, 205, 135, 19, 38, 76, 152, 45, 90, 180, 117, 234, 201, 143, 3, 6, 12, 24, 48, 96, 192, 157, 39, 78, 156, 37, 74, 148, 53, 106, 212, 181, 119, 238, 193, 159, 35, 70, 140, 5, 10, 20, 40, 80, 160, 93, 186, 105, 210, 185, 111, 222, 161, 95, 190, 97, 194, 153, 47, 94, 188, 101, 202, 137, 15, 30, 60, 120, 240, 253, 231, 211, 187, 107, 214, 177, 127, 254, 225, 223, 163, 91, 182, 113, 226, 217, 175, 67, 134, 17, 34, 68, 136, 13, 26, 52, 104, 208, 189, 103, 206, 129, 31, 62, 124, 248, 237, 199, 147, 59, 118, 236, 197, 151, 51, 102, 204, 133, 23, 46, 92, 184, 109, 218, 169, 79, 158, 33, 66, 132, 21, 42, 84, 168, 77, 154, 41, 82, 164, 85, 170, 73, 146, 57, 114, 228, 213, 183, 115, 230, 209, 191, 99, 198, 145, 63, 126, 252, 229, 215, 179, 123, 246, 241, 255, 227, 219, 171, 75, 150, 49, 98, 196, 149, 55, 110, 220, 165, 87, 174, 65, 130, 25, 50, 100, 200, 141, 7, 14, 28, 56, 112, 224, 221, 167, 83, 166, 81, 162, 89, 178, 121, 242, 249, 239, 195, 155, 43, 86, 172, 69, 138, 9, 18, 36, 72, 144, 61, 122, 244, 245, 247, 243, 251, 235, 203, 139, 11, 22, 44, 88, 176, 125, 250, 233, 207, 131, 27, 54, 108, 216, 173, 71, 142, 1]
def lgList : List Nat := [0, 0, 1, 25, 2, 50, 26, 198, 3, 223, 51, 238, 27, 104, 199, 75, 4, 100, 224, 14, 52, 141, 239, 129, 28, 193, 105, 248, 200, 8, 76, 113, 5, 138, 101, 47, 225, 36, 15, 33, 53, 147, 142, 218, 240, 18, 130, 69, 29, 181, 194, 125, 106, 39, 249, 185, 201, 154, 9, 120, 77, 228, 114, 166, 6, 191, 139, 98, 102, 221, 48, 253, 226, 152, 37, 179, 16, 145, 34, 136, 54, 208, 148, 206, 143, 150, 219, 189, 241, 210, 19, 92, 131, 56, 70, 64, 30, 66, 182, 163, 195, 72, 126, 110, 107, 58, 40, 84, 250, 133, 186, 61, 202, 94, 155, 159, 10, 21, 121, 43, 78, 212, 229, 172, 115, 243, 167, 87, 7, 112, 192, 247, 140, 128, 99, 13, 103, 74, 222, 237, 49, 197, 254, 24, 227, 165, 153, 119, 38, 184, 180, 124, 17, 68, 146, 217, 35, 32, 137, 46, 55, 63, 209, 91, 149, 188, 207, 205, 144, 135, 151, 178, 220, 252, 190, 97, 242, 86, 211, 171, 20, 42, 93, 158, 132, 60, 57, 83, 71, 109, 65, 162, 31, 45, 67, 216, 183, 123, 164, 118, 196, 23, 73, 236, 127, 12, 111, 246, 108, 161, 59, 82, 41, 157, 85, 170, 251, 96, 134, 177, 187, 204, 62, 90, 203, 89, 95, 176, 156, 169, 160, 81, 11, 245, 22, 235, 122, 117, 44, 215, 79, 174, 213, 233, 230, 231, 173, 232, 116, 214, 244, 234, 168, 80, 88, 175]
def ex (j : Nat) : Nat := exList.getD j 0
def lg (a : Nat) : Nat := lgList.getD a 0
theorem ex_facts : ∀ j : Fin 255, 0 < ex j.val ∧ ex j.val < 256 ∧ lg (ex j.val) = j.val ∧ impl_field_uint8_double.f 29 128 (ex j.val : Int) = some ((ex (j.val + 1) : Nat) : Int) := by decide +kernel
theorem lg_facts : ∀ a : Fin 256, lg a.val < 255 ∧ (a.val ≠ 0 → ex (lg a.val) = a.val) := by decide +kernel
def tE (i j : Nat) : Nat := if j < i then ex j else if 255 ≤ j ∧ j < 255 + i then ex (j - 255) else 0
def tL (i a : Nat) : Nat := if a ≠ 0 ∧ lg a < i then lg a else 0
/-- The tables behind i rounds. -/
structure TabInv (wr : World) (g i : Nat) : Prop where
  exp : ∀ j, j < 512 → wr.cell? ⟨g, j, none⟩ = some (.int .u8 ((tE i j : Nat) : Int))
  log : ∀ a, a < 256 → wr.cell? ⟨g, 512 + a, none⟩ = some (.int .i64 ((tL i a : Nat) : Int))
  free : ∀ j, wr.frozen? ⟨g, j, none⟩ = false
theorem TabInv.lt {wr : World} {g i : Nat} (h : TabInv wr g i) : g < wr.heap.size := World.block_lt_of_cell? wr _ (h.exp 0 (by decide))
theorem TabInv.block {wr w' : World} {g i : Nat} (h : TabInv wr g i) (hb : w'.heap[g]? = wr.heap[g]?) : TabInv w' g i where
  exp := fun j hj => (World.cell?_of_block (w := wr) hb).trans (h.exp j hj)
  log := fun a ha => (World.cell?_of_block (w := wr) hb).trans (h.log a ha)
  free := fun j => (World.frozen?_of_block (w := wr) hb).trans (h.free j)
theorem TabInv.below {wr w' : World} {g i : Nat} (h : TabInv wr g i) (hb : Below wr.heap.size wr w') : TabInv w' g i := h.block (hb.block g h.lt)
theorem TabInv.step {wr : World} {g i : Nat} (h : TabInv wr g i) (hi : i < 255) :
    TabInv (((wr.setCell ⟨g, i, none⟩ (.int .u8 ((ex i : Nat) : Int))).setCell ⟨g, i + 255, none⟩ (.int .u8 ((ex i : Nat) : Int))).setCell ⟨g, 512 + ex i, none⟩ (.int .i64 (i : Int))) g (i + 1) where
  exp := fun j hj => by
    obtain ⟨f0, f1, f2, _⟩ := ex_facts ⟨i, hi⟩
    have ne : ∀ a b : Nat, a ≠ b → (⟨g, a, none⟩ : Addr) ≠ ⟨g, b, none⟩ := fun a b hab e => hab (by injection e)
    simp only at f0 f1 f2
    rw [World.cell?_setCell_other _ _ _ _ (ne _ _ (by omega))]
    by_cases e1 : j = i + 255
    · subst e1
      have h1 : (wr.setCell ⟨g, i, none⟩ (.int .u8 ((ex i : Nat) : Int))).cell? ⟨g, i + 255, none⟩ = some (.int .u8 ((tE i (i + 255) : Nat) : Int)) := by
        rw [World.cell?_setCell_other _ _ _ _ (ne _ _ (by omega))]; exact h.exp _ hj
      rw [World.cell?_setCell_same _ _ _ h1]
      unfold tE
      rw [if_neg (by omega), if_pos (by omega), show i + 255 - 255 = i by omega]
    rw [World.cell?_setCell_other _ _ _ _ (ne _ _ (fun e => e1 e.symm))]
    by_cases e2 : j = i
    · subst e2
      rw [World.cell?_setCell_same _ _ _ (h.exp j hj)]
      unfold tE
      rw [if_pos (by omega)]
    rw [World.cell?_setCell_other _ _ _ _ (ne _ _ (fun e => e2 e.symm)), h.exp j hj]
    unfold tE
    by_cases e3 : j < i
    · rw [if_pos e3, if_pos (show j < i + 1 by omega)]
    rw [if_neg e3, if_neg (show ¬ j < i + 1 by omega)]
    by_cases e4 : 255 ≤ j ∧ j < 255 + i
    · rw [if_pos e4, if_pos (show 255 ≤ j ∧ j < 255 + (i + 1) by omega)]
    rw [if_neg e4, if_neg (show ¬ (255 ≤ j ∧ j < 255 + (i + 1)) by omega)]
  log := fun a ha => by
    obtain ⟨f0, f1, f2, _⟩ := ex_facts ⟨i, hi⟩
    have ne : ∀ a b : Nat, a ≠ b → (⟨g, a, none⟩ : Addr) ≠ ⟨g, b, none⟩ := fun a b hab e => hab (by injection e)
    simp only at f0 f1 f2
    have h1 : ((wr.setCell ⟨g, i, none⟩ (.int .u8 ((ex i : Nat) : Int))).setCell ⟨g, i + 255, none⟩ (.int .u8 ((ex i : Nat) : Int))).cell? ⟨g, 512 + a, none⟩ = some (.int .i64 ((tL i a : Nat) : Int)) := by
      rw [World.cell?_setCell_other _ _ _ _ (ne _ _ (by omega)), World.cell?_setCell_other _ _ _ _ (ne _ _ (by omega))]; exact h.log a ha
    by_cases e1 : a = ex i
    · subst e1
      rw [World.cell?_setCell_same _ _ _ h1]
      unfold tL
      rw [if_pos ⟨by omega, by omega⟩, f2]
    rw [World.cell?_setCell_other _ _ _ _ (ne _ _ (by omega)), h1]
    unfold tL
    obtain ⟨l0, l1⟩ := lg_facts ⟨a, ha⟩
    simp only at l0 l1
    by_cases e2 : a ≠ 0 ∧ lg a < i
    · rw [if_pos e2, if_pos ⟨e2.1, by omega⟩]
    rw [if_neg e2, if_neg (fun e3 => e2 ⟨e3.1, by have : lg a ≠ i := fun e4 => e1 (by rw [← e4, l1 e3.1]); omega⟩)]
  free := fun j => (World.frozen?_setCell _ _ _ _).trans ((World.frozen?_setCell _ _ _ _).trans ((World.frozen?_setCell _ _ _ _).trans (h.free j)))
def zcells : Array Value := (List.replicate 512 (Value.int .u8 0) ++ List.replicate 256 (Value.int .i64 0)).toArray
theorem zero_cells : zcells = (List.replicate 512 (Value.int .u8 0) ++ List.replicate 256 (Value.int .i64 0)).toArray := rfl
theorem zero_run (w : World) : (zeroValue 72).run Try.prog w = .ok (.agg zcells) w := by kernel_rfl
theorem zero_ne : zcells ≠ #[] := fun e => absurd (congrArg Array.size e) (by rw [zero_cells, List.size_toArray, List.length_append, List.length_replicate, List.length_replicate]; decide)
theorem zero_lo (j : Nat) (hj : j < 512) : zcells[j]? = some (.int .u8 0) := by
  rw [zero_cells, List.getElem?_toArray, List.getElem?_append_left (by rw [List.length_replicate]; exact hj), List.getElem?_replicate, if_pos hj]
theorem zero_hi (a : Nat) (ha : a < 256) : zcells[512 + a]? = some (.int .i64 0) := by
  rw [zero_cells, List.getElem?_toArray, List.getElem?_append_right (by rw [List.length_replicate]; omega), List.length_replicate, List.getElem?_replicate, if_pos (by omega)]
theorem TabInv.start (w : World) : TabInv (w.alloc (.cells zcells 72)) w.heap.size 0 := by
  have hb : (w.alloc (.cells zcells 72)).heap[w.heap.size]? = some (.cells zcells 72) := heap_alloc_new w _
  refine ⟨fun j hj => ?_, fun a ha => ?_, fun j => ?_⟩
  · have e : tE 0 j = 0 := by unfold tE; rw [if_neg (by omega), if_neg (by omega)]
    rw [e]
    unfold World.cell?
    rw [hb]
    exact zero_lo j hj
  · have e : tL 0 a = 0 := by unfold tL; rw [if_neg (by omega)]
    rw [e]
    unfold World.cell?
    rw [hb]
    exact zero_hi a ha
  · unfold World.frozen?
    rw [hb]
    simp
set_option maxHeartbeats 8000000 in
set_option maxRecDepth 100000 in
theorem impl_makeTables8.calls (w : World) :
  Calls Try.prog 26 #[] w fun e w' => ∃ g, e = .returned (.pointer (some ⟨g, 0, none⟩)) ∧ w.heap.size ≤ g ∧ TabInv w' g 255 ∧ Below w.heap.size w w' := by
 have hB := Aside0.mk (Below.refl w.heap.size w)
 have hT := Aside0.mk (TabInv.start w)
 have zv_ := zero_run
 have zn_ := zero_ne
 go_enter Try.func26, Try.ntmps26
 go_wp2_with (first | (go_at_call 34; (with_reducible refine (impl_bytes8.calls 29 128 _ rfl).mono ?_); rintro e w1 ⟨rfl, hb⟩))
 have HB : Aside0 (Below w.heap.size w (w1.alloc (.cells #[.int .u8 29, .int .u8 128] 74))) := ⟨below_alloc (below_step (below_alloc (Below.refl _ _) _) hb) _⟩
 have HT : Aside0 (TabInv (w1.alloc (.cells #[.int .u8 29, .int .u8 128] 74)) w.heap.size 0) := ⟨(hT.out.below hb).block (Below.heap_alloc _ _ _ (hT.out.below hb).lt)⟩
 have hf0 : (w1.alloc (.cells #[.int .u8 29, .int .u8 128] 74)).cell? ⟨w1.heap.size, 0, none⟩ = some (.int .u8 29) := by unfold World.cell?; rw [show (w1.alloc (.cells #[.int .u8 29, .int .u8 128] 74)).heap[w1.heap.size]? = _ from heap_alloc_new w1 _]; rfl
 have hf1 : (w1.alloc (.cells #[.int .u8 29, .int .u8 128] 74)).cell? ⟨w1.heap.size, 1, none⟩ = some (.int .u8 128) := by unfold World.cell?; rw [show (w1.alloc (.cells #[.int .u8 29, .int .u8 128] 74)).heap[w1.heap.size]? = _ from heap_alloc_new w1 _]; rfl
 have hfg : w.heap.size ≠ w1.heap.size := Nat.ne_of_lt (hT.out.below hb).lt
 have hgg : w.heap.size ≤ w.heap.size := Nat.le_refl _
 clear hB hT hb
 generalize hg_ : w.heap.size = g at hfg hgg HT ⊢
 replace hgg : w.heap.size ≤ g := Nat.le_of_eq hg_
 clear hg_
 generalize w1.heap.size = f at *
 generalize w1.alloc (.cells #[.int .u8 29, .int .u8 128] 74) = w2 at *
 go_loopw [3, 8] (fun v3 v8 wr => ∃ i : Nat, i ≤ 255 ∧ v3 = .int .u8 ((ex i : Nat) : Int) ∧ v8 = .int .i64 (i : Int) ∧ wr.cell? ⟨f, 0, none⟩ = some (.int .u8 29) ∧ wr.cell? ⟨f, 1, none⟩ = some (.int .u8 128) ∧ Aside0 (TabInv wr g i) ∧ Aside0 (Below w.heap.size w wr)) (fun _ v8 _ => 255 - (intOf v8).toNat)
 case atStart => exact ⟨0, Nat.zero_le _, rfl, rfl, hf0, hf1, HT, HB⟩
 case round =>
  clear hf0 hf1 HT HB
  obtain ⟨i, hi, rfl, rfl, hf0, hf1, HT, HB⟩ := hrel
  by_cases hlt : i < 255
  rotate_left
  ·
   have hltI : ¬ (i : Int) < 255 := by omega
   have e : i = 255 := by omega
   subst e
   go_wp2
   go_ret
   exact ⟨g, rfl, hgg, HT.out, HB.out⟩
  have hltI : (i : Int) < 255 := by omega
  obtain ⟨x0, x1, x2, x3⟩ := ex_facts ⟨i, hlt⟩
  simp only at x0 x1 x2 x3
  have hfr := HT.out.free
  have hN := Aside0.mk (HT.out.step hlt)
  have hNB := Aside0.mk (((HB.out.setCell (p := ⟨g, i, none⟩) hgg (.int .u8 ((ex i : Nat) : Int))).setCell (p := ⟨g, i + 255, none⟩) hgg (.int .u8 ((ex i : Nat) : Int))).setCell (p := ⟨g, 512 + ex i, none⟩) hgg (.int .i64 (i : Int)))
  obtain ⟨W1, hW1⟩ : ∃ W1, wr.setCell ⟨g, i, none⟩ (.int .u8 ((ex i : Nat) : Int)) = W1 := ⟨_, rfl⟩
  obtain ⟨W2, hW2⟩ : ∃ W2, W1.setCell ⟨g, i + 255, none⟩ (.int .u8 ((ex i : Nat) : Int)) = W2 := ⟨_, rfl⟩
  obtain ⟨W3, hW3⟩ : ∃ W3, W2.setCell ⟨g, 512 + ex i, none⟩ (.int .i64 (i : Int)) = W3 := ⟨_, rfl⟩
  rw [hW1, hW2, hW3] at hN hNB
  have c0 : wr.cell? ⟨g, i, none⟩ = some (.int .u8 ((tE i i : Nat) : Int)) := HT.out.exp i (by omega)
  have z0 : wr.frozen? ⟨g, i, none⟩ = false := hfr i
  have c1 : W1.cell? ⟨g, i + 255, none⟩ = some (.int .u8 ((tE i (i + 255) : Nat) : Int)) := by rw [← hW1, World.cell?_setCell_other _ _ _ _ (fun e => by injection e; omega)]; exact HT.out.exp _ (by omega)
  have z1 : W1.frozen? ⟨g, i + 255, none⟩ = false := by rw [← hW1]; exact (World.frozen?_setCell _ _ _ _).trans (hfr _)
  have c2 : W2.cell? ⟨g, 512 + ex i, none⟩ = some (.int .i64 ((tL i (ex i) : Nat) : Int)) := by rw [← hW2, World.cell?_setCell_other _ _ _ _ (fun e => by injection e; omega), ← hW1, World.cell?_setCell_other _ _ _ _ (fun e => by injection e; omega)]; exact HT.out.log _ x1
  have z2 : W2.frozen? ⟨g, 512 + ex i, none⟩ = false := by rw [← hW2, ← hW1]; exact (World.frozen?_setCell _ _ _ _).trans ((World.frozen?_setCell _ _ _ _).trans (hfr _))
  have d0 : W3.cell? ⟨f, 0, none⟩ = some (.int .u8 29) := by rw [← hW3, ← hW2, ← hW1, World.cell?_setCell_far _ _ _ _ hfg, World.cell?_setCell_far _ _ _ _ hfg, World.cell?_setCell_far _ _ _ _ hfg]; exact hf0
  have d1 : W3.cell? ⟨f, 1, none⟩ = some (.int .u8 128) := by rw [← hW3, ← hW2, ← hW1, World.cell?_setCell_far _ _ _ _ hfg, World.cell?_setCell_far _ _ _ _ hfg, World.cell?_setCell_far _ _ _ _ hfg]; exact hf1
  have hwi : IntKind.i64.wrap ((i : Int) + 1) = ((i + 1 : Nat) : Int) := by rw [IntKind.wrap_i64]; omega
  have hw5 : IntKind.i64.wrap ((i : Int) + 255) = ((i + 255 : Nat) : Int) := by rw [IntKind.wrap_i64]; omega
  have A3 := Aside0.mk x3
  clear HT HB hfr
  go_wp2_with (first | (go_at_call 35; (with_reducible refine (impl_field_uint8_double.calls 29 128 _ _ _ A3.out).mono ?_); rintro e w4 ⟨rfl, hb4⟩))
  exact ⟨⟨i + 1, by omega, rfl, rfl, pw_cell_below hb4 d0, pw_cell_below hb4 d1, ⟨hN.out.below hb4⟩, ⟨below_step hNB.out hb4⟩⟩, by simp [intOf]; omega⟩

/-! ### impl_tables8_inv: function 27 -/
/-- The table's inverse. -/
def tabInv (a : Nat) : Nat := if a = 0 then 0 else tE 255 (255 - lg a)
def impl_tables8_inv.f (_ : Int) (a : Int) : Option (Int) := if 0 ≤ a ∧ a < 256 then some ((tabInv a.toNat : Nat) : Int) else none
theorem impl_tables8_inv.callsN (g : Nat) (a : Nat) (ha : a < 256) (w : World) (hT : TabInv w g 255) :
  Calls Try.prog 27 #[.pointer (some ⟨g, 0, none⟩), .int .u8 (a : Int)] w fun e w' => e = .returned (.int .u8 ((tabInv a : Nat) : Int)) ∧ Drawn0 w w' := by
 by_cases h0 : a = 0
 ·
  subst h0
  go_enter Try.func27, Try.ntmps27
  go_wp2
  go_ret
  exact ⟨rfl, Drawn0.refl _⟩
 have c0 : ((a : Int) == 0) = false := beq_eq_false_iff_ne.mpr (by omega)
 obtain ⟨l0, _⟩ := lg_facts ⟨a, ha⟩
 simp only at l0
 have e : tL 255 a = lg a := by unfold tL; rw [if_pos ⟨h0, l0⟩]
 have hl := hT.log a ha
 rw [e] at hl
 have he := hT.exp (255 - lg a) (by omega)
 have hw : IntKind.i64.wrap (255 - (lg a : Int)) = ((255 - lg a : Nat) : Int) := by rw [IntKind.wrap_i64]; omega
 have hr : tabInv a = tE 255 (255 - lg a) := by unfold tabInv; rw [if_neg h0]
 rw [hr]
 have b0 : (a : Int) < 256 := by omega
 have b1 : ((255 - lg a : Nat) : Int) < 512 := by omega
 go_enter Try.func27, Try.ntmps27
 have hl2 : w.drew.cell? ⟨g, 512 + a, none⟩ = some (.int .i64 ((lg a : Nat) : Int)) := hl
 have he2 : w.drew.cell? ⟨g, 255 - lg a, none⟩ = some (.int .u8 ((tE 255 (255 - lg a) : Nat) : Int)) := he
 go_wp2
 go_region
 all_goals go_wp2
 all_goals go_ret
 all_goals exact ⟨rfl, ⟨⟨1, rfl⟩⟩⟩
theorem impl_tables8_inv.calls {t : Int} (g : Nat) (a : Int) (r : Int) (w : World) (h : impl_tables8_inv.f t a = some r) (hT : TabInv w g 255) :
  Calls Try.prog 27 #[.pointer (some ⟨g, 0, none⟩), .int .u8 a] w fun e w' => e = .returned (.int .u8 r) ∧ Drawn0 w w' := by
 unfold impl_tables8_inv.f at h
 by_cases hc : 0 ≤ a ∧ a < 256
 rotate_left
 ·
  rw [if_neg hc] at h; cases h
 rw [if_pos hc] at h
 obtain ⟨m, rfl⟩ := Int.eq_ofNat_of_zero_le hc.1
 obtain rfl := Option.some.inj h
 exact impl_tables8_inv.callsN g m (by omega) w hT

/-! ### impl_newPlant: function 19 -/
/-- (The plant's place is no number: its code, written as one number, stands for it.) -/
def plantNo (K M G : Int) : Int := (K * 100 + M) * 100 + G
def pK (p : Int) : Nat := (p / 10000).toNat
def pM (p : Int) : Nat := (p / 100 % 100).toNat
def pG (p : Int) : Nat := (p % 100).toNat
def impl_newPlant.f (K M G : Int) : Option (Int) := if 1 ≤ K ∧ K ≤ 32 ∧ 0 ≤ M ∧ M ≤ 16 ∧ 0 ≤ G ∧ G ≤ 32 then some (plantNo K M G) else none
def xr (a b : Nat) : Nat := a ^^^ b
def rowAt (K i n : Nat) : List Value := (List.range 32).map fun j => .int .u8 ((if j < n then tabInv (xr (K + i) j) else 0 : Nat) : Int)
def globAt (K i n : Nat) : List Value := .int .i64 ((K + i : Nat) : Int) :: rowAt K i n
def globs (K M : Nat) : List (List Value) := (List.range M).map fun i => globAt K i K
def locAt (K M i : Nat) : List Value := [.int .i64 ((K + M + i : Nat) : Int), .int .i64 (i : Int)]
def locs (K M G : Nat) : List (List Value) := (List.range G).map fun i => locAt K M i
/-- A plant in memory. -/
structure PlantIn (W : World) (g K M G : Nat) : Prop where
  tab : ∃ gT, W.cell? ⟨g, 0, none⟩ = some (.pointer (some ⟨gT, 0, none⟩)) ∧ TabInv W gT 255
  k : W.cell? ⟨g, 1, none⟩ = some (.int .i64 (K : Int))
  m : W.cell? ⟨g, 2, none⟩ = some (.int .i64 (M : Int))
  n : W.cell? ⟨g, 3, none⟩ = some (.int .i64 (G : Int))
  gl : ∃ A c, W.cell? ⟨g, 4, none⟩ = some (.slice A M c) ∧ (Kd.raw 33).C W A M (globs K M) ∧ ∀ ad, A = some ad → ∃ b, ad = ⟨b, 0, none⟩
  lo : ∃ A c, W.cell? ⟨g, 5, none⟩ = some (.slice A G c) ∧ (Kd.raw 2).C W A G (locs K M G) ∧ ∀ ad, A = some ad → ∃ b, ad = ⟨b, 0, none⟩
theorem PlantIn.lt {W : World} {g K M G : Nat} (h : PlantIn W g K M G) : g < W.heap.size := World.block_lt_of_cell? W ⟨g, 1, none⟩ h.k
theorem PlantIn.below {W W' : World} {g K M G : Nat} (h : PlantIn W g K M G) (hb : Below W.heap.size W W') : PlantIn W' g K M G where
  tab := by obtain ⟨gT, h1, h2⟩ := h.tab; exact ⟨gT, pw_cell_below hb h1, h2.below hb⟩
  k := pw_cell_below hb h.k
  m := pw_cell_below hb h.m
  n := pw_cell_below hb h.n
  gl := by obtain ⟨A, c, h1, h2, h3⟩ := h.gl; exact ⟨A, c, pw_cell_below hb h1, Kd.C_below h2 hb, h3⟩
  lo := by obtain ⟨A, c, h1, h2, h3⟩ := h.lo; exact ⟨A, c, pw_cell_below hb h1, Kd.C_below h2 hb, h3⟩
theorem plantNo_of (K M G : Nat) (hK : K ≤ 32) (hM : M ≤ 16) (hG : G ≤ 32) : pK (plantNo K M G) = K ∧ pM (plantNo K M G) = M ∧ pG (plantNo K M G) = G := by
  unfold pK pM pG plantNo
  refine ⟨?_, ?_, ?_⟩ <;> omega
/-- A plant in memory, by its number. -/
structure PlantAt (W : World) (g : Nat) (p : Int) : Prop where
  k1 : 1 ≤ pK p
  k2 : pK p ≤ 32
  m2 : pM p ≤ 16
  g2 : pG p ≤ 32
  at_ : PlantIn W g (pK p) (pM p) (pG p)
theorem PlantAt.below {W W' : World} {g : Nat} {p : Int} (h : PlantAt W g p) (hb : Below W.heap.size W W') : PlantAt W' g p := ⟨h.k1, h.k2, h.m2, h.g2, h.at_.below hb⟩
theorem rowAt_len (K i n : Nat) : (rowAt K i n).length = 32 := by unfold rowAt; simp
theorem globAt_len (K i n : Nat) : (globAt K i n).length = 33 := by unfold globAt; simp [rowAt_len]
theorem globAt_set (K i j : Nat) (hj : j < 32) : (globAt K i j).toArray.setIfInBounds (1 + j) (.int .u8 ((tabInv (xr (K + i) j) : Nat) : Int)) = (globAt K i (j + 1)).toArray := by
  rw [List.setIfInBounds_toArray]
  unfold globAt
  rw [show 1 + j = j + 1 by omega, List.set_cons_succ]
  congr 2
  apply List.ext_getElem?
  intro t
  unfold rowAt
  rw [List.getElem?_set, List.getElem?_map, List.getElem?_map, List.length_map, List.length_range]
  by_cases h : j = t
  · subst h
    rw [if_pos rfl, if_pos hj, List.getElem?_range hj]
    show some _ = some (Value.int .u8 ((if j < j + 1 then tabInv (xr (K + i) j) else 0 : Nat) : Int))
    rw [if_pos (by omega)]
  rw [if_neg h]
  by_cases ht : t < 32
  rotate_left
  · rw [List.getElem?_eq_none (by simp; omega)]; rfl
  rw [List.getElem?_range ht]
  show some (Value.int .u8 ((if t < j then tabInv (xr (K + i) t) else 0 : Nat) : Int)) = some (Value.int .u8 ((if t < j + 1 then tabInv (xr (K + i) t) else 0 : Nat) : Int))
  by_cases h2 : t < j
  rotate_left
  · rw [if_neg h2, if_neg (by omega)]
  rw [if_pos h2, if_pos (by omega)]
theorem globAt_get (K i n j : Nat) (hj : j < 33) : ∃ v, (globAt K i n).toArray[j]? = some v := by
  rw [List.getElem?_toArray, List.getElem?_eq_getElem (by rw [globAt_len]; exact hj)]
  exact ⟨_, rfl⟩
theorem globAt_one (K i n : Nat) : (globAt K i n).toArray.all (·.oneCell') = true := by
  rw [List.all_toArray]
  unfold globAt rowAt
  simp [Value.oneCell']
theorem fold_set : ∀ (l : List Value) (k : Nat) (pre post : List Value), pre.length = k → post.length = l.length → List.foldl (fun (cs : Array Value) (x : Value × Nat) => cs.setIfInBounds x.2 x.1) (pre ++ post).toArray (l.zipIdx k) = (pre ++ l).toArray
  | [], k, pre, post, _, h2 => by
    have : post = [] := List.eq_nil_of_length_eq_zero (by simpa using h2)
    subst this
    rfl
  | a :: l, k, pre, [], _, h2 => by simp at h2
  | a :: l, k, pre, p :: post, h1, h2 => by
    rw [List.zipIdx_cons, List.foldl_cons, List.setIfInBounds_toArray, List.set_append_right _ _ (by omega), h1, Nat.sub_self, List.set_cons_zero]
    have := fold_set l (k + 1) (pre ++ [a]) post (by simp [h1]) (by simpa using h2)
    simpa using this
theorem fold_zip (l : List Value) (cs : Array Value) (h : cs.size = l.length) : List.foldl (fun (cs : Array Value) (x : Value × Nat) => cs.setIfInBounds x.2 x.1) cs l.zipIdx = l.toArray := by
  have := fold_set l 0 [] cs.toList rfl (by simpa using h)
  simpa using this
theorem xor_nat (a b : Nat) (ha : a < 128) (hb : b < 128) : (Go.bits .xor .i64 (a : Int) (b : Int)) % 256 = ((xr a b : Nat) : Int) ∧ xr a b < 256 := by
  have hx : a ^^^ b < 2 ^ 7 := Nat.xor_lt_two_pow (by simpa using ha) (by simpa using hb)
  have e : Go.bits .xor .i64 (a : Int) (b : Int) = ((a ^^^ b : Nat) : Int) := by
    show IntKind.i64.wrap (((BitVec.ofInt 64 (a : Int)) ^^^ (BitVec.ofInt 64 (b : Int))).toNat : Int) = _
    rw [BitVec.toNat_xor, BitVec.ofInt_natCast, BitVec.ofInt_natCast, BitVec.toNat_ofNat, BitVec.toNat_ofNat, Nat.mod_eq_of_lt (by omega : a < 2 ^ 64), Nat.mod_eq_of_lt (by omega : b < 2 ^ 64), IntKind.wrap_i64]
    omega
  unfold xr
  rw [e]
  omega
theorem below_row {w W : World} (h : Below w.heap.size w W) {g : Nat} (hg : w.heap.size ≤ g) (cs : Array Value) : Below w.heap.size w (W.setRow g cs) :=
  ⟨h.os, h.tape, h.output, by rw [setRow_size]; exact h.size, fun i hi => (setRow_other W g i cs (by omega)).trans (h.block i hi)⟩
section
variable {ops : Array Oper} {rest : List Oper} {o : Oper} {a : Act} {Q : Exit → Act → World → Prop}
/-- A whole struct (or array) into a block of its own. -/
theorem row_store {W : World} (hgd : o.guard = none) (ty : TypeId) (x y : Operand) (ho : o.op = .store ty x y) (hN : o.dst = none) (g : Nat) (old cells : Array Value) (hx : a.eval x = .pointer (some ⟨g, 0, none⟩)) (hy : a.eval y = .agg cells)
    (hb : W.heap[g]? = some (.cells old ty (0, 0))) (hi : (Try.prog.info? ty).map (·.size) = some cells.size) (hs : old.size = cells.size) (h1 : cells.all (·.oneCell') = true)
    (h : ∀ W', W' = W.setRow g cells → W'.heap[g]? = some (.cells cells ty (0, 0)) → wpList Try.prog ops Q rest a W') : wpList Try.prog ops Q (o :: rest) a W := by
  refine wpList_plain hgd fun K hK => ?_
  unfold Oper.wp execOp
  simp only [ho, hx, hy, Instr.storeAt, Instr.sureAddr, Sem.run_bind, Sem.run_pure, Result.andThen_ok, run_storeVar_row W g ty ty old cells hb hi hs h1]
  show K (a.put o.dst undef) _
  rw [hN]
  exact hK _ _ (h _ rfl (setRow_heap W g old cells ty (0, 0) hb))
/-- A whole struct read. -/
theorem row_load {W : World} {oi : Oper} {a : Act} (ty : TypeId) (x : Operand) (ho : oi.op = .load ty x) (g : Nat) (cells : Array Value) (hx : a.eval x = .pointer (some ⟨g, 0, none⟩)) (hl : (loadVar ty ⟨g, 0, none⟩).run Try.prog W = .ok (.agg cells) W) :
    (execOp a.eval oi).run Try.prog W = .ok (.value (.agg cells)) W := by
  simp [execOp, ho, hx, Instr.loadAt, Instr.sureAddr, hl]
end

set_option maxHeartbeats 8000000 in
set_option maxRecDepth 100000 in
theorem impl_newPlant.callsN (cK cM cG : Nat) (hcK : cK ≤ 32) (hcM : cM ≤ 16) (hcG : cG ≤ 32) (w : World) :
  Calls Try.prog 19 #[.agg #[.int .i64 (cK : Int), .int .i64 (cM : Int), .int .i64 (cG : Int)]] w fun e w' => ∃ g, e = .returned (.pointer (some ⟨g, 0, none⟩)) ∧ w.heap.size ≤ g ∧ PlantIn w' g cK cM cG ∧ Below w.heap.size w w' := by
 have HB := Aside0.mk (Below.refl w.heap.size w)
 go_enter Try.func19, Try.ntmps19
 go_wp2_with (first | ((with_reducible refine gate_dst (N := 1) rfl ?_); refine box_event ?hg (N := 1) ?hd (cs := #[.int .i64 (cK : Int), .int .i64 (cM : Int), .int .i64 (cG : Int)]) (t := 29) ?hr ?_; (case hd => rfl); (case hg => rfl); (case hr => first | (go_simp; done) | (go_simp; rfl)); intro gc hg w1 hbox hb; have n1_ := Aside0.mk (below_step HB.out hb); have n2_ := Aside0.mk (hbox); have n3_ := Aside0.mk ((by rw [hg]; exact below_size HB.out) : w.heap.size ≤ gc); clear HB; have HB := n1_; have BKc := n2_; have GEc := n3_; clear n1_ n2_ n3_; clear hb hbox hg))
 have n2_ := Aside0.mk (blk_drew BKc.out)
 have n3_ := Aside0.mk (below_drew1 HB.out)
 clear BKc HB
 have BKc := n2_
 have HB := n3_
 clear n2_ n3_
 refine start_ (n := 5) (S := fun w' => w'.cell? ⟨gc, 0, none⟩ = some (.int .i64 (cK : Int)) ∧ w'.cell? ⟨gc, 1, none⟩ = some (.int .i64 (cM : Int)) ∧ w'.cell? ⟨gc, 2, none⟩ = some (.int .i64 (cG : Int))) (ds := []) #[false, false, false, false, false] (by kernel_rfl) rfl rfl ⟨(blk_cell BKc.out 0).trans rfl, (blk_cell BKc.out 1).trans rfl, (blk_cell BKc.out 2).trans rfl⟩ (fun hHeld => ?_)
 generalize w1.drew = w2 at BKc HB hHeld ⊢
 refine take_ (i := 1) (N := some 9) (v := ?_) (a' := ?_) #[false, true, false, false, false] rfl rfl (by kernel_rfl) (fun _ _ _ h => h) (Or.inl ⟨by rfl, ?_⟩) hHeld ?_ ?_; rotate_left; rintro w' ⟨s0, s1, s2⟩; go_simp; with_reducible rfl; rotate_left; simp only [Cap.pz]; rfl
 refine one_ (i := 0) (N := some 8) #[true, true, false, false, false] rfl rfl (by kernel_rfl) (by decide) (fun Kq hK => ?_)
 refine goes_ Try.func26 (by kernel_rfl) rfl #[] (by rfl) rfl rfl (by (try simp only [List.map_toArray, List.map_cons, List.map_nil]); first | done | rfl) ?_
 with_reducible refine (impl_makeTables8.calls _).mono ?_
 rintro e w3 ⟨gT, rfl, hgT, hT, hb⟩
 refine ⟨_, rfl, ?_⟩
 have n0_ := Aside0.mk (blk_below BKc.out hb)
 have n1_ := Aside0.mk (below_step HB.out hb)
 have HT := Aside0.mk hT
 clear BKc HB hT hb
 have BKc := n0_
 have HB := n1_
 clear n0_ n1_
 refine hK.out _ _ ⟨(blk_cell BKc.out 0).trans rfl, (blk_cell BKc.out 1).trans rfl, (blk_cell BKc.out 2).trans rfl⟩ (fun hHeld => ?_)
 clear hK Kq
 refine norm_ (a' := ?_) ?_ ?_; rotate_left; show Act.put _ (some 8) _ = _; simp only [Cap.pz]; rfl
 refine pure_ (i := 2) (N := some 10) (v := ?_) (a' := ?_) #[true, true, true, false, false] rfl rfl (by kernel_rfl) (fun _ _ _ h => h) (Or.inl ⟨by rfl, ?_⟩) ?_ ?_; rotate_left; intro w'; go_simp; with_reducible rfl; rotate_left; simp only [Cap.pz]; rfl
 refine one_ (i := 3) (N := some 11) #[true, true, true, true, false] rfl rfl (by kernel_rfl) (by decide) (fun Kq hK => ?_)
 refine value_ (w1 := ?_) (v := ?_) (by rfl) rfl ?_ ?_
 rotate_left 2
 ·
  go_simp
  constructor
  ·
   rfl
  ·
   rfl
 refine hK.out _ _ ⟨(blk_cell (blk_alloc BKc.out _) 0).trans rfl, (blk_cell (blk_alloc BKc.out _) 1).trans rfl, (blk_cell (blk_alloc BKc.out _) 2).trans rfl⟩ (fun hHeld => ?_)
 clear hK Kq
 refine norm_ (a' := ?_) ?_ ?_; rotate_left; show Act.put _ (some 11) _ = _; simp only [Cap.pz]; rfl
 refine pure_ (i := 4) (N := some 3) (v := ?_) (a' := ?_) #[true, true, true, true, true] rfl rfl (by kernel_rfl) (fun _ _ _ h => h) (Or.inl ⟨by rfl, ?_⟩) ?_ ?_; rotate_left; intro w'; go_simp; with_reducible rfl; rotate_left; simp only [Cap.pz]; rfl
 refine done_ (by kernel_rfl) ?_
 clear hHeld
 have n0_ := Aside0.mk (blk_alloc BKc.out (.cells #[.pointer (some ⟨gT, 0, none⟩), .int .i64 (cK : Int), .int .i64 (cM : Int), .int .i64 (cG : Int), .slice none 0 0, .slice none 0 0] 55))
 have n1_ := Aside0.mk (blk_new w3 (.cells #[.pointer (some ⟨gT, 0, none⟩), .int .i64 (cK : Int), .int .i64 (cM : Int), .int .i64 (cG : Int), .slice none 0 0, .slice none 0 0] 55))
 have n2_ := Aside0.mk (HT.out.block (Below.heap_alloc w3 (.cells #[.pointer (some ⟨gT, 0, none⟩), .int .i64 (cK : Int), .int .i64 (cM : Int), .int .i64 (cG : Int), .slice none 0 0, .slice none 0 0] 55) _ HT.out.lt))
 have n3_ := Aside0.mk (below_alloc HB.out (.cells #[.pointer (some ⟨gT, 0, none⟩), .int .i64 (cK : Int), .int .i64 (cM : Int), .int .i64 (cG : Int), .slice none 0 0, .slice none 0 0] 55))
 have GEp := Aside0.mk (below_size HB.out)
 have NEc := Aside0.mk (Nat.ne_of_lt (blk_lt BKc.out))
 have NET := Aside0.mk (Nat.ne_of_lt HT.out.lt)
 clear BKc HT HB
 generalize w3.heap.size = gp at n1_ GEp NEc NET ⊢
 generalize w3.alloc (.cells #[.pointer (some ⟨gT, 0, none⟩), .int .i64 (cK : Int), .int .i64 (cM : Int), .int .i64 (cG : Int), .slice none 0 0, .slice none 0 0] 55) = w4 at n0_ n1_ n2_ n3_ ⊢
 have BKc := n0_
 have BKp := n1_
 have HT := n2_
 have HB := n3_
 clear n0_ n1_ n2_ n3_
 have hcz1 : w4.cell? ⟨gc, 1, none⟩ = some (.int .i64 (cM : Int)) := (blk_cell BKc.out 1).trans rfl
 go_wp2
 go_loopw [14] (fun v14 wr => ∃ (i : Nat) (vG : Value), i ≤ cM ∧ v14 = .int .i64 (i : Int) ∧ Aside0 (wr.heap[gc]? = some (.cells #[.int .i64 (cK : Int), .int .i64 (cM : Int), .int .i64 (cG : Int)] 29 (0, 0))) ∧ Aside0 (wr.heap[gp]? = some (.cells #[.pointer (some ⟨gT, 0, none⟩), .int .i64 (cK : Int), .int .i64 (cM : Int), .int .i64 (cG : Int), vG, .slice none 0 0] 55 (0, 0))) ∧ Aside0 ((Kd.raw 33).R 60 wr w.heap.size (fun k => k ≠ gp ∧ k ≠ gc ∧ k ≠ gT) vG ((List.range i).map fun j => globAt cK j cK)) ∧ Aside0 (TabInv wr gT 255) ∧ Aside0 (Below w.heap.size w wr)) (fun v14 _ => cM - (intOf v14).toNat)
 case atStart => exact ⟨0, _, Nat.zero_le _, rfl, BKc, BKp, ⟨Kd.R_nil _ _ _ _ _⟩, HT, HB⟩
 case round =>
  clear BKc BKp HT HB hcz1
  obtain ⟨i, vG, hi, rfl, BKc, BKp, HR, HT, HB⟩ := hrel
  have hcz0 : wr.cell? ⟨gc, 0, none⟩ = some (.int .i64 (cK : Int)) := (blk_cell BKc.out 0).trans rfl
  by_cases hlt : i < cM
  rotate_left
  ·
   have c0 : decide ((i : Int) < (cM : Int)) = false := decide_eq_false (by omega)
   have ei : i = cM := by omega
   have hcz0 : wr.cell? ⟨gc, 2, none⟩ = some (.int .i64 (cG : Int)) := (blk_cell BKc.out 2).trans rfl
   go_wp2
   have nG_ : Aside0 ((Kd.raw 33).R 60 wr w.heap.size (fun k => k ≠ gp ∧ k ≠ gc ∧ k ≠ gT) vG ((List.range cM).map fun j => globAt cK j cK)) := ⟨by have h := HR.out; rwa [ei] at h⟩
   clear HR
   have HR := nG_
   clear nG_ ei hcz0
   go_loopw [57] (fun v57 wq => ∃ (i : Nat) (vL : Value), i ≤ cG ∧ v57 = .int .i64 (i : Int) ∧ Aside0 (wq.heap[gc]? = some (.cells #[.int .i64 (cK : Int), .int .i64 (cM : Int), .int .i64 (cG : Int)] 29 (0, 0))) ∧ Aside0 (wq.heap[gp]? = some (.cells #[.pointer (some ⟨gT, 0, none⟩), .int .i64 (cK : Int), .int .i64 (cM : Int), .int .i64 (cG : Int), vG, vL] 55 (0, 0))) ∧ Aside0 ((Kd.raw 33).R 60 wq w.heap.size (fun k => k ≠ gp ∧ k ≠ gc ∧ k ≠ gT) vG ((List.range cM).map fun j => globAt cK j cK)) ∧ Aside0 ((Kd.raw 2).R 63 wq w.heap.size (fun k => k ≠ gp ∧ k ≠ gc ∧ k ≠ gT) vL ((List.range i).map fun j => locAt cK cM j)) ∧ Aside0 (TabInv wq gT 255) ∧ Aside0 (Below w.heap.size w wq)) (fun v57 _ => cG - (intOf v57).toNat)
   case atStart => exact ⟨0, _, Nat.zero_le _, rfl, BKc, BKp, HR, ⟨Kd.R_nil _ _ _ _ _⟩, HT, HB⟩
   case round =>
    clear BKc BKp HT HB HR
    obtain ⟨l, vL, hl, rfl, BKc, BKp, HR, HL, HT, HB⟩ := hrel
    by_cases hll : l < cG
    rotate_left
    ·
     have c2 : decide ((l : Int) < (cG : Int)) = false := decide_eq_false (by omega)
     have el : l = cG := by omega
     have nG_ : Aside0 ((Kd.raw 2).R 63 wr w.heap.size (fun k => k ≠ gp ∧ k ≠ gc ∧ k ≠ gT) vL ((List.range cG).map fun j => locAt cK cM j)) := ⟨by have h := HL.out; rwa [el] at h⟩
     clear HL
     have HL := nG_
     clear nG_ el
     go_wp2
     go_ret
     refine ⟨gp, rfl, GEp.out, ⟨⟨gT, (blk_cell BKp.out 0).trans rfl, HT.out⟩, (blk_cell BKp.out 1).trans rfl, (blk_cell BKp.out 2).trans rfl, (blk_cell BKp.out 3).trans rfl, ?_, ?_⟩, HB.out⟩
     ·
      obtain ⟨A, c, e, hc⟩ := Kd.R_reads HR.out
      rw [show ((List.range cM).map fun j => globAt cK j cK).length = cM by simp] at e hc
      exact ⟨A, c, (blk_cell BKp.out 4).trans (congrArg some e), hc.2, fun ad ha => Kd.R_head (by have h := HR.out; rw [e, ha] at h; exact h)⟩
     ·
      obtain ⟨A, c, e, hc⟩ := Kd.R_reads HL.out
      rw [show ((List.range cG).map fun j => locAt cK cM j).length = cG by simp] at e hc
      exact ⟨A, c, (blk_cell BKp.out 5).trans (congrArg some e), hc.2, fun ad ha => Kd.R_head (by have h := HL.out; rw [e, ha] at h; exact h)⟩
    have c2 : decide ((l : Int) < (cG : Int)) = true := decide_eq_true (by omega)
    go_wp2
    have n0_ : Aside0 (wr.drew.heap[gc]? = some (.cells #[.int .i64 (cK : Int), .int .i64 (cM : Int), .int .i64 (cG : Int)] 29 (0, 0))) := ⟨blk_drew BKc.out⟩
    have n1_ : Aside0 (wr.drew.heap[gp]? = some (.cells #[.pointer (some ⟨gT, 0, none⟩), .int .i64 (cK : Int), .int .i64 (cM : Int), .int .i64 (cG : Int), vG, vL] 55 (0, 0))) := ⟨blk_drew BKp.out⟩
    have n2_ : Aside0 (TabInv wr.drew gT 255) := ⟨HT.out.block rfl⟩
    have n3_ : Aside0 (((Kd.raw 33).R 60 wr.drew w.heap.size (fun k => k ≠ gp ∧ k ≠ gc ∧ k ≠ gT) vG ((List.range cM).map fun j => globAt cK j cK))) := ⟨Kd.R_drew HR.out⟩
    have n4_ : Aside0 (((Kd.raw 2).R 63 wr.drew w.heap.size (fun k => k ≠ gp ∧ k ≠ gc ∧ k ≠ gT) vL ((List.range l).map fun j => locAt cK cM j))) := ⟨Kd.R_drew HL.out⟩
    have n5_ : Aside0 (Below w.heap.size w wr.drew) := ⟨below_drew1 HB.out⟩
    clear BKc BKp HT HR HL HB
    have BKc := n0_
    have BKp := n1_
    have HT := n2_
    have HR := n3_
    have HL := n4_
    have HB := n5_
    clear n0_ n1_ n2_ n3_ n4_ n5_
    refine start_ (n := 20) (S := fun w' => w'.cell? ⟨gp, 5, none⟩ = some vL ∧ w'.cell? ⟨gc, 0, none⟩ = some (.int .i64 (cK : Int)) ∧ w'.cell? ⟨gc, 1, none⟩ = some (.int .i64 (cM : Int))) (ds := [19]) zf107 (by kernel_rfl) rfl rfl ⟨(blk_cell BKp.out 5).trans rfl, (blk_cell BKc.out 0).trans rfl, (blk_cell BKc.out 1).trans rfl⟩ (fun hHeld => ?_)
    generalize wr.drew = w7 at BKc BKp HT HR HL HB hHeld ⊢
    refine pure_ (i := 0) (N := some 60) (v := ?_) (a' := ?_) zf108 rfl rfl (by kernel_rfl) (fun _ _ _ h => h) (Or.inl ⟨by rfl, ?_⟩) ?_ ?_; rotate_left; intro w'; go_simp; with_reducible rfl; rotate_left; simp only [Cap.pz]; rfl
    refine pure_ (i := 1) (N := some 61) (v := ?_) (a' := ?_) zf109 rfl rfl (by kernel_rfl) (fun _ _ _ h => h) (Or.inl ⟨by rfl, ?_⟩) ?_ ?_; rotate_left; intro w'; go_simp; with_reducible rfl; rotate_left; simp only [Cap.pz]; rfl
    refine pure_ (i := 2) (N := some 62) (v := ?_) (a' := ?_) zf110 rfl rfl (by kernel_rfl) (fun _ _ _ h => h) (Or.inl ⟨by rfl, ?_⟩) ?_ ?_; rotate_left; intro w'; go_simp; with_reducible rfl; rotate_left; simp only [Cap.pz]; rfl
    refine pure_ (i := 3) (N := some 63) (v := ?_) (a' := ?_) zf111 rfl rfl (by kernel_rfl) (fun _ _ _ h => h) (Or.inl ⟨by rfl, ?_⟩) ?_ ?_; rotate_left; intro w'; go_simp; with_reducible rfl; rotate_left; simp only [Cap.pz]; rfl
    refine take_ (i := 4) (N := some 64) (v := ?_) (a' := ?_) zf112 rfl rfl (by kernel_rfl) (fun _ _ _ h => h) (Or.inl ⟨by rfl, ?_⟩) hHeld ?_ ?_; rotate_left; rintro w' ⟨s0, s1, s2⟩; go_simp; with_reducible rfl; rotate_left; simp only [Cap.pz]; rfl
    refine pure_ (i := 5) (N := some 65) (v := ?_) (a' := ?_) zf113 rfl rfl (by kernel_rfl) (fun _ _ _ h => h) (Or.inl ⟨by rfl, ?_⟩) ?_ ?_; rotate_left; intro w'; go_simp; with_reducible rfl; rotate_left; simp only [Cap.pz]; rfl
    refine take_ (i := 6) (N := some 66) (v := ?_) (a' := ?_) zf114 rfl rfl (by kernel_rfl) (fun _ _ _ h => h) (Or.inl ⟨by rfl, ?_⟩) hHeld ?_ ?_; rotate_left; rintro w' ⟨s0, s1, s2⟩; go_simp; with_reducible rfl; rotate_left; simp only [Cap.pz]; rfl
    refine pure_ (i := 7) (N := some 67) (v := ?_) (a' := ?_) zf115 rfl rfl (by kernel_rfl) (fun _ _ _ h => h) (Or.inl ⟨by rfl, ?_⟩) ?_ ?_; rotate_left; intro w'; go_simp; with_reducible rfl; rotate_left; simp only [Cap.pz]; rfl
    refine take_ (i := 8) (N := some 68) (v := ?_) (a' := ?_) zf116 rfl rfl (by kernel_rfl) (fun _ _ _ h => h) (Or.inl ⟨by rfl, ?_⟩) hHeld ?_ ?_; rotate_left; rintro w' ⟨s0, s1, s2⟩; go_simp; with_reducible rfl; rotate_left; simp only [Cap.pz]; rfl
    refine pure_ (i := 9) (N := some 69) (v := ?_) (a' := ?_) zf117 rfl rfl (by kernel_rfl) (fun _ _ _ h => h) (Or.inl ⟨by rfl, ?_⟩) ?_ ?_; rotate_left; intro w'; go_simp; with_reducible rfl; rotate_left; simp only [Cap.pz]; rfl
    refine pure_ (i := 10) (N := some 70) (v := ?_) (a' := ?_) zf118 rfl rfl (by kernel_rfl) (fun _ _ _ h => h) (Or.inl ⟨by rfl, ?_⟩) ?_ ?_; rotate_left; intro w'; go_simp; with_reducible rfl; rotate_left; simp only [Cap.pz]; rfl
    refine pure_ (i := 11) (N := some 71) (v := ?_) (a' := ?_) zf119 rfl rfl (by kernel_rfl) (fun _ _ _ h => h) (Or.inl ⟨by rfl, ?_⟩) ?_ ?_; rotate_left; intro w'; go_simp; with_reducible rfl; rotate_left; simp only [Cap.pz]; rfl
    refine pure_ (i := 12) (N := some 72) (v := ?_) (a' := ?_) zf120 rfl rfl (by kernel_rfl) (fun _ _ _ h => h) (Or.inl ⟨by rfl, ?_⟩) ?_ ?_; rotate_left; intro w'; go_simp; with_reducible rfl; rotate_left; simp only [Cap.pz]; rfl
    refine pure_ (i := 13) (N := some 73) (v := ?_) (a' := ?_) zf121 rfl rfl (by kernel_rfl) (fun _ _ _ h => h) (Or.inl ⟨by rfl, ?_⟩) ?_ ?_; rotate_left; intro w'; go_simp; with_reducible rfl; rotate_left; simp only [Cap.pz]; rfl
    refine pure_ (i := 14) (N := some 74) (v := ?_) (a' := ?_) zf122 rfl rfl (by kernel_rfl) (fun _ _ _ h => h) (Or.inl ⟨by rfl, ?_⟩) ?_ ?_; rotate_left; intro w'; go_simp; with_reducible rfl; rotate_left; simp only [Cap.pz]; rfl
    refine one_ (i := 15) (N := some 75) zf123 rfl rfl (by kernel_rfl) (by decide) (fun Kq hK => ?_)
    refine value_ (w1 := ?_) (v := ?_) (by rfl) rfl ?_ ?_
    rotate_left 2
    ·
     go_simp
     constructor
     ·
      rfl
     ·
      rfl
    refine hK.out _ _ ⟨(blk_cell (blk_alloc BKp.out _) 5).trans rfl, (blk_cell (blk_alloc BKc.out _) 0).trans rfl, (blk_cell (blk_alloc BKc.out _) 1).trans rfl⟩ (fun hHeld => ?_)
    clear hK Kq
    refine norm_ (a' := ?_) ?_ ?_; rotate_left; show Act.put _ (some 75) _ = _; simp only [Cap.pz]; rfl
    refine one_ (i := 16) (N := some 76) zf124 rfl rfl (by kernel_rfl) (by decide) (fun Kq hK => ?_)
    refine Kd.R_append_step (Kd.raw 2) (w0 := w) w.heap.size (by rfl) (.tmp 64) (.tmp 75) 53 63 (.agg #[.int .i64 0, .int .i64 0]) 16 rfl Try.underlying53 (by kernel_rfl) rfl (by decide) (by omega) vL ((List.range l).map fun j => locAt cK cM j) [.int .i64 (wrap64 (wrap64 ((cK : Int) + (cM : Int)) + (l : Int))), .int .i64 (l : Int)] [.int .i64 (wrap64 (wrap64 ((cK : Int) + (cM : Int)) + (l : Int))), .int .i64 (l : Int)] (fun k => k ≠ gp ∧ k ≠ gc ∧ k ≠ gT) (fun _ => False) rfl rfl ?aP (fun _ hk => hk.elim) ?aF ?aO ?aB ?aS ?aL ?_
    (case aP => exact ⟨rfl, rfl, by simp [Value.oneCell']⟩)
    (case aB => exact HB.out)
    (case aF => exact (fun k hk => by have h1 := blk_lt BKp.out; have h2 := blk_lt BKc.out; have h3 := HT.out.lt; omega))
    (case aO => exact HL.out)
    (case aS => exact below_size HB.out)
    (case aL => simp; omega)
    intro vL2 w8 ho hb hg hat
    have nP_ : some gp ≠ vL.ownBlock := fun e => (HL.out.1 gp e.symm).1 rfl
    have nC_ : some gc ≠ vL.ownBlock := fun e => (HL.out.1 gc e.symm).2.1 rfl
    have nT_ : some gT ≠ vL.ownBlock := fun e => (HL.out.1 gT e.symm).2.2 rfl
    have er_ : ((List.range l).map fun j => locAt cK cM j) ++ [[.int .i64 (wrap64 (wrap64 ((cK : Int) + (cM : Int)) + (l : Int))), .int .i64 (l : Int)]] = (List.range (l + 1)).map fun j => locAt cK cM j := by rw [List.range_succ, List.map_append]; congr 1; show _ = [locAt cK cM l]; unfold locAt; rw [show wrap64 (wrap64 ((cK : Int) + (cM : Int)) + (l : Int)) = ((cK + cM + l : Nat) : Int) by unfold wrap64; omega]
    rw [er_] at ho
    have n0_ : Aside0 (w8.heap[gc]? = some (.cells #[.int .i64 (cK : Int), .int .i64 (cM : Int), .int .i64 (cG : Int)] 29 (0, 0))) := ⟨blk_grown BKc.out hg nC_⟩
    have n1_ : Aside0 (w8.heap[gp]? = some (.cells #[.pointer (some ⟨gT, 0, none⟩), .int .i64 (cK : Int), .int .i64 (cM : Int), .int .i64 (cG : Int), vG, vL] 55 (0, 0))) := ⟨blk_grown BKp.out hg nP_⟩
    have n2_ : Aside0 (TabInv w8 gT 255) := ⟨HT.out.block (hg.block gT HT.out.lt nT_)⟩
    have n3_ : Aside0 (((Kd.raw 33).R 60 w8 w.heap.size (fun k => k ≠ gp ∧ k ≠ gc ∧ k ≠ gT) vG ((List.range cM).map fun j => globAt cK j cK))) := ⟨Kd.R_mono (Kd.R_step (Kd.R_bound HR.out) (fun k hk hk2 => hg.block k hk2 (by obtain ⟨q, hq, cells, hc⟩ := hk.2.2.2; obtain rfl : q = 60 := (by simpa [Kd.raw] using hq); exact Kd.R_ne HL.out hc (by decide)))) (fun k hk => hk.1)⟩
    have n4_ : Aside0 (((Kd.raw 2).R 63 w8 w.heap.size (fun k => k ≠ gp ∧ k ≠ gc ∧ k ≠ gT) vL2 ((List.range (l + 1)).map fun j => locAt cK cM j))) := ⟨ho⟩
    have n5_ : Aside0 (Below w.heap.size w w8) := ⟨hb⟩
    clear BKc BKp HT HR HL HB
    have BKc := n0_
    have BKp := n1_
    have HT := n2_
    have HR := n3_
    have HL := n4_
    have HB := n5_
    clear n0_ n1_ n2_ n3_ n4_ n5_
    clear ho hb hg hat nP_ nC_ nT_ er_
    obtain ⟨AL2, cL2, eL2⟩ := Kd.R_slice HL.out
    rw [show ((List.range (l + 1)).map fun j => locAt cK cM j).length = l + 1 by simp] at eL2
    subst eL2
    refine hK.out _ _ ⟨(blk_cell BKp.out 5).trans rfl, (blk_cell BKc.out 0).trans rfl, (blk_cell BKc.out 1).trans rfl⟩ (fun hHeld => ?_)
    clear hK Kq
    refine norm_ (a' := ?_) ?_ ?_; rotate_left; show Act.put _ (some 76) _ = _; simp only [Cap.pz]; rfl
    refine pure_ (i := 17) (N := some 77) (v := ?_) (a' := ?_) zf125 rfl rfl (by kernel_rfl) (fun _ _ _ h => h) (Or.inl ⟨by rfl, ?_⟩) ?_ ?_; rotate_left; intro w'; go_simp; with_reducible rfl; rotate_left; simp only [Cap.pz]; rfl
    refine pure_ (i := 18) (N := some 78) (v := ?_) (a' := ?_) zf126 rfl rfl (by kernel_rfl) (fun _ _ _ h => h) (Or.inl ⟨by rfl, ?_⟩) ?_ ?_; rotate_left; intro w'; go_simp; with_reducible rfl; rotate_left; simp only [Cap.pz]; rfl
    refine last_ (i := 19) (N := none) zf127 rfl rfl (by kernel_rfl) (by decide) (fun Kq hK => ?_)
    have hcs : w8.cell? ⟨gp, 5, none⟩ = some vL := (blk_cell BKp.out 5).trans rfl
    have hfs := blk_frozen BKp.out 5
    refine skip_ (w1 := ?_) (by rfl) rfl ?_ ?_
    rotate_left
    ·
     go_simp
     rfl
    refine hK.out _ _ ?_
    clear hK Kq
    refine done_ (by kernel_rfl) ?_
    go_wp2
    refine ⟨⟨l + 1, _, by omega, by go_num, ⟨blk_far BKc.out NEc.out _⟩, ⟨blk_put BKp.out 5 _ rfl⟩, ⟨Kd.R_step HR.out (fun k ho _ => Below.heap_setCell _ _ _ k ho.1)⟩, ⟨Kd.R_step HL.out (fun k ho _ => Below.heap_setCell _ _ _ k ho.1)⟩, ⟨HT.out.block (Below.heap_setCell _ _ _ gT NET.out)⟩, ⟨below_set HB.out GEp.out⟩⟩, ?_⟩
    simp [intOf]; omega
  have c0 : decide ((i : Int) < (cM : Int)) = true := decide_eq_true (by omega)
  have hwK : IntKind.i64.wrap ((cK : Int) + (i : Int)) = ((cK + i : Nat) : Int) := by rw [IntKind.wrap_i64]; omega
  go_wp2_with (first | ((with_reducible refine gate_dst (N := 5) rfl ?_); refine box_event ?hg (N := 5) ?hd (cs := (Value.int .i64 0 :: List.replicate 32 (.int .u8 0)).toArray) (t := 60) ?hr ?_; (case hd => rfl); (case hg => rfl); (case hr => first | (go_simp; done) | (go_simp; rfl)); intro gb hgb w5 hbox hb; have GEg := Aside0.mk ((by rw [hgb]; exact below_size HB.out) : w.heap.size ≤ gb); have NEcg := Aside0.mk ((by have := blk_lt BKc.out; omega) : gc ≠ gb); have NEpg := Aside0.mk ((by have := blk_lt BKp.out; omega) : gp ≠ gb); have NETg := Aside0.mk ((by have := HT.out.lt; omega) : gT ≠ gb); have n0_ : Aside0 (w5.heap[gc]? = some (.cells #[.int .i64 (cK : Int), .int .i64 (cM : Int), .int .i64 (cG : Int)] 29 (0, 0))) := ⟨blk_below BKc.out hb⟩; have n1_ : Aside0 (w5.heap[gp]? = some (.cells #[.pointer (some ⟨gT, 0, none⟩), .int .i64 (cK : Int), .int .i64 (cM : Int), .int .i64 (cG : Int), vG, .slice none 0 0] 55 (0, 0))) := ⟨blk_below BKp.out hb⟩; have n2_ : Aside0 (TabInv w5 gT 255) := ⟨HT.out.below hb⟩; have n3_ : Aside0 (((Kd.raw 33).R 60 w5 w.heap.size (fun k => (k ≠ gp ∧ k ≠ gc ∧ k ≠ gT) ∧ k ≠ gb) vG ((List.range i).map fun j => globAt cK j cK))) := ⟨Kd.R_mono (Kd.R_below (Kd.R_bound HR.out) hb) (fun k hk => ⟨hk.1, by have := hk.2.2.1; omega⟩)⟩; have n4_ : Aside0 (Below w.heap.size w w5) := ⟨below_step HB.out hb⟩; clear BKc BKp HT HR HB; have BKc := n0_; have BKp := n1_; have HT := n2_; have HR := n3_; have HB := n4_; clear n0_ n1_ n2_ n3_ n4_; have BKg := Aside0.mk hbox; clear hb hbox hgb) | ((with_reducible refine gate_store (t := 60) (p := 5) rfl ?_); (refine row_store (by rfl) 60 (.tmp 5) (.tmp 22) rfl rfl gb _ (globAt cK i 0).toArray (by rfl) (by kernel_rfl) BKg.out (by kernel_rfl) (by simp [globAt_len]) ?h1 ?_); (case h1 => exact globAt_one _ _ _); intro w6 hw6 hbg; have n0_ : Aside0 (w6.heap[gc]? = some (.cells #[.int .i64 (cK : Int), .int .i64 (cM : Int), .int .i64 (cG : Int)] 29 (0, 0))) := ⟨by rw [hw6]; exact (setRow_other _ _ _ _ NEcg.out).trans BKc.out⟩; have n1_ : Aside0 (w6.heap[gp]? = some (.cells #[.pointer (some ⟨gT, 0, none⟩), .int .i64 (cK : Int), .int .i64 (cM : Int), .int .i64 (cG : Int), vG, .slice none 0 0] 55 (0, 0))) := ⟨by rw [hw6]; exact (setRow_other _ _ _ _ NEpg.out).trans BKp.out⟩; have n2_ : Aside0 (TabInv w6 gT 255) := ⟨by rw [hw6]; exact HT.out.block (setRow_other _ _ _ _ NETg.out)⟩; have n3_ : Aside0 (((Kd.raw 33).R 60 w6 w.heap.size (fun k => (k ≠ gp ∧ k ≠ gc ∧ k ≠ gT) ∧ k ≠ gb) vG ((List.range i).map fun j => globAt cK j cK))) := ⟨by rw [hw6]; exact Kd.R_step HR.out (fun k ho _ => setRow_other _ _ _ _ ho.2)⟩; have n4_ : Aside0 (Below w.heap.size w w6) := ⟨by rw [hw6]; exact below_row HB.out GEg.out _⟩; clear BKc BKp HT HR HB; have BKc := n0_; have BKp := n1_; have HT := n2_; have HR := n3_; have HB := n4_; clear n0_ n1_ n2_ n3_ n4_; clear BKg hw6; have BKg := Aside0.mk hbg; clear hbg; have hcz6 : w6.cell? ⟨gc, 0, none⟩ = some (.int .i64 (cK : Int)) := (blk_cell BKc.out 0).trans rfl))
  go_loopw [25] (fun v25 wq => ∃ (j : Nat), j ≤ cK ∧ v25 = .int .i64 (j : Int) ∧ Aside0 (wq.heap[gc]? = some (.cells #[.int .i64 (cK : Int), .int .i64 (cM : Int), .int .i64 (cG : Int)] 29 (0, 0))) ∧ Aside0 (wq.heap[gp]? = some (.cells #[.pointer (some ⟨gT, 0, none⟩), .int .i64 (cK : Int), .int .i64 (cM : Int), .int .i64 (cG : Int), vG, .slice none 0 0] 55 (0, 0))) ∧ Aside0 (wq.heap[gb]? = some (.cells (globAt cK i j).toArray 60 (0, 0))) ∧ Aside0 ((Kd.raw 33).R 60 wq w.heap.size (fun k => (k ≠ gp ∧ k ≠ gc ∧ k ≠ gT) ∧ k ≠ gb) vG ((List.range i).map fun j => globAt cK j cK)) ∧ Aside0 (TabInv wq gT 255) ∧ Aside0 (Below w.heap.size w wq)) (fun v25 _ => cK - (intOf v25).toNat)
  case atStart => exact ⟨0, Nat.zero_le _, rfl, BKc, BKp, BKg, HR, HT, HB⟩
  case round =>
   clear BKc BKp BKg HR HT HB hcz6 hcz0
   obtain ⟨j, hj, rfl, BKc, BKp, BKg, HR, HT, HB⟩ := hrel
   by_cases hlj : j < cK
   ·
    have c1 : decide ((j : Int) < (cK : Int)) = true := decide_eq_true (by omega)
    have hj32 : (j : Int) < 32 := by omega
    have hxw : ((cK + i : Nat) : Int) = wrap64 ((cK : Int) + (i : Int)) := by unfold wrap64; omega
    obtain ⟨hx1, hx2⟩ := xor_nat (cK + i) j (by omega) (by omega)
    have hxe : IntKind.u8.wrap (Go.bits .xor .i64 (wrap64 ((cK : Int) + (i : Int))) (j : Int)) = ((xr (cK + i) j : Nat) : Int) := by rw [← hxw, IntKind.wrap_u8]; exact hx1
    clear hx1
    go_wp2
    have n0_ : Aside0 (wr.drew.heap[gc]? = some (.cells #[.int .i64 (cK : Int), .int .i64 (cM : Int), .int .i64 (cG : Int)] 29 (0, 0))) := ⟨blk_drew BKc.out⟩
    have n1_ : Aside0 (wr.drew.heap[gp]? = some (.cells #[.pointer (some ⟨gT, 0, none⟩), .int .i64 (cK : Int), .int .i64 (cM : Int), .int .i64 (cG : Int), vG, .slice none 0 0] 55 (0, 0))) := ⟨blk_drew BKp.out⟩
    have n2_ : Aside0 (wr.drew.heap[gb]? = some (.cells (globAt cK i j).toArray 60 (0, 0))) := ⟨blk_drew BKg.out⟩
    have n3_ : Aside0 (TabInv wr.drew gT 255) := ⟨HT.out.block rfl⟩
    have n4_ : Aside0 (((Kd.raw 33).R 60 wr.drew w.heap.size (fun k => (k ≠ gp ∧ k ≠ gc ∧ k ≠ gT) ∧ k ≠ gb) vG ((List.range i).map fun j => globAt cK j cK))) := ⟨Kd.R_drew HR.out⟩
    have n5_ : Aside0 (Below w.heap.size w wr.drew) := ⟨below_drew1 HB.out⟩
    clear BKc BKp BKg HT HR HB
    have BKc := n0_
    have BKp := n1_
    have BKg := n2_
    have HT := n3_
    have HR := n4_
    have HB := n5_
    clear n0_ n1_ n2_ n3_ n4_ n5_
    refine start_ (n := 16) (S := fun w' => w'.cell? ⟨gc, 0, none⟩ = some (.int .i64 (cK : Int)) ∧ w'.cell? ⟨gp, 0, none⟩ = some (.pointer (some ⟨gT, 0, none⟩))) (ds := [15]) zf44 (by kernel_rfl) rfl rfl ⟨(blk_cell BKc.out 0).trans rfl, (blk_cell BKp.out 0).trans rfl⟩ (fun hHeld => ?_)
    generalize wr.drew = w7 at BKc BKp BKg HT HR HB hHeld ⊢
    refine pure_ (i := 0) (N := some 28) (v := ?_) (a' := ?_) zf45 rfl rfl (by kernel_rfl) (fun _ _ _ h => h) (Or.inl ⟨by rfl, ?_⟩) ?_ ?_; rotate_left; intro w'; go_simp; with_reducible rfl; rotate_left; simp only [Cap.pz]; rfl
    refine pure_ (i := 1) (N := some 29) (v := ?_) (a' := ?_) zf128 rfl rfl (by kernel_rfl) (fun _ _ _ h => h) (Or.inl ⟨by rfl, ?_⟩) ?_ ?_; rotate_left; intro w'; go_simp; with_reducible rfl; rotate_left; simp only [Cap.pz]; rfl
    refine pure_ (i := 2) (N := some 30) (v := ?_) (a' := ?_) zf129 rfl rfl (by kernel_rfl) (fun _ _ _ h => h) (Or.inl ⟨by rfl, ?_⟩) ?_ ?_; rotate_left; intro w'; go_simp; with_reducible rfl; rotate_left; simp only [Cap.pz]; rfl
    refine pure_ (i := 3) (N := some 31) (v := ?_) (a' := ?_) zf130 rfl rfl (by kernel_rfl) (fun _ _ _ h => h) (Or.inl ⟨by rfl, ?_⟩) ?_ ?_; rotate_left; intro w'; go_simp; with_reducible rfl; rotate_left; simp only [Cap.pz]; rfl
    refine take_ (i := 4) (N := some 32) (v := ?_) (a' := ?_) zf131 rfl rfl (by kernel_rfl) (fun _ _ _ h => h) (Or.inl ⟨by rfl, ?_⟩) hHeld ?_ ?_; rotate_left; rintro w' ⟨s0, s1⟩; go_simp; with_reducible rfl; rotate_left; simp only [Cap.pz]; rfl
    refine pure_ (i := 5) (N := some 33) (v := ?_) (a' := ?_) zf132 rfl rfl (by kernel_rfl) (fun _ _ _ h => h) (Or.inl ⟨by rfl, ?_⟩) ?_ ?_; rotate_left; intro w'; go_simp; with_reducible rfl; rotate_left; simp only [Cap.pz]; rfl
    refine take_ (i := 6) (N := some 34) (v := ?_) (a' := ?_) zf133 rfl rfl (by kernel_rfl) (fun _ _ _ h => h) (Or.inl ⟨by rfl, ?_⟩) hHeld ?_ ?_; rotate_left; rintro w' ⟨s0, s1⟩; go_simp; with_reducible rfl; rotate_left; simp only [Cap.pz]; rfl
    refine pure_ (i := 7) (N := some 35) (v := ?_) (a' := ?_) zf134 rfl rfl (by kernel_rfl) (fun _ _ _ h => h) (Or.inl ⟨by rfl, ?_⟩) ?_ ?_; rotate_left; intro w'; go_simp; with_reducible rfl; rotate_left; simp only [Cap.pz]; rfl
    refine pure_ (i := 8) (N := some 36) (v := ?_) (a' := ?_) zf135 rfl rfl (by kernel_rfl) (fun _ _ _ h => h) (Or.inl ⟨by rfl, ?_⟩) ?_ ?_; rotate_left; intro w'; go_simp; with_reducible rfl; rotate_left; simp only [Cap.pz]; rfl
    refine pure_ (i := 9) (N := some 37) (v := ?_) (a' := ?_) zf136 rfl rfl (by kernel_rfl) (fun _ _ _ h => h) (Or.inl ⟨by rfl, ?_⟩) ?_ ?_; rotate_left; intro w'; go_simp; with_reducible rfl; rotate_left; simp only [Cap.pz]; rfl
    refine pure_ (i := 10) (N := some 38) (v := ?_) (a' := ?_) zf137 rfl rfl (by kernel_rfl) (fun _ _ _ h => h) (Or.inl ⟨by rfl, ?_⟩) ?_ ?_; rotate_left; intro w'; go_simp; with_reducible rfl; rotate_left; simp only [Cap.pz]; rfl
    refine pure_ (i := 11) (N := some 39) (v := ?_) (a' := ?_) zf56 rfl rfl (by kernel_rfl) (fun _ _ _ h => h) (Or.inl ⟨by rfl, ?_⟩) ?_ ?_; rotate_left; intro w'; go_simp; with_reducible rfl; rotate_left; simp only [Cap.pz]; rfl
    refine pure_ (i := 13) (N := some 41) (v := ?_) (a' := ?_) zf138 rfl rfl (by kernel_rfl) (fun _ _ _ h => h) (Or.inl ⟨by rfl, ?_⟩) ?_ ?_; rotate_left; intro w'; go_simp; with_reducible rfl; rotate_left; simp only [Cap.pz]; rfl
    refine one_ (i := 12) (N := some 40) zf58 rfl rfl (by kernel_rfl) (by decide) (fun Kq hK => ?_)
    refine goes_ Try.func27 (by kernel_rfl) rfl #[.pointer (some ⟨gT, 0, none⟩), .int .u8 ((xr (cK + i) j : Nat) : Int)] (by rfl) rfl rfl (by simp only [List.map_toArray, List.map_cons, List.map_nil]; rfl) ?_
    with_reducible refine (impl_tables8_inv.callsN gT (xr (cK + i) j) hx2 _ HT.out).mono ?_
    rintro e w' ⟨rfl, ⟨nd, rfl⟩⟩
    refine ⟨_, rfl, ?_⟩
    refine hK.out _ _ ⟨(blk_cell BKc.out 0).trans rfl, (blk_cell BKp.out 0).trans rfl⟩ (fun hHeld => ?_)
    clear hK Kq
    refine norm_ (a' := ?_) ?_ ?_; rotate_left; show Act.put _ (some 40) _ = _; simp only [Cap.pz]; rfl
    refine pure_ (i := 14) (N := some 42) (v := ?_) (a' := ?_) zf59 rfl rfl (by kernel_rfl) (fun _ _ _ h => h) (Or.inl ⟨by rfl, ?_⟩) ?_ ?_; rotate_left; intro w'; go_simp; with_reducible rfl; rotate_left; simp only [Cap.pz]; rfl
    refine last_ (i := 15) (N := none) zf60 rfl rfl (by kernel_rfl) (by decide) (fun Kq hK => ?_)
    obtain ⟨vq, hvq⟩ := globAt_get cK i j (1 + j) (by omega)
    have hcg : (w7.drewN nd).cell? ⟨gb, 1 + j, none⟩ = some vq := (blk_cell BKg.out (1 + j)).trans hvq
    have hfg := blk_frozen BKg.out (1 + j)
    refine skip_ (w1 := ?_) (by rfl) rfl ?_ ?_
    rotate_left
    ·
     go_simp
     rfl
    refine hK.out _ _ ?_
    clear hK Kq
    refine done_ (by kernel_rfl) ?_
    go_wp2
    refine ⟨⟨j + 1, by omega, by go_num, ⟨blk_far (blk_drewN BKc.out nd) NEcg.out _⟩, ⟨blk_far (blk_drewN BKp.out nd) NEpg.out _⟩, ⟨blk_put (blk_drewN BKg.out nd) (1 + j) _ (globAt_set cK i j (by omega))⟩, ⟨Kd.R_step (Kd.R_drewN HR.out nd) (fun k ho _ => Below.heap_setCell _ _ _ k ho.2)⟩, ⟨(HT.out.block (w' := w7.drewN nd) rfl).block (Below.heap_setCell _ _ _ gT NETg.out)⟩, ⟨below_set (pw_below_drewN HB.out nd) GEg.out⟩⟩, ?_⟩
    simp [intOf]; omega
   have c1 : decide ((j : Int) < (cK : Int)) = false := decide_eq_false (by omega)
   have ej : j = cK := by omega
   have nG_ : Aside0 (wr.heap[gb]? = some (.cells (globAt cK i cK).toArray 60 (0, 0))) := ⟨by have h := BKg.out; rwa [ej] at h⟩
   clear BKg
   have BKg := nG_
   clear nG_ ej
   go_wp2
   have n0_ : Aside0 (wr.drew.heap[gc]? = some (.cells #[.int .i64 (cK : Int), .int .i64 (cM : Int), .int .i64 (cG : Int)] 29 (0, 0))) := ⟨blk_drew BKc.out⟩
   have n1_ : Aside0 (wr.drew.heap[gp]? = some (.cells #[.pointer (some ⟨gT, 0, none⟩), .int .i64 (cK : Int), .int .i64 (cM : Int), .int .i64 (cG : Int), vG, .slice none 0 0] 55 (0, 0))) := ⟨blk_drew BKp.out⟩
   have n2_ : Aside0 (wr.drew.heap[gb]? = some (.cells (globAt cK i cK).toArray 60 (0, 0))) := ⟨blk_drew BKg.out⟩
   have n3_ : Aside0 (TabInv wr.drew gT 255) := ⟨HT.out.block rfl⟩
   have n4_ : Aside0 (((Kd.raw 33).R 60 wr.drew w.heap.size (fun k => (k ≠ gp ∧ k ≠ gc ∧ k ≠ gT) ∧ k ≠ gb) vG ((List.range i).map fun j => globAt cK j cK))) := ⟨Kd.R_drew HR.out⟩
   have n5_ : Aside0 (Below w.heap.size w wr.drew) := ⟨below_drew1 HB.out⟩
   clear BKc BKp BKg HT HR HB
   have BKc := n0_
   have BKp := n1_
   have BKg := n2_
   have HT := n3_
   have HR := n4_
   have HB := n5_
   clear n0_ n1_ n2_ n3_ n4_ n5_
   refine start_ (n := 11) (S := fun w' => w'.cell? ⟨gp, 4, none⟩ = some vG ∧ w'.heap[gb]? = some (.cells (globAt cK i cK).toArray 60 (0, 0))) (ds := [10]) zf83 (by kernel_rfl) rfl rfl ⟨(blk_cell BKp.out 4).trans rfl, BKg.out⟩ (fun hHeld => ?_)
   generalize wr.drew = w7 at BKc BKp BKg HT HR HB hHeld ⊢
   refine pure_ (i := 0) (N := some 44) (v := ?_) (a' := ?_) zf84 rfl rfl (by kernel_rfl) (fun _ _ _ h => h) (Or.inl ⟨by rfl, ?_⟩) ?_ ?_; rotate_left; intro w'; go_simp; with_reducible rfl; rotate_left; simp only [Cap.pz]; rfl
   refine pure_ (i := 1) (N := some 45) (v := ?_) (a' := ?_) zf139 rfl rfl (by kernel_rfl) (fun _ _ _ h => h) (Or.inl ⟨by rfl, ?_⟩) ?_ ?_; rotate_left; intro w'; go_simp; with_reducible rfl; rotate_left; simp only [Cap.pz]; rfl
   refine pure_ (i := 2) (N := some 46) (v := ?_) (a' := ?_) zf140 rfl rfl (by kernel_rfl) (fun _ _ _ h => h) (Or.inl ⟨by rfl, ?_⟩) ?_ ?_; rotate_left; intro w'; go_simp; with_reducible rfl; rotate_left; simp only [Cap.pz]; rfl
   refine pure_ (i := 3) (N := some 47) (v := ?_) (a' := ?_) zf141 rfl rfl (by kernel_rfl) (fun _ _ _ h => h) (Or.inl ⟨by rfl, ?_⟩) ?_ ?_; rotate_left; intro w'; go_simp; with_reducible rfl; rotate_left; simp only [Cap.pz]; rfl
   refine take_ (i := 4) (N := some 48) (v := ?_) (a' := ?_) zf142 rfl rfl (by kernel_rfl) (fun _ _ _ h => h) (Or.inl ⟨by rfl, ?_⟩) hHeld ?_ ?_; rotate_left; rintro w' ⟨s0, s1⟩; go_simp; with_reducible rfl; rotate_left; simp only [Cap.pz]; rfl
   refine take_ (i := 5) (N := some 49) (v := ?_) (a' := ?_) zf143 rfl rfl (by kernel_rfl) (fun _ _ _ h => h) (Or.inl ⟨by rfl, ?_⟩) hHeld ?_ ?_; rotate_left; rintro w' ⟨s0, s1⟩; refine row_load 60 (.tmp 5) ?ro gb _ ?rx (run_loadVar_row w' gb 60 60 _ (0, 0) _ s1 Try.underlying60 rfl (by kernel_rfl)); (case ro => rfl); (case rx => rfl); rotate_left; simp only [Cap.pz]; rfl
   refine one_ (i := 6) (N := some 50) zf91 rfl rfl (by kernel_rfl) (by decide) (fun Kq hK => ?_)
   refine value_ (w1 := ?_) (v := ?_) (by rfl) rfl ?_ ?_
   rotate_left 2
   ·
    go_simp
    rw [if_neg (by rw [globAt_len]; omega), fold_zip _ _ (by rw [globAt_len]; rfl)]
    go_simp
    constructor
    ·
     rfl
    ·
     rfl
   refine hK.out _ _ ⟨(blk_cell (blk_alloc BKp.out _) 4).trans rfl, blk_alloc BKg.out _⟩ (fun hHeld => ?_)
   clear hK Kq
   refine norm_ (a' := ?_) ?_ ?_; rotate_left; show Act.put _ (some 50) _ = _; simp only [Cap.pz]; rfl
   refine one_ (i := 7) (N := some 51) zf93 rfl rfl (by kernel_rfl) (by decide) (fun Kq hK => ?_)
   refine Kd.R_append_step (Kd.raw 33) (w0 := w) w.heap.size (by rfl) (.tmp 48) (.tmp 50) 52 60 (.agg (Value.int .i64 0 :: List.replicate 32 (.int .u8 0)).toArray) 40 rfl Try.underlying52 (by kernel_rfl) rfl (by decide) (by omega) vG ((List.range i).map fun j => globAt cK j cK) (globAt cK i cK) (globAt cK i cK) (fun k => k ≠ gp ∧ k ≠ gc ∧ k ≠ gT) (fun _ => False) rfl rfl ?aP (fun _ hk => hk.elim) ?aF ?aO ?aB ?aS ?aL ?_
   (case aP => exact ⟨rfl, globAt_len _ _ _, by simpa using globAt_one cK i cK⟩)
   (case aB => exact HB.out)
   (case aF => exact (fun k hk => by have h1 := blk_lt BKp.out; have h2 := blk_lt BKc.out; have h3 := HT.out.lt; omega))
   (case aO => exact Kd.R_mono HR.out (fun k h => h.1))
   (case aS => exact below_size HB.out)
   (case aL => simp; omega)
   intro vG2 w8 ho hb hg hat
   have nP_ : some gp ≠ vG.ownBlock := fun e => (HR.out.1 gp e.symm).1.1 rfl
   have nC_ : some gc ≠ vG.ownBlock := fun e => (HR.out.1 gc e.symm).1.2.1 rfl
   have nT_ : some gT ≠ vG.ownBlock := fun e => (HR.out.1 gT e.symm).1.2.2 rfl
   have nB_ : some gb ≠ vG.ownBlock := fun e => (HR.out.1 gb e.symm).2 rfl
   have er_ : ((List.range i).map fun j => globAt cK j cK) ++ [globAt cK i cK] = (List.range (i + 1)).map fun j => globAt cK j cK := by rw [List.range_succ, List.map_append]; rfl
   rw [er_] at ho
   have n0_ : Aside0 (w8.heap[gc]? = some (.cells #[.int .i64 (cK : Int), .int .i64 (cM : Int), .int .i64 (cG : Int)] 29 (0, 0))) := ⟨blk_grown BKc.out hg nC_⟩
   have n1_ : Aside0 (w8.heap[gp]? = some (.cells #[.pointer (some ⟨gT, 0, none⟩), .int .i64 (cK : Int), .int .i64 (cM : Int), .int .i64 (cG : Int), vG, .slice none 0 0] 55 (0, 0))) := ⟨blk_grown BKp.out hg nP_⟩
   have n2_ : Aside0 (w8.heap[gb]? = some (.cells (globAt cK i cK).toArray 60 (0, 0))) := ⟨blk_grown BKg.out hg nB_⟩
   have n3_ : Aside0 (TabInv w8 gT 255) := ⟨HT.out.block (hg.block gT HT.out.lt nT_)⟩
   have n4_ : Aside0 (((Kd.raw 33).R 60 w8 w.heap.size (fun k => k ≠ gp ∧ k ≠ gc ∧ k ≠ gT) vG2 ((List.range (i + 1)).map fun j => globAt cK j cK))) := ⟨ho⟩
   have n5_ : Aside0 (Below w.heap.size w w8) := ⟨hb⟩
   clear BKc BKp BKg HT HR HB
   have BKc := n0_
   have BKp := n1_
   have BKg := n2_
   have HT := n3_
   have HR := n4_
   have HB := n5_
   clear n0_ n1_ n2_ n3_ n4_ n5_
   clear ho hb hg hat nP_ nC_ nT_ nB_ er_
   obtain ⟨AG2, cG2, eG2⟩ := Kd.R_slice HR.out
   rw [show ((List.range (i + 1)).map fun j => globAt cK j cK).length = i + 1 by simp] at eG2
   subst eG2
   refine hK.out _ _ ⟨(blk_cell BKp.out 4).trans rfl, BKg.out⟩ (fun hHeld => ?_)
   clear hK Kq
   refine norm_ (a' := ?_) ?_ ?_; rotate_left; show Act.put _ (some 51) _ = _; simp only [Cap.pz]; rfl
   refine pure_ (i := 8) (N := some 52) (v := ?_) (a' := ?_) zf95 rfl rfl (by kernel_rfl) (fun _ _ _ h => h) (Or.inl ⟨by rfl, ?_⟩) ?_ ?_; rotate_left; intro w'; go_simp; with_reducible rfl; rotate_left; simp only [Cap.pz]; rfl
   refine pure_ (i := 9) (N := some 53) (v := ?_) (a' := ?_) zf90 rfl rfl (by kernel_rfl) (fun _ _ _ h => h) (Or.inl ⟨by rfl, ?_⟩) ?_ ?_; rotate_left; intro w'; go_simp; with_reducible rfl; rotate_left; simp only [Cap.pz]; rfl
   refine last_ (i := 10) (N := none) zf97 rfl rfl (by kernel_rfl) (by decide) (fun Kq hK => ?_)
   have hcs : w8.cell? ⟨gp, 4, none⟩ = some vG := (blk_cell BKp.out 4).trans rfl
   have hfs := blk_frozen BKp.out 4
   refine skip_ (w1 := ?_) (by rfl) rfl ?_ ?_
   rotate_left
   ·
    go_simp
    rfl
   refine hK.out _ _ ?_
   clear hK Kq
   refine done_ (by kernel_rfl) ?_
   go_wp2
   refine ⟨⟨i + 1, _, by omega, by go_num, ⟨blk_far BKc.out NEc.out _⟩, ⟨blk_put BKp.out 4 _ rfl⟩, ⟨Kd.R_step HR.out (fun k ho _ => Below.heap_setCell _ _ _ k ho.1)⟩, ⟨HT.out.block (Below.heap_setCell _ _ _ gT NET.out)⟩, ⟨below_set HB.out GEp.out⟩⟩, ?_⟩
   simp [intOf]; omega
theorem impl_newPlant.calls (K M G : Int) (r : Int) (w : World) (h : impl_newPlant.f K M G = some r) :
  Calls Try.prog 19 #[.agg #[.int .i64 K, .int .i64 M, .int .i64 G]] w fun e w' => ∃ g, e = .returned (.pointer (some ⟨g, 0, none⟩)) ∧ w.heap.size ≤ g ∧ PlantAt w' g r ∧ Below w.heap.size w w' := by
 unfold impl_newPlant.f at h
 by_cases hc : 1 ≤ K ∧ K ≤ 32 ∧ 0 ≤ M ∧ M ≤ 16 ∧ 0 ≤ G ∧ G ≤ 32
 rotate_left
 ·
  rw [if_neg hc] at h
  exact absurd h (by simp)
 rw [if_pos hc] at h
 obtain rfl := Option.some.inj h
 obtain ⟨h1, h2, h3, h4, h5, h6⟩ := hc
 obtain ⟨K, rfl⟩ := Int.eq_ofNat_of_zero_le (show 0 ≤ K by omega)
 obtain ⟨M, rfl⟩ := Int.eq_ofNat_of_zero_le h3
 obtain ⟨G, rfl⟩ := Int.eq_ofNat_of_zero_le h5
 obtain ⟨e1, e2, e3⟩ := plantNo_of K M G (by omega) (by omega) (by omega)
 refine (impl_newPlant.callsN K M G (by omega) (by omega) (by omega) w).mono ?_
 rintro e w' ⟨g, he, hg, hp, hb⟩
 exact ⟨g, he, hg, ⟨by omega, by omega, by omega, by omega, by rw [e1, e2, e3]; exact hp⟩, hb⟩

end Go.Proofs.Yteflpfkfmohenaa.QFnExactRepairPlan
