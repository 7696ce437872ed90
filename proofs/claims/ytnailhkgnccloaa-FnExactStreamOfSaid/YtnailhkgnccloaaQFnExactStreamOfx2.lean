-- A text of this session, printed by a program of its own (wip/tools: xpatch.py, xprint.sh, mkq.py). No condition.
import Derived.Test.YtnailhkgnccloaaQFnExactStreamOfx0
import Derived.Test.YtnailhkgnccloaaQFnExactStreamOfx1
namespace Go.Proofs.Ytnailhkgnccloaa.QFnExactStreamOf
open Go.RowKit Go.Proofs.YtnailhkgnccloaaW.PrintWords Go.Proofs.YtnailhkgnccloaaW.PrintLast Go.Proofs.YtnailhkgnccloaaW.PrintMore
attribute [local go_sem] max2_int min2_int max_two min_two max_three min_three max_four min_four   -- for this text's walks alone
set_option linter.unusedVariables false
set_option linter.unusedSimpArgs false

/-! ### impl_stream: function 86 -/
/-- The number with which a stream begins: the sum of the key and the nonce. -/
def impl_stream.f (k : Nat) (a0 : ByteArray) (a1 : Int) : Option (Int) := (impl_PutNum.f k a1).bind fun t1 => (if a0.size + t1.size ≤ 9223372036854775807 then (impl_SumOf.f k (a0 ++ t1) 7) else (none))
theorem impl_stream.mono : ∀ a0 a1 k, LeO (impl_stream.f k a0 a1) (impl_stream.f (k + 1) a0 a1) := by
  intro a0 a1 k
  unfold impl_stream.f
  repeat' first
      | (with_reducible exact impl_PutNum.mono _ _)
      | (with_reducible exact impl_SumOf.mono _ _ _)
      | (with_reducible exact LeO.refl _)
      | (with_reducible exact LeO.none _)
      | (with_reducible refine LeO.ite ?_ ?_)
      | (with_reducible refine LeO.bind ?_ (fun _ => ?_))
      | exact impl_PutNum.mono _ _
      | exact impl_SumOf.mono _ _ _
      | exact LeO.none _
      | refine LeO.ite ?_ ?_
      | refine LeO.bind ?_ (fun _ => ?_)
/-- The stream's next number. -/
def cvNext (x : Int) : Int := Int.tmod (wrap64 (x * 48271)) 2147483647
/-- The byte of a number of the stream. -/
def cvByte (x : Int) : Int := (wrap64 (Int.tdiv x 256)) % 256
/-- The stream's numbers. -/
def cvAt (x : Int) : Nat → Int
  | 0 => x
  | i + 1 => cvNext (cvAt x i)
set_option maxHeartbeats 8000000 in
set_option maxRecDepth 100000 in
/-- The closure, called once: its number goes on by one. -/
theorem impl_stream1.calls (g : Nat) (x : Int) (w : World) (hc : w.cell? ⟨g, 0, none⟩ = some (.int .i64 x)) (hf : w.frozen? ⟨g, 0, none⟩ = false) :
    Calls Try.prog 91 #[.pointer (some ⟨g, 0, none⟩)] w fun e w' => e = .returned (.int .u8 (cvByte (cvNext x))) ∧ w' = w.setCell ⟨g, 0, none⟩ (.int .i64 (cvNext x)) := by
  go_enter Try.func91, Try.ntmps91
  go_wp2
  go_ret
  exact ⟨rfl, rfl⟩
set_option maxHeartbeats 8000000 in
set_option maxRecDepth 100000 in
theorem impl_stream.calls (k : Nat) (a0 : ByteArray) (a1 : Int) (r : Int) (w : World) (h : impl_stream.f k a0 a1 = some r) :
    Calls Try.prog 86 #[.string a0, .int .i64 a1] w fun e w' => ∃ g, e = .returned (.func (.func 91) #[] #[.pointer (some ⟨g, 0, none⟩)]) ∧ w.heap.size ≤ g ∧ w'.cell? ⟨g, 0, none⟩ = some (.int .i64 r) ∧ w'.frozen? ⟨g, 0, none⟩ = false ∧ Below w.heap.size w w' := by
  have hmf : ∀ (fn : Fn) (first cap : Array Value) (w : World), (Instr.makeFunc fn first cap).run Try.prog w = .ok (.func fn first cap) w := fun _ _ _ _ => rfl
  have HB := Aside0.mk (Below.refl w.heap.size w)
  have H : ((impl_PutNum.f k a1).bind fun t1 => (if a0.size + t1.size ≤ 9223372036854775807 then (impl_SumOf.f k (a0 ++ t1) 7) else (none))) = some r := h
  clear h
  replace H := Option.bind_eq_some_iff.mp H
  obtain ⟨t1, A10, H⟩ := H
  replace H : (if a0.size + t1.size ≤ 9223372036854775807 then (impl_SumOf.f k (a0 ++ t1) 7) else (none)) = some r := H
  have A1 := Aside0.mk A10
  clear A10
  by_cases c9 : a0.size + t1.size ≤ 9223372036854775807
  · rw [if_pos c9] at H
    have c9b0 := eq_true c9
    have c9b1 : decide (a0.size + t1.size ≤ 9223372036854775807) = true := decide_eq_true c9
    try have c9b2 : (9223372036854775807 < a0.size + t1.size) = False := eq_false (Nat.not_lt.2 c9)
    have A2 := Aside0.mk H
    clear H
    go_enter Try.func86, Try.ntmps86
    go_wp2_with (first | (go_at_call 53; (with_reducible refine (impl_PutNum.calls k a1 t1 _ A1.out).mono ?_); rintro e w13 ⟨rfl, hb⟩; have hc1 : ∀ nd, ((w13.drewN nd).alloc (Obj.cells #[Value.int IntKind.i64 0] 2)).cell? ⟨w13.heap.size, 0, none⟩ = some (.int .i64 0) := fun nd => cell_of_one (heap_alloc_new (w13.drewN nd) _); have hf1 : ∀ nd, ((w13.drewN nd).alloc (Obj.cells #[Value.int IntKind.i64 0] 2)).frozen? ⟨w13.heap.size, 0, none⟩ = false := fun nd => free_of_one (heap_alloc_new (w13.drewN nd) _)) | (go_at_call 52; (with_reducible refine (impl_SumOf.calls k (a0 ++ t1) 7 r _ A2.out).mono ?_); rintro e w' ⟨rfl, ⟨nd, rfl⟩⟩))
    go_ret
    refine ⟨w13.heap.size, rfl, hb.size, World.cell?_setCell_same _ _ _ (hc1 nd), (World.frozen?_setCell _ _ _ _).trans (hf1 nd), ?_⟩
    exact (below_alloc (pw_below_drewN hb nd) _).setCell hb.size _
  · rw [if_neg c9] at H
    exact absurd H (by simp)

/-! ### impl_covered: function 71 -/
/-- A byte of a text under the stream. -/
def cvOut (s : ByteArray) (x : Int) (j : Nat) : Int := Go.bits .xor .u8 (bt s (j : Int)) (cvByte (cvAt x (j + 1)))
def cvText (s : ByteArray) (x : Int) : ByteArray := strOfNums ((List.range s.size).map (cvOut s x))
def impl_covered.f (k : Nat) (a0 : ByteArray) (a1 : ByteArray) (a2 : Int) : Option (ByteArray) := (impl_stream.f k a1 a2).bind fun x => (if a0.size < 9223372036854775807 then (some (cvText a0 x)) else (none))
theorem impl_covered.mono : ∀ a0 a1 a2 k, LeO (impl_covered.f k a0 a1 a2) (impl_covered.f (k + 1) a0 a1 a2) := by
  intro a0 a1 a2 k
  unfold impl_covered.f
  repeat' first
      | (with_reducible exact impl_stream.mono _ _ _)
      | (with_reducible exact LeO.refl _)
      | (with_reducible exact LeO.none _)
      | (with_reducible refine LeO.ite ?_ ?_)
      | (with_reducible refine LeO.bind ?_ (fun _ => ?_))
      | exact impl_stream.mono _ _ _
      | exact LeO.none _
      | refine LeO.ite ?_ ?_
      | refine LeO.bind ?_ (fun _ => ?_)
/-- Behind i rounds: the closure's number, and the row's cells. -/
structure CovInv (w wr : World) (g b : Nat) (s : ByteArray) (x : Int) (i : Nat) : Prop where
  num : wr.cell? ⟨g, 0, none⟩ = some (.int .i64 (cvAt x i))
  numf : wr.frozen? ⟨g, 0, none⟩ = false
  cell : ∀ j, j < s.size → wr.cell? ⟨b, j, none⟩ = some (.int .u8 (if j < i then cvOut s x j else bt s (j : Int)))
  free : ∀ j, j < s.size → wr.frozen? ⟨b, j, none⟩ = false
  bel : Below w.heap.size w wr
theorem CovInv.step {w wr : World} {g b : Nat} {s : ByteArray} {x : Int} {i : Nat} (h : CovInv w wr g b s x i) (hg : w.heap.size ≤ g) (hb : w.heap.size ≤ b) (hgb : g ≠ b) (hi : i < s.size) :
    CovInv w ((wr.setCell ⟨g, 0, none⟩ (.int .i64 (cvNext (cvAt x i)))).setCell ⟨b, i, none⟩ (.int .u8 (Go.bits .xor .u8 (bt s (i : Int)) (cvByte (cvNext (cvAt x i)))))) g b s x (i + 1) where
  num := (World.cell?_setCell_far _ _ _ _ (fun e => hgb e.symm)).trans (World.cell?_setCell_same _ _ _ h.num)
  numf := (World.frozen?_setCell _ _ _ _).trans ((World.frozen?_setCell _ _ _ _).trans h.numf)
  cell := fun j hj => by
    have h0 : (wr.setCell ⟨g, 0, none⟩ (.int .i64 (cvNext (cvAt x i)))).cell? ⟨b, j, none⟩ = some (.int .u8 (if j < i then cvOut s x j else bt s (j : Int))) :=
      (World.cell?_setCell_far _ _ _ _ hgb).trans (h.cell j hj)
    by_cases e : j = i
    · subst e
      rw [if_pos (by omega)]
      exact World.cell?_setCell_same _ _ _ h0
    · rw [World.cell?_setCell_other _ _ _ _ (fun e' => e (by injection e' with _ e2 _; exact e2.symm)), h0]
      by_cases h1 : j < i
      · rw [if_pos h1, if_pos (by omega)]
      · rw [if_neg h1, if_neg (by omega)]
  free := fun j hj => (World.frozen?_setCell _ _ _ _).trans ((World.frozen?_setCell _ _ _ _).trans (h.free j hj))
  bel := (h.bel.setCell hg _).setCell hb _
/-- The conversion's row, as the loop begins. -/
theorem CovInv.start {w w1 : World} {g : Nat} (s : ByteArray) (x : Int) (hb : Below w.heap.size w w1) (hc : w1.cell? ⟨g, 0, none⟩ = some (.int .i64 x)) (hf : w1.frozen? ⟨g, 0, none⟩ = false) :
    CovInv w (Lib.bytesWorld w1 5 s) g w1.heap.size s x 0 where
  num := (Lib.bytesWorld_old w1 5 s _ (World.block_lt_of_cell? w1 _ hc)).trans hc
  numf := (World.frozen?_of_block (Lib.bytesWorld_at_old w1 5 s _ (World.block_lt_of_cell? w1 _ hc))).trans hf
  cell := fun j hj => by
    rw [Lib.bytesWorld_cell w1 5 s j hj, if_neg (by omega)]
    have e : (s.data.toList.getD j 0).toNat = bt s (j : Int) := by
      unfold bt
      rw [dif_pos (by simpa using hj)]
      simp [List.getD, ByteArray.getElem_eq_getElem_data, hj]
    rw [← e]
  free := fun j hj => by
    have h := Lib.bytesWorld_at_new w1 5 s
    have hs : s.size ≤ (Lib.bytesCells w1 5 s).size := by unfold Lib.bytesCells; simp
    simp [World.frozen?, h]
    omega
  bel := ⟨hb.os, hb.tape, hb.output, Nat.le_trans hb.size (by rw [Lib.bytesWorld_size]; omega), fun k hk => (Lib.bytesWorld_at_old w1 5 s k (Nat.lt_of_lt_of_le hk hb.size)).trans (hb.block k hk)⟩
set_option maxHeartbeats 8000000 in
set_option maxRecDepth 100000 in
theorem impl_covered.calls (k : Nat) (a0 : ByteArray) (a1 : ByteArray) (a2 : Int) (r : ByteArray) (w : World) (h : impl_covered.f k a0 a1 a2 = some r) :
    Calls Try.prog 71 #[.string a0, .string a1, .int .i64 a2] w fun e w' => e = .returned (.string r) ∧ Below w.heap.size w w' := by
  have H : ((impl_stream.f k a1 a2).bind fun x => (if a0.size < 9223372036854775807 then (some (cvText a0 x)) else (none))) = some r := h
  clear h
  replace H := Option.bind_eq_some_iff.mp H
  obtain ⟨x0, A10, H⟩ := H
  replace H : (if a0.size < 9223372036854775807 then (some (cvText a0 x0)) else (none)) = some r := H
  have A1 := Aside0.mk A10
  clear A10
  by_cases hsz : a0.size < 9223372036854775807
  case neg => rw [if_neg hsz] at H; exact absurd H (by simp)
  rw [if_pos hsz] at H
  obtain rfl := Option.some.inj H
  clear H
  have hcv := fun W : World => Lib.run_convert_string_bytes (P := Try.prog) W 9 62 5 a0 Try.underlying9 Try.underlying62 Try.underlying5
  go_enter Try.func71, Try.ntmps71
  go_wp2_with (first | (go_at_call 86; (with_reducible refine (impl_stream.calls k a1 a2 x0 _ A1.out).mono ?_); rintro e w1 ⟨g, rfl, hg, hc, hf, hb⟩; have HS := Aside0.mk (CovInv.start a0 x0 hb hc hf)))
  have hbb := hb.size
  have hgb : g ≠ w1.heap.size := Nat.ne_of_lt (World.block_lt_of_cell? w1 _ hc)
  clear hc hf hb hcv
  generalize w1.heap.size = b at *
  generalize grownCap w1 a0.size 0 5 = cap
  go_loopw [17] (fun v17 wr => ∃ i : Nat, i ≤ a0.size ∧ v17 = .int .i64 (i : Int) ∧ Aside0 (CovInv w wr g b a0 x0 i)) (fun v17 _ => a0.size - (intOf v17).toNat)
  case atStart => exact ⟨0, Nat.zero_le _, rfl, HS⟩
  case round =>
    clear HS
    obtain ⟨i, hi, rfl, HI⟩ := hrel
    by_cases hlt : i < a0.size
    · have HD : CovInv w wr.drew g b a0 x0 i := ⟨HI.out.num, HI.out.numf, HI.out.cell, HI.out.free, HI.out.bel.drew⟩
      have hstep := HD.step hg hbb hgb hlt
      have hci : wr.drew.cell? ⟨b, i, none⟩ = some (.int .u8 (bt a0 (i : Int))) := by have := HD.cell i hlt; rwa [if_neg (Nat.lt_irrefl i)] at this
      have hfi : wr.drew.frozen? ⟨b, i, none⟩ = false := HD.free i hlt
      have hcg : wr.drew.cell? ⟨g, 0, none⟩ = some (.int .i64 (cvAt x0 i)) := HD.num
      have hfg : wr.drew.frozen? ⟨g, 0, none⟩ = false := HD.numf
      have hltI : (i : Int) < (a0.size : Int) := by omega
      have hci2 : (wr.drew.setCell ⟨g, 0, none⟩ (.int .i64 (cvNext (cvAt x0 i)))).cell? ⟨b, i, none⟩ = some (.int .u8 (bt a0 (i : Int))) := (World.cell?_setCell_far _ _ _ _ hgb).trans hci
      have hfi2 : (wr.drew.setCell ⟨g, 0, none⟩ (.int .i64 (cvNext (cvAt x0 i)))).frozen? ⟨b, i, none⟩ = false := (World.frozen?_setCell _ _ _ _).trans hfi
      have hci3 : (wr.setCell ⟨g, 0, none⟩ (.int .i64 (cvNext (cvAt x0 i)))).cell? ⟨b, i, none⟩ = some (.int .u8 (bt a0 (i : Int))) := hci2
      have hfi3 : (wr.setCell ⟨g, 0, none⟩ (.int .i64 (cvNext (cvAt x0 i)))).frozen? ⟨b, i, none⟩ = false := hfi2
      have hci4 : wr.cell? ⟨b, i, none⟩ = some (.int .u8 (bt a0 (i : Int))) := hci
      have hfi4 : wr.frozen? ⟨b, i, none⟩ = false := hfi
      clear HI HD
      replace hstep := Aside0.mk hstep
      go_wp2
      go_region_with (go_at_call 91; (with_reducible refine (impl_stream1.calls g (cvAt x0 i) _ hcg hfg).mono ?_); rintro e w' ⟨rfl, rfl⟩)
      all_goals
        have hwi : IntKind.i64.wrap ((i : Int) + 1) = ((i + 1 : Nat) : Int) := by rw [IntKind.wrap_i64]; omega
        go_wp2
        go_roundw
        case rel => exact ⟨i + 1, by omega, rfl, hstep⟩
        case measure => simp [intOf]; omega
    · have hei : i = a0.size := by omega
      have hltI : ¬ (i : Int) < (a0.size : Int) := by omega
      have hxs : ∀ j, j < a0.size → wr.cell? ((⟨b, 0, none⟩ : Addr).add j) = some (.int .u8 (((List.range a0.size).map (cvOut a0 x0)).getD j 0)) := fun j hj => by
        have h := HI.out.cell j hj
        rw [if_pos (by omega)] at h
        rw [add_plain, h]
        congr 2
        simp [List.getD, List.getElem?_map, List.getElem?_range hj]
      have hback := run_convert_bytes_arg (P := Try.prog) wr 62 5 Try.underlying62 Try.underlying5 b 0 a0.size cap ((List.range a0.size).map (cvOut a0 x0)) (by simp) (fun j hj => by have := hxs j hj; rw [add_plain] at this; rw [Nat.zero_add]; exact this) 9 Try.underlying9
      have hbel := Aside0.mk HI.out.bel
      clear hxs HI
      go_wp2
      go_ret
      exact ⟨rfl, hbel.out⟩

/-! ### impl_StreamOf: function 37 -/
def impl_StreamOf.f (k : Nat) (a0 : ByteArray) (a1 : Int) (a2 : Int) : Option (ByteArray) := (impl_isKey.f a0).bind fun t128 => (if t128 = true then (if a1 < 0 then (some (⟨#[]⟩ : ByteArray)) else (if a2 < 0 then (some (⟨#[]⟩ : ByteArray)) else (if a2 > 200000 then (some (⟨#[]⟩ : ByteArray)) else (if 0 ≤ a2 then (if (a2 : Int).toNat ≤ 281474976710656 then ((impl_covered.f k (strOfNums (List.replicate (a2 : Int).toNat 0)) a0 a1).bind fun t132 => (some t132)) else (none)) else (none))))) else (some (⟨#[]⟩ : ByteArray)))
theorem impl_StreamOf.mono : ∀ a0 a1 a2 k, LeO (impl_StreamOf.f k a0 a1 a2) (impl_StreamOf.f (k + 1) a0 a1 a2) := by
  intro a0 a1 a2 k
  unfold impl_StreamOf.f
  repeat' first
      | (with_reducible exact impl_covered.mono _ _ _ _)
      | (with_reducible exact LeO.refl _)
      | (with_reducible exact LeO.none _)
      | (with_reducible refine LeO.ite ?_ ?_)
      | (with_reducible refine LeO.bind ?_ (fun _ => ?_))
      | exact impl_covered.mono _ _ _ _
      | exact LeO.none _
      | refine LeO.ite ?_ ?_
      | refine LeO.bind ?_ (fun _ => ?_)
set_option maxHeartbeats 8000000 in
set_option maxRecDepth 100000 in
theorem impl_StreamOf.calls (k : Nat) (a0 : ByteArray) (a1 : Int) (a2 : Int) (r : ByteArray) (w : World) (h : impl_StreamOf.f k a0 a1 a2 = some r) :
    Calls Try.prog 37 #[.string a0, .int .i64 a1, .int .i64 a2] w fun e w' => e = .returned (.string r) ∧ Below w.heap.size w w' := by
  have HB := Aside0.mk (Below.refl w.heap.size w)
  have H : ((impl_isKey.f a0).bind fun t128 => (if t128 = true then (if a1 < 0 then (some (⟨#[]⟩ : ByteArray)) else (if a2 < 0 then (some (⟨#[]⟩ : ByteArray)) else (if a2 > 200000 then (some (⟨#[]⟩ : ByteArray)) else (if 0 ≤ a2 then (if (a2 : Int).toNat ≤ 281474976710656 then ((impl_covered.f k (strOfNums (List.replicate (a2 : Int).toNat 0)) a0 a1).bind fun t132 => (some t132)) else (none)) else (none))))) else (some (⟨#[]⟩ : ByteArray)))) = some r := h
  clear h
  replace H := Option.bind_eq_some_iff.mp H
  obtain ⟨t128, A40, H⟩ := H
  replace H : (if t128 = true then (if a1 < 0 then (some (⟨#[]⟩ : ByteArray)) else (if a2 < 0 then (some (⟨#[]⟩ : ByteArray)) else (if a2 > 200000 then (some (⟨#[]⟩ : ByteArray)) else (if 0 ≤ a2 then (if (a2 : Int).toNat ≤ 281474976710656 then ((impl_covered.f k (strOfNums (List.replicate (a2 : Int).toNat 0)) a0 a1).bind fun t132 => (some t132)) else (none)) else (none))))) else (some (⟨#[]⟩ : ByteArray))) = some r := H
  have A4 := Aside0.mk A40
  clear A40
  by_cases c5 : t128 = true
  · subst c5
    have H1 : (if a1 < 0 then (some (⟨#[]⟩ : ByteArray)) else (if a2 < 0 then (some (⟨#[]⟩ : ByteArray)) else (if a2 > 200000 then (some (⟨#[]⟩ : ByteArray)) else (if 0 ≤ a2 then (if (a2 : Int).toNat ≤ 281474976710656 then ((impl_covered.f k (strOfNums (List.replicate (a2 : Int).toNat 0)) a0 a1).bind fun t132 => (some t132)) else (none)) else (none))))) = some r := by rw [if_pos rfl] at H; exact H
    clear H
    have H := H1
    clear H1
    by_cases c6 : a1 < 0
    · rw [if_pos c6] at H
      have c6b0 : decide (a1 < 0) = true := decide_eq_true c6
      clear c6
      obtain rfl := Option.some.inj H
      go_enter Try.func37, Try.ntmps37
      go_wp2_with (first | ((with_reducible refine gate_callee (f := 70) rfl ?_); refine goesL_ (some 8) rfl rfl Try.func70 (by kernel_rfl) rfl #[.string a0] rfl (by (try simp only [List.map_toArray, List.map_cons, List.map_nil]); first | done | rfl | (simp only [List.length_drop, List.length_take]; rfl)) ?_; (with_reducible refine (impl_isKey.calls a0 true _ A4.out).mono ?_); rintro e w' ⟨rfl, ⟨nd, rfl⟩⟩; refine ⟨_, rfl, ?_⟩))
      go_ret
      exact ⟨by first | rfl | (simp [errW_none, errW_some] <;> rfl) | (simp [*, errW_none, errW_some] <;> rfl), by repeat (first | (with_reducible first | exact HB.out | apply below_alloc | apply pw_below_drewN | apply below_drew1) | exact HB.out)⟩
    · rw [if_neg c6] at H
      have c6b0 : decide (a1 < 0) = false := decide_eq_false c6
      clear c6
      by_cases c7 : a2 < 0
      · rw [if_pos c7] at H
        have c7b0 : decide (a2 < 0) = true := decide_eq_true c7
        clear c7
        obtain rfl := Option.some.inj H
        go_enter Try.func37, Try.ntmps37
        go_wp2_with (first | ((with_reducible refine gate_callee (f := 70) rfl ?_); refine goesL_ (some 8) rfl rfl Try.func70 (by kernel_rfl) rfl #[.string a0] rfl (by (try simp only [List.map_toArray, List.map_cons, List.map_nil]); first | done | rfl | (simp only [List.length_drop, List.length_take]; rfl)) ?_; (with_reducible refine (impl_isKey.calls a0 true _ A4.out).mono ?_); rintro e w' ⟨rfl, ⟨nd, rfl⟩⟩; refine ⟨_, rfl, ?_⟩))
        go_ret
        exact ⟨by first | rfl | (simp [errW_none, errW_some] <;> rfl) | (simp [*, errW_none, errW_some] <;> rfl), by repeat (first | (with_reducible first | exact HB.out | apply below_alloc | apply pw_below_drewN | apply below_drew1) | exact HB.out)⟩
      · rw [if_neg c7] at H
        have c7b0 : decide (a2 < 0) = false := decide_eq_false c7
        clear c7
        by_cases c8 : a2 > 200000
        · rw [if_pos c8] at H
          have c8b0 : decide (200000 < a2) = true := decide_eq_true c8
          clear c8
          obtain rfl := Option.some.inj H
          go_enter Try.func37, Try.ntmps37
          go_wp2_with (first | ((with_reducible refine gate_callee (f := 70) rfl ?_); refine goesL_ (some 8) rfl rfl Try.func70 (by kernel_rfl) rfl #[.string a0] rfl (by (try simp only [List.map_toArray, List.map_cons, List.map_nil]); first | done | rfl | (simp only [List.length_drop, List.length_take]; rfl)) ?_; (with_reducible refine (impl_isKey.calls a0 true _ A4.out).mono ?_); rintro e w' ⟨rfl, ⟨nd, rfl⟩⟩; refine ⟨_, rfl, ?_⟩))
          go_ret
          exact ⟨by first | rfl | (simp [errW_none, errW_some] <;> rfl) | (simp [*, errW_none, errW_some] <;> rfl), by repeat (first | (with_reducible first | exact HB.out | apply below_alloc | apply pw_below_drewN | apply below_drew1) | exact HB.out)⟩
        · rw [if_neg c8] at H
          have c8b0 : decide (200000 < a2) = false := decide_eq_false c8
          clear c8
          by_cases c9 : 0 ≤ a2
          · rw [if_pos c9] at H
            have c9b0 := eq_true c9
            have c9b1 : decide (0 ≤ a2) = true := decide_eq_true c9
            clear c9
            by_cases c10 : (a2 : Int).toNat ≤ 281474976710656
            · rw [if_pos c10] at H
              have c10b0 := eq_true c10
              have c10b1 : decide ((a2 : Int).toNat ≤ 281474976710656) = true := decide_eq_true c10
              clear c10
              obtain ⟨y129, hy129⟩ : ∃ y_ : List Int, y_ = (List.replicate (a2 : Int).toNat 0) := ⟨_, rfl⟩
              replace H : ((impl_covered.f k (strOfNums y129) a0 a1).bind fun t132 => (some t132)) = some r := by first | (rw [hy129]; with_reducible exact H) | (have H2_ := (Option.bind_some _ _).symm.trans H; rw [hy129]; with_reducible exact H2_) | (have H2_ := (Option.bind_some _ _).symm.trans H; with_reducible exact H2_) | with_reducible exact H | (rw [hy129]; exact H) | exact H
              have Ny129 := Aside0.mk hy129
              clear hy129
              replace H := Option.bind_eq_some_iff.mp H
              obtain ⟨t132, A110, H⟩ := H
              replace H : (some t132) = some r := H
              have A11 := Aside0.mk A110
              clear A110
              obtain rfl := Option.some.inj H
              go_enter Try.func37, Try.ntmps37
              go_wp2_with (first | ((with_reducible refine gate_callee (f := 70) rfl ?_); refine goesL_ (some 8) rfl rfl Try.func70 (by kernel_rfl) rfl #[.string a0] rfl (by (try simp only [List.map_toArray, List.map_cons, List.map_nil]); first | done | rfl | (simp only [List.length_drop, List.length_take]; rfl)) ?_; (with_reducible refine (impl_isKey.calls a0 true _ A4.out).mono ?_); rintro e w' ⟨rfl, ⟨nd, rfl⟩⟩; refine ⟨_, rfl, ?_⟩) | ((with_reducible refine gate_dst (N := 23) rfl ?_); refine Kd.R_make (Kd.int .u8) _ 5 rfl (N := 23) rfl 62 _ _ rfl a2 rfl rfl Try.underlying62 (.int .u8 0) 1 info5 rfl (by decide) (by omega) 0 (ok := fun _ => True) (okp := fun _ => True) rfl (fun _ hk => hk) trivial (of_decide_eq_true (by first | (with_reducible assumption) | assumption)) (Nat.le_trans (Nat.mul_le_mul_right _ (of_decide_eq_true (by first | (with_reducible assumption) | assumption) : a2.toNat ≤ 281474976710656)) (by omega)) (Below.refl _ _) (Nat.le_refl _) ?_; intro v130 w12 ho13 hb hg_ hnew_; clear hg_ hnew_; (first | rw [← Ny129.out] at ho13 | (simp only [Int.reduceToNat] at ho13; rw [← Ny129.out] at ho13)); have n0_ := Aside0.mk (Kd.R_lower ho13 (below_size (by repeat (first | (with_reducible first | exact HB.out | apply below_alloc | apply pw_below_drewN | apply below_drew1) | exact HB.out)))); have n1_ := Aside0.mk (below_step (by repeat (first | (with_reducible first | exact HB.out | apply below_alloc | apply pw_below_drewN | apply below_drew1) | exact HB.out)) hb); clear HB; have HO131 := n0_; have HB := n1_; clear n0_ n1_; clear hb ho13; have hcv14 := own_string (P := Try.prog) Try.underlying62 Try.underlying5 Try.underlying9 (Kd.own_of_R HO131.out)) | ((with_reducible refine gate_callee (f := 71) rfl ?_); refine goesL_ (some 27) rfl rfl Try.func71 (by kernel_rfl) rfl #[.string (strOfNums y129), .string a0, .int .i64 a1] rfl (by (try simp only [List.map_toArray, List.map_cons, List.map_nil]); first | done | rfl | (simp only [List.length_drop, List.length_take]; rfl)) ?_; (with_reducible refine (impl_covered.calls k (strOfNums y129) a0 a1 t132 _ A11.out).mono ?_); rintro e w15 ⟨rfl, hb⟩; refine ⟨_, rfl, ?_⟩; have n0_ := Aside0.mk (Kd.R_below (by (with_reducible repeat (first | apply Kd.R_alloc | apply Kd.R_drewN | apply Kd.R_drew)); exact HO131.out) hb); have n1_ := Aside0.mk (below_step (by repeat (first | (with_reducible first | exact HB.out | apply below_alloc | apply pw_below_drewN | apply below_drew1) | exact HB.out)) hb); clear HO131; clear HB; have HO131 := n0_; have HB := n1_; clear n0_ n1_; (try clear hb); (try clear hb2); (try clear hk); (try clear hi)))
              go_ret
              exact ⟨by first | rfl | (simp [errW_none, errW_some] <;> rfl) | (simp [*, errW_none, errW_some] <;> rfl), by repeat (first | (with_reducible first | exact HB.out | apply below_alloc | apply pw_below_drewN | apply below_drew1) | exact HB.out)⟩
            · rw [if_neg c10] at H
              exact absurd H (by simp)
          · rw [if_neg c9] at H
            exact absurd H (by simp)
  · replace c5 := Bool.eq_false_iff.mpr c5
    subst c5
    have H1 : (some (⟨#[]⟩ : ByteArray)) = some r := by rw [if_neg (show ¬ (false = true) by decide)] at H; exact H
    clear H
    have H := H1
    clear H1
    obtain rfl := Option.some.inj H
    go_enter Try.func37, Try.ntmps37
    go_wp2_with (first | ((with_reducible refine gate_callee (f := 70) rfl ?_); refine goesL_ (some 8) rfl rfl Try.func70 (by kernel_rfl) rfl #[.string a0] rfl (by (try simp only [List.map_toArray, List.map_cons, List.map_nil]); first | done | rfl | (simp only [List.length_drop, List.length_take]; rfl)) ?_; (with_reducible refine (impl_isKey.calls a0 false _ A4.out).mono ?_); rintro e w' ⟨rfl, ⟨nd, rfl⟩⟩; refine ⟨_, rfl, ?_⟩))
    go_ret
    exact ⟨by first | rfl | (simp [errW_none, errW_some] <;> rfl) | (simp [*, errW_none, errW_some] <;> rfl), by repeat (first | (with_reducible first | exact HB.out | apply below_alloc | apply pw_below_drewN | apply below_drew1) | exact HB.out)⟩

/-! ### laws_FnExactStreamOf: function 10 -/
def laws_FnExactStreamOf.f (k : Nat) (a0 : ByteArray) (a1 : Int) (a2 : Int) : Option (Bool) := if (a0.size : Int) > 1048576 then (some true) else ((spec_StreamOf.f k a0 a1 a2).bind fun t133 => ((impl_StreamOf.f k a0 a1 a2).bind fun t134 => (if t134.toList = t133.toList then (some true) else (some false))))
theorem laws_FnExactStreamOf.mono : ∀ a0 a1 a2 k, LeO (laws_FnExactStreamOf.f k a0 a1 a2) (laws_FnExactStreamOf.f (k + 1) a0 a1 a2) := by
  intro a0 a1 a2 k
  unfold laws_FnExactStreamOf.f
  repeat' first
      | (with_reducible exact impl_StreamOf.mono _ _ _ _)
      | (with_reducible exact spec_StreamOf.mono _ _ _ _)
      | (with_reducible exact LeO.refl _)
      | (with_reducible exact LeO.none _)
      | (with_reducible refine LeO.ite ?_ ?_)
      | (with_reducible refine LeO.bind ?_ (fun _ => ?_))
      | exact impl_StreamOf.mono _ _ _ _
      | exact spec_StreamOf.mono _ _ _ _
      | exact LeO.none _
      | refine LeO.ite ?_ ?_
      | refine LeO.bind ?_ (fun _ => ?_)
set_option maxHeartbeats 8000000 in
set_option maxRecDepth 100000 in
theorem laws_FnExactStreamOf.calls (k : Nat) (a0 : ByteArray) (a1 : Int) (a2 : Int) (r : Bool) (w : World) (h : laws_FnExactStreamOf.f k a0 a1 a2 = some r) :
    Calls Try.prog 10 #[.string a0, .int .i64 a1, .int .i64 a2] w fun e w' => e = .returned (.bool r) ∧ Below w.heap.size w w' := by
  have HB := Aside0.mk (Below.refl w.heap.size w)
  have H : (if (a0.size : Int) > 1048576 then (some true) else ((spec_StreamOf.f k a0 a1 a2).bind fun t133 => ((impl_StreamOf.f k a0 a1 a2).bind fun t134 => (if t134.toList = t133.toList then (some true) else (some false))))) = some r := h
  clear h
  by_cases c4 : (a0.size : Int) > 1048576
  · rw [if_pos c4] at H
    have c4b0 : decide (1048576 < (a0.size : Int)) = true := decide_eq_true c4
    have c4b1 : decide (1048576 < a0.size) = true := decide_eq_true (by omega)
    clear c4
    obtain rfl := Option.some.inj H
    go_enter Try.func10, Try.ntmps10
    go_wp2
    go_ret
    exact ⟨by first | rfl | (simp [errW_none, errW_some] <;> rfl) | (simp [*, errW_none, errW_some] <;> rfl), by repeat (first | (with_reducible first | exact HB.out | apply below_alloc | apply pw_below_drewN | apply below_drew1) | exact HB.out)⟩
  · rw [if_neg c4] at H
    have c4b0 : decide (1048576 < (a0.size : Int)) = false := decide_eq_false c4
    have c4b1 : decide (1048576 < a0.size) = false := decide_eq_false (by omega)
    clear c4
    replace H := Option.bind_eq_some_iff.mp H
    obtain ⟨t133, A50, H⟩ := H
    replace H : ((impl_StreamOf.f k a0 a1 a2).bind fun t134 => (if t134.toList = t133.toList then (some true) else (some false))) = some r := H
    have A5 := Aside0.mk A50
    clear A50
    replace H := Option.bind_eq_some_iff.mp H
    obtain ⟨t134, A60, H⟩ := H
    replace H : (if t134.toList = t133.toList then (some true) else (some false)) = some r := H
    have A6 := Aside0.mk A60
    clear A60
    by_cases c7 : t134.toList = t133.toList
    · rw [if_pos c7] at H
      have c7b0 : (t134.toList == t133.toList) = true := beq_iff_eq.mpr c7
      have c7b1 : (t134.toList != t133.toList) = false := bne_eq_false_iff_eq.mpr c7
      clear c7
      obtain rfl := Option.some.inj H
      go_enter Try.func10, Try.ntmps10
      go_wp2_with (first | ((with_reducible refine gate_callee (f := 36) rfl ?_); refine goesL_ (some 15) rfl rfl Try.func36 (by kernel_rfl) rfl #[.string a0, .int .i64 a1, .int .i64 a2] rfl (by (try simp only [List.map_toArray, List.map_cons, List.map_nil]); first | done | rfl | (simp only [List.length_drop, List.length_take]; rfl)) ?_; (with_reducible refine (spec_StreamOf.calls k a0 a1 a2 t133 _ A5.out).mono ?_); rintro e w8 ⟨rfl, hb⟩; refine ⟨_, rfl, ?_⟩; have n0_ := Aside0.mk (below_step (by repeat (first | (with_reducible first | exact HB.out | apply below_alloc | apply pw_below_drewN | apply below_drew1) | exact HB.out)) hb); clear HB; have HB := n0_; clear n0_; (try clear hb); (try clear hb2); (try clear hk); (try clear hi)) | ((with_reducible refine gate_callee (f := 37) rfl ?_); refine goesL_ (some 19) rfl rfl Try.func37 (by kernel_rfl) rfl #[.string a0, .int .i64 a1, .int .i64 a2] rfl (by (try simp only [List.map_toArray, List.map_cons, List.map_nil]); first | done | rfl | (simp only [List.length_drop, List.length_take]; rfl)) ?_; (with_reducible refine (impl_StreamOf.calls k a0 a1 a2 t134 _ A6.out).mono ?_); rintro e w9 ⟨rfl, hb⟩; refine ⟨_, rfl, ?_⟩; have n0_ := Aside0.mk (below_step (by repeat (first | (with_reducible first | exact HB.out | apply below_alloc | apply pw_below_drewN | apply below_drew1) | exact HB.out)) hb); clear HB; have HB := n0_; clear n0_; (try clear hb); (try clear hb2); (try clear hk); (try clear hi)))
      go_ret
      exact ⟨by first | rfl | (simp [errW_none, errW_some] <;> rfl) | (simp [*, errW_none, errW_some] <;> rfl), by repeat (first | (with_reducible first | exact HB.out | apply below_alloc | apply pw_below_drewN | apply below_drew1) | exact HB.out)⟩
    · rw [if_neg c7] at H
      have c7b0 : (t134.toList == t133.toList) = false := beq_eq_false_iff_ne.mpr c7
      have c7b1 : (t134.toList != t133.toList) = true := bne_iff_ne.mpr c7
      obtain rfl := Option.some.inj H
      go_enter Try.func10, Try.ntmps10
      go_wp2_with (first | ((with_reducible refine gate_callee (f := 36) rfl ?_); refine goesL_ (some 15) rfl rfl Try.func36 (by kernel_rfl) rfl #[.string a0, .int .i64 a1, .int .i64 a2] rfl (by (try simp only [List.map_toArray, List.map_cons, List.map_nil]); first | done | rfl | (simp only [List.length_drop, List.length_take]; rfl)) ?_; (with_reducible refine (spec_StreamOf.calls k a0 a1 a2 t133 _ A5.out).mono ?_); rintro e w10 ⟨rfl, hb⟩; refine ⟨_, rfl, ?_⟩; have n0_ := Aside0.mk (below_step (by repeat (first | (with_reducible first | exact HB.out | apply below_alloc | apply pw_below_drewN | apply below_drew1) | exact HB.out)) hb); clear HB; have HB := n0_; clear n0_; (try clear hb); (try clear hb2); (try clear hk); (try clear hi)) | ((with_reducible refine gate_callee (f := 37) rfl ?_); refine goesL_ (some 19) rfl rfl Try.func37 (by kernel_rfl) rfl #[.string a0, .int .i64 a1, .int .i64 a2] rfl (by (try simp only [List.map_toArray, List.map_cons, List.map_nil]); first | done | rfl | (simp only [List.length_drop, List.length_take]; rfl)) ?_; (with_reducible refine (impl_StreamOf.calls k a0 a1 a2 t134 _ A6.out).mono ?_); rintro e w11 ⟨rfl, hb⟩; refine ⟨_, rfl, ?_⟩; have n0_ := Aside0.mk (below_step (by repeat (first | (with_reducible first | exact HB.out | apply below_alloc | apply pw_below_drewN | apply below_drew1) | exact HB.out)) hb); clear HB; have HB := n0_; clear n0_; (try clear hb); (try clear hb2); (try clear hk); (try clear hi)))
      go_ret
      exact ⟨by first | rfl | (simp [errW_none, errW_some] <;> rfl) | (simp [*, errW_none, errW_some] <;> rfl), by repeat (first | (with_reducible first | exact HB.out | apply below_alloc | apply pw_below_drewN | apply below_drew1) | exact HB.out)⟩

/-- THE ONE PURE STATEMENT of laws_FnExactStreamOf: yours. -/
def laws_FnExactStreamOf.Pure : Prop := ∀ (a0 : ByteArray) (a1 : Int) (a2 : Int), a0.size ≤ 140737488351232 → (Lit.int .i64 a1).wf = true → (Lit.int .i64 a2).wf = true → ∃ k, laws_FnExactStreamOf.f k a0 a1 a2 = some true
theorem laws_FnExactStreamOf.walk (P : laws_FnExactStreamOf.Pure) (a0 : ByteArray) (a1 : Int) (a2 : Int) (w : World) (w0 : a0.size ≤ 140737488351232) (w1 : (Lit.int .i64 a1).wf = true) (w2 : (Lit.int .i64 a2).wf = true) :
    Calls Try.prog 10 #[.string a0, .int .i64 a1, .int .i64 a2] w fun e w' => e = .returned (.bool true) ∧ Below w.heap.size w w' := by
  obtain ⟨k, h⟩ := P a0 a1 a2 w0 w1 w2
  refine (laws_FnExactStreamOf.calls k a0 a1 a2 true w h).mono ?_
  rintro e w' ⟨rfl, hd⟩
  exact ⟨rfl, hd⟩

end Go.Proofs.Ytnailhkgnccloaa.QFnExactStreamOf
