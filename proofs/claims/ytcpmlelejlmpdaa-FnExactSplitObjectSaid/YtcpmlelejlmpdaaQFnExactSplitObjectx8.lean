-- A text of this session, printed by a program of its own (wip/tools: xpatch.py, xprint.sh, mkq.py). No condition.
import Derived.Test.YtcpmlelejlmpdaaQFnExactSplitObjectx0
import Derived.Test.YtcpmlelejlmpdaaQFnExactSplitObjectx6
import Derived.Test.YtcpmlelejlmpdaaQFnExactSplitObjectx7
namespace Go.Proofs.Ytcpmlelejlmpdaa.QFnExactSplitObject
open Go.RowKit Go.Proofs.YtcpmlelejlmpdaaW.PrintWords Go.Proofs.YtcpmlelejlmpdaaW.PrintLast Go.Proofs.YtcpmlelejlmpdaaW.PrintMore
attribute [local go_sem] max2_int min2_int max_two min_two max_three min_three max_four min_four   -- for this text's walks alone
set_option linter.unusedVariables false
set_option linter.unusedSimpArgs false

/-! ### impl_plant_mix: function 115 -/
/-- One byte of a mixture, up to a row. -/
def mixV (l1 : List Int) (l2 : List ByteArray) (i : Nat) : Nat → Nat
 | 0 => 0
 | m + 1 => mixV l1 l2 i m ^^^ tabMul (rd l1 (m : Int)).toNat (bt (rdOf ByteArray.empty l2 (m : Int)) (i : Int)).toNat
def mixL (n : Nat) (l1 : List Int) (l2 : List ByteArray) (m : Nat) : List Int := (List.range n).map fun t => ((mixV l1 l2 t m : Nat) : Int)
def mixM (n : Nat) (l1 : List Int) (l2 : List ByteArray) (m i : Nat) : List Int := (List.range n).map fun t => ((if t < i then mixV l1 l2 t (m + 1) else mixV l1 l2 t m : Nat) : Int)
def mixF (n : Nat) (l1 : List Int) (l2 : List ByteArray) : ByteArray := strOfNums (mixL n l1 l2 l1.length)
theorem mixF_tab (a b : Nat) : tabMul a b < 256 := by
 unfold tabMul
 split
 ·omega
 ·split
  ·omega
  ·unfold tE
   have all_ : ∀ x ∈ exList, x < 256 := by decide +kernel
   have key : ∀ j, ex j < 256 := fun j => by
    unfold ex
    rw [List.getD_eq_getElem?_getD]
    cases h : exList[j]? with
    | none => decide
    | some x => exact all_ x (List.mem_of_getElem? h)
   split
   ·exact key _
   ·split
    ·exact key _
    ·omega
theorem mixF_lt (l1 : List Int) (l2 : List ByteArray) (i : Nat) : ∀ m, mixV l1 l2 i m < 256
 | 0 => by unfold mixV; omega
 | m + 1 => by unfold mixV; exact Nat.xor_lt_two_pow (n := 8) (mixF_lt l1 l2 i m) (mixF_tab _ _)
theorem mixF_len (n : Nat) (l1 : List Int) (l2 : List ByteArray) (m : Nat) : (mixL n l1 l2 m).length = n := by simp [mixL]
theorem mixF_lenM (n : Nat) (l1 : List Int) (l2 : List ByteArray) (m i : Nat) : (mixM n l1 l2 m i).length = n := by simp [mixM]
theorem mixF_start (n : Nat) (l1 : List Int) (l2 : List ByteArray) : List.replicate n (0 : Int) = mixL n l1 l2 0 := by
 refine row_ext (K := n) (by simp) (mixF_len _ _ _ _) (fun t ht => ?_)
 unfold mixL
 rw [List.getElem?_map, List.getElem?_range ht, List.getElem?_replicate, if_pos ht]
 rfl
theorem mixF_in (n : Nat) (l1 : List Int) (l2 : List ByteArray) (m : Nat) : mixL n l1 l2 m = mixM n l1 l2 m 0 := by
 unfold mixL mixM
 exact List.map_congr_left (fun t _ => by rw [if_neg (by omega)])
theorem mixF_out (n : Nat) (l1 : List Int) (l2 : List ByteArray) (m : Nat) : mixM n l1 l2 m n = mixL n l1 l2 (m + 1) := by
 unfold mixL mixM
 exact List.map_congr_left (fun t ht => by rw [if_pos (List.mem_range.1 ht)])
theorem mixF_rd (n : Nat) (l1 : List Int) (l2 : List ByteArray) (m i : Nat) (h : i < n) : rdOf 0 (mixM n l1 l2 m i) (i : Int) = ((mixV l1 l2 i m : Nat) : Int) := by
 unfold rdOf mixM
 rw [Int.toNat_natCast, List.getD_eq_getElem?_getD, List.getElem?_map, List.getElem?_range h]
 show ((if i < i then _ else mixV l1 l2 i m : Nat) : Int) = _
 rw [if_neg (by omega)]
theorem mixF_set (n : Nat) (l1 : List Int) (l2 : List ByteArray) (m i : Nat) (h : i < n) : (mixM n l1 l2 m i).set i ((mixV l1 l2 i (m + 1) : Nat) : Int) = mixM n l1 l2 m (i + 1) := by
 refine row_ext (K := n) (by simp [mixF_lenM]) (mixF_lenM _ _ _ _ _) (fun t ht => ?_)
 rw [List.getElem?_set, mixF_lenM]
 unfold mixM
 rw [List.getElem?_map, List.getElem?_map, List.getElem?_range ht]
 by_cases e : i = t
 ·subst e
  rw [if_pos rfl, if_pos h]
  show some ((mixV l1 l2 i (m + 1) : Nat) : Int) = some ((if i < i + 1 then mixV l1 l2 i (m + 1) else mixV l1 l2 i m : Nat) : Int)
  rw [if_pos (by omega)]
 ·rw [if_neg e]
  show some ((if t < i then mixV l1 l2 t (m + 1) else mixV l1 l2 t m : Nat) : Int) = some ((if t < i + 1 then mixV l1 l2 t (m + 1) else mixV l1 l2 t m : Nat) : Int)
  by_cases h2 : t < i
  ·rw [if_pos h2, if_pos (by omega)]
  ·rw [if_neg h2, if_neg (by omega)]
theorem mixF_zero (n : Nat) (l1 : List Int) (l2 : List ByteArray) (m : Nat) (h : rd l1 (m : Int) = 0) : mixL n l1 l2 m = mixL n l1 l2 (m + 1) := by
 unfold mixL
 refine List.map_congr_left (fun t _ => ?_)
 have e : mixV l1 l2 t (m + 1) = mixV l1 l2 t m ^^^ tabMul (rd l1 (m : Int)).toNat (bt (rdOf ByteArray.empty l2 (m : Int)) (t : Int)).toNat := rfl
 rw [e, h, show tabMul (0 : Int).toNat (bt (rdOf ByteArray.empty l2 (m : Int)) (t : Int)).toNat = 0 from rfl, Nat.xor_zero]
theorem xor_u8 (a b : Nat) (ha : a < 256) (hb : b < 256) : Go.bits .xor .u8 (a : Int) (b : Int) = ((a ^^^ b : Nat) : Int) := by
 have hx : a ^^^ b < 2 ^ 8 := Nat.xor_lt_two_pow (by simpa using ha) (by simpa using hb)
 show IntKind.u8.wrap (((BitVec.ofInt 8 (a : Int)) ^^^ (BitVec.ofInt 8 (b : Int))).toNat : Int) = _
 rw [BitVec.toNat_xor, BitVec.ofInt_natCast, BitVec.ofInt_natCast, BitVec.toNat_ofNat, BitVec.toNat_ofNat, Nat.mod_eq_of_lt (by omega : a < 2 ^ 8), Nat.mod_eq_of_lt (by omega : b < 2 ^ 8), IntKind.wrap_u8]
 omega
theorem add_zero_addr (a : Addr) : a.add 0 = a := by
 unfold Addr.add
 split <;> simp_all
theorem bt_lt (s : ByteArray) (i : Int) : 0 ≤ bt s i ∧ bt s i < 256 := by
 unfold bt
 split
 ·have := (s[i.toNat]).toNat_lt; omega
 ·omega
set_option maxHeartbeats 8000000 in
set_option maxRecDepth 100000 in
theorem impl_plant_mix.callsN (g K M G n : Nat) (A1 : Option Addr) (c1 : Nat) (l1 : List Int) (A2 : Option Addr) (c2 : Nat) (l2 : List ByteArray) (w : World) (hp : PlantIn w g K M G) (hr1 : Kd.C (Kd.int .u8) w A1 l1.length l1) (hr2 : Kd.C Kd.string w A2 l2.length l2)
  (h10 : 0 < l1.length) (h12 : l1.length ≤ l2.length) (hb1 : ∀ x ∈ l1, 0 ≤ x ∧ x < 256) (hs : ∀ s ∈ l2, s.size = n) (hn0 : 0 < n) (hn : n ≤ 1000000) (hl2 : l2.length ≤ 1000000) :
  Calls Try.prog 115 #[.pointer (some ⟨g, 0, none⟩), .slice A1 l1.length c1, .slice A2 l2.length c2] w fun e w' => e = .returned (.string (mixF n l1 l2)) ∧ Below w.heap.size w w' := by
 obtain ⟨gT, hpT, hT⟩ := hp.tab
 have h0c := Kd.at_string hr2 (0 : Int) (by omega) (by omega)
 obtain ⟨ad2, rfl, hc0⟩ := h0c
 obtain ⟨ad1, rfl, _⟩ := Kd.at_int hr1 (0 : Int) (by omega) (by omega)
 have hsz : ∀ m : Nat, m < l2.length → (rdOf ByteArray.empty l2 (m : Int)).size = n := fun m hm => by
  unfold rdOf
  rw [Int.toNat_natCast, List.getD_eq_getElem?_getD, List.getElem?_eq_getElem hm]
  exact hs _ (List.getElem_mem hm)
 have hrw : ∀ m : Nat, m < l1.length → 0 ≤ rd l1 (m : Int) ∧ rd l1 (m : Int) < 256 := fun m hm => by
  unfold rd
  rw [Int.toNat_natCast, List.getD_eq_getElem?_getD, List.getElem?_eq_getElem hm]
  exact hb1 _ (List.getElem_mem hm)
 have HSZ := Aside0.mk hsz
 have HRW := Aside0.mk hrw
 have hs0 := hsz 0 (by omega)
 obtain ⟨s0, hs0e⟩ : ∃ s0, rdOf ByteArray.empty l2 (0 : Int) = s0 := ⟨_, rfl⟩
 rw [show ((0 : Nat) : Int) = 0 from rfl, hs0e] at hs0
 rw [hs0e, show (0 : Int).toNat = 0 from rfl] at hc0
 have hc0a : w.cell? ad2 = some (.string s0) := by rwa [add_zero_addr] at hc0
 have hsn : (s0.size : Int) = (n : Int) := by omega
 clear hsz hrw hs0e hs0
 have HR1 := Aside0.mk hr1
 have HR2 := Aside0.mk hr2
 have HS := Aside0.mk hs
 have HB1 := Aside0.mk hb1
 have HPT := Aside0.mk hpT
 have HTT := Aside0.mk hT
 have HP := Aside0.mk hp
 clear hr1 hr2 hs hb1 hpT hT hp
 go_enter Try.func115, Try.ntmps115
 go_wp2_with ((with_reducible refine gate_dst (N := 15) rfl ?_); refine Kd.R_make (Kd.int .u8) _ 5 rfl (N := 15) rfl 78 _ _ rfl (n : Int) rfl rfl Try.underlying78 (.int .u8 0) 1 (by kernel_rfl) rfl (by decide) (by omega) 0 (ok := fun _ => True) (okp := fun _ => True) rfl (fun _ hk => hk) trivial (by omega) (by simp; omega) (Below.refl _ _) (Nat.le_refl _) ?_; intro v1 w1 ho hb hg_ hnew_; clear hg_ hnew_; rw [Int.toNat_natCast] at ho; obtain ⟨gO, cO, eO, hgO, hlO, cellsO, hcO⟩ := Kd.R_form ho (by simp; omega); rw [List.length_replicate] at eO; subst eO; clear hcO; rw [mixF_start n l1 l2] at ho; have HO := Aside0.mk ho; have HB := Aside0.mk hb; have GO := Aside0.mk hgO; clear ho hb hgO hlO)
 clear hc0 hc0a hsn
 go_loopw [18] (fun v18 wr => ∃ m : Nat, m ≤ l1.length ∧ v18 = .int .i64 (m : Int) ∧ Aside0 ((Kd.int .u8).R 5 wr w.heap.size (fun _ => True) (.slice (some ⟨gO, 0, none⟩) n cO) (mixL n l1 l2 m)) ∧ Aside0 (Below w.heap.size w wr)) (fun v18 _ => l1.length - (intOf v18).toNat)
 case atStart => exact ⟨0, Nat.zero_le _, rfl, HO, HB⟩
 case round =>
  clear HO HB
  obtain ⟨m, hm, rfl, HO, HB⟩ := hrel
  by_cases hlt : m < l1.length
  ·obtain ⟨ad1_, e1_, hcr⟩ := Kd.at_int (Kd.C_below HR1.out HB.out) (m : Int) (by omega) (by omega)
   cases e1_
   rw [Int.toNat_natCast] at hcr
   have hx := HRW.out m hlt
   obtain ⟨x, hxe⟩ : ∃ x, rd l1 (m : Int) = x := ⟨_, rfl⟩
   rw [hxe] at hcr hx
   have HXE := Aside0.mk hxe
   clear hxe
   by_cases h0 : x = 0
   ·subst h0
    go_wp2
    go_roundw
    case rel => exact ⟨m + 1, by omega, by go_num, ⟨by rw [← mixF_zero n l1 l2 m HXE.out]; exact HO.out⟩, HB⟩
    case measure => simp [intOf]; omega
   ·have c3 : (x == 0) = false := beq_eq_false_iff_ne.mpr h0
    clear h0
    go_wp2
    clear hcr
    go_loopw [27] (fun v27 wq => ∃ i : Nat, i ≤ n ∧ v27 = .int .i64 (i : Int) ∧ Aside0 ((Kd.int .u8).R 5 wq w.heap.size (fun _ => True) (.slice (some ⟨gO, 0, none⟩) n cO) (mixM n l1 l2 m i)) ∧ Aside0 (Below w.heap.size w wq)) (fun v27 _ => n - (intOf v27).toNat)
    case atStart => exact ⟨0, Nat.zero_le _, rfl, ⟨by rw [← mixF_in]; exact HO.out⟩, HB⟩
    case round =>
     clear HO HB
     obtain ⟨i, hi, rfl, HO, HB⟩ := hrel
     by_cases hli : i < n
     ·obtain ⟨ad2_, e2_, hcs⟩ := Kd.at_string (Kd.C_below HR2.out HB.out) (m : Int) (by omega) (by omega)
      cases e2_
      rw [Int.toNat_natCast] at hcs
      have hss := HSZ.out m (by omega)
      obtain ⟨s, hse⟩ : ∃ s, rdOf ByteArray.empty l2 (m : Int) = s := ⟨_, rfl⟩
      rw [hse] at hcs hss
      have HSE := Aside0.mk hse
      clear hse
      obtain ⟨hx0, hf0⟩ := Kd.R_celln 0 HO.out (i : Int) (by omega) (by omega)
      rw [Int.toNat_natCast, mixF_rd n l1 l2 m i hli] at hx0
      rw [Int.toNat_natCast] at hf0
      have hbs := bt_lt s (i : Int)
      obtain ⟨y, hye⟩ : ∃ y : Nat, bt s (i : Int) = (y : Int) := ⟨(bt s (i : Int)).toNat, by omega⟩
      have hyi : ∀ h : i < s.size, ((s[i]'h).toNat : Int) = (y : Int) := fun h => by rw [← hye]; exact bt_at s (i : Int) h
      obtain ⟨x, rfl⟩ := Int.eq_ofNat_of_zero_le hx.1
      have hlt2 := mixF_lt l1 l2 i m
      have hlt3 := mixF_tab x y
      have hev : mixV l1 l2 i (m + 1) = mixV l1 l2 i m ^^^ tabMul x y := by
       show mixV l1 l2 i m ^^^ tabMul (rd l1 (m : Int)).toNat (bt (rdOf ByteArray.empty l2 (m : Int)) (i : Int)).toNat = _
       rw [HXE.out, HSE.out, hye, Int.toNat_natCast, Int.toNat_natCast]
      obtain ⟨v, hve⟩ : ∃ v, mixV l1 l2 i m = v := ⟨_, rfl⟩
      rw [hve] at hx0 hlt2 hev
      have HEV := Aside0.mk hev
      clear hev hve
      obtain ⟨z, hze⟩ : ∃ z, tabMul x y = z := ⟨_, rfl⟩
      have HZE := Aside0.mk hze
      rw [hze] at hlt3
      clear hze
      have hxr : Go.bits .xor .u8 (v : Int) (z : Int) = ((v ^^^ z : Nat) : Int) := xor_u8 v z hlt2 hlt3
      have hiI : (i : Int) < (s.size : Int) := by omega
      have hml : m < l2.length := by omega
      have HPQ := Aside0.mk (pw_cell_below HB.out HPT.out)
      have HX0 := Aside0.mk hx0
      have HCS := Aside0.mk hcs
      have HTQ := Aside0.mk (HTT.out.below HB.out)
      clear hx0 hcs
      go_wp2
      refine start_ (n := 19) (S := fun w' => w'.cell? ⟨gO, i, none⟩ = some (.int .u8 (v : Int)) ∧ w'.cell? ⟨g, 0, none⟩ = some (.pointer (some ⟨gT, 0, none⟩)) ∧ w'.cell? (ad2.add m) = some (.string s)) (ds := [18]) #[false, false, false, false, false, false, false, false, false, false, false, false, false, false, false, false, false, false, false] (by kernel_rfl) rfl rfl ⟨HX0.out, HPQ.out, HCS.out⟩ (fun hHeld => ?_)
      refine pure_ (i := 0) (N := some 30) (v := ?_) (a' := ?_) #[true, false, false, false, false, false, false, false, false, false, false, false, false, false, false, false, false, false, false] rfl rfl (by kernel_rfl) (fun _ _ _ h => h) (Or.inl ⟨by rfl, ?_⟩) ?_ ?_; rotate_left; intro w'; go_simp; with_reducible rfl; rotate_left; simp only [Cap.pz]; rfl
      refine pure_ (i := 1) (N := some 31) (v := ?_) (a' := ?_) #[true, true, false, false, false, false, false, false, false, false, false, false, false, false, false, false, false, false, false] rfl rfl (by kernel_rfl) (fun _ _ _ h => h) (Or.inl ⟨by rfl, ?_⟩) ?_ ?_; rotate_left; intro w'; go_simp; with_reducible rfl; rotate_left; simp only [Cap.pz]; rfl
      refine pure_ (i := 2) (N := some 32) (v := ?_) (a' := ?_) #[true, true, true, false, false, false, false, false, false, false, false, false, false, false, false, false, false, false, false] rfl rfl (by kernel_rfl) (fun _ _ _ h => h) (Or.inl ⟨by rfl, ?_⟩) ?_ ?_; rotate_left; intro w'; go_simp; with_reducible rfl; rotate_left; simp only [Cap.pz]; rfl
      refine take_ (i := 3) (N := some 33) (v := ?_) (a' := ?_) #[true, true, true, true, false, false, false, false, false, false, false, false, false, false, false, false, false, false, false] rfl rfl (by kernel_rfl) (fun _ _ _ h => h) (Or.inl ⟨by rfl, ?_⟩) hHeld ?_ ?_; rotate_left; rintro w' ⟨s0, s1, s2⟩; go_simp; with_reducible rfl; rotate_left; simp only [Cap.pz]; rfl
      refine pure_ (i := 4) (N := some 34) (v := ?_) (a' := ?_) #[true, true, true, true, true, false, false, false, false, false, false, false, false, false, false, false, false, false, false] rfl rfl (by kernel_rfl) (fun _ _ _ h => h) (Or.inl ⟨by rfl, ?_⟩) ?_ ?_; rotate_left; intro w'; go_simp; with_reducible rfl; rotate_left; simp only [Cap.pz]; rfl
      refine pure_ (i := 5) (N := some 35) (v := ?_) (a' := ?_) #[true, true, true, true, true, true, false, false, false, false, false, false, false, false, false, false, false, false, false] rfl rfl (by kernel_rfl) (fun _ _ _ h => h) (Or.inl ⟨by rfl, ?_⟩) ?_ ?_; rotate_left; intro w'; go_simp; with_reducible rfl; rotate_left; simp only [Cap.pz]; rfl
      refine pure_ (i := 6) (N := some 36) (v := ?_) (a' := ?_) #[true, true, true, true, true, true, true, false, false, false, false, false, false, false, false, false, false, false, false] rfl rfl (by kernel_rfl) (fun _ _ _ h => h) (Or.inl ⟨by rfl, ?_⟩) ?_ ?_; rotate_left; intro w'; go_simp; with_reducible rfl; rotate_left; simp only [Cap.pz]; rfl
      refine take_ (i := 7) (N := some 37) (v := ?_) (a' := ?_) #[true, true, true, true, true, true, true, true, false, false, false, false, false, false, false, false, false, false, false] rfl rfl (by kernel_rfl) (fun _ _ _ h => h) (Or.inl ⟨by rfl, ?_⟩) hHeld ?_ ?_; rotate_left; rintro w' ⟨s0, s1, s2⟩; go_simp; with_reducible rfl; rotate_left; simp only [Cap.pz]; rfl
      refine pure_ (i := 8) (N := some 38) (v := ?_) (a' := ?_) #[true, true, true, true, true, true, true, true, true, false, false, false, false, false, false, false, false, false, false] rfl rfl (by kernel_rfl) (fun _ _ _ h => h) (Or.inl ⟨by rfl, ?_⟩) ?_ ?_; rotate_left; intro w'; go_simp; with_reducible rfl; rotate_left; simp only [Cap.pz]; rfl
      refine pure_ (i := 9) (N := some 39) (v := ?_) (a' := ?_) #[true, true, true, true, true, true, true, true, true, true, false, false, false, false, false, false, false, false, false] rfl rfl (by kernel_rfl) (fun _ _ _ h => h) (Or.inl ⟨by rfl, ?_⟩) ?_ ?_; rotate_left; intro w'; go_simp; with_reducible rfl; rotate_left; simp only [Cap.pz]; rfl
      refine pure_ (i := 10) (N := some 40) (v := ?_) (a' := ?_) #[true, true, true, true, true, true, true, true, true, true, true, false, false, false, false, false, false, false, false] rfl rfl (by kernel_rfl) (fun _ _ _ h => h) (Or.inl ⟨by rfl, ?_⟩) ?_ ?_; rotate_left; intro w'; go_simp; with_reducible rfl; rotate_left; simp only [Cap.pz]; rfl
      refine pure_ (i := 11) (N := some 41) (v := ?_) (a' := ?_) #[true, true, true, true, true, true, true, true, true, true, true, true, false, false, false, false, false, false, false] rfl rfl (by kernel_rfl) (fun _ _ _ h => h) (Or.inl ⟨by rfl, ?_⟩) ?_ ?_; rotate_left; intro w'; go_simp; with_reducible rfl; rotate_left; simp only [Cap.pz]; rfl
      refine take_ (i := 12) (N := some 42) (v := ?_) (a' := ?_) #[true, true, true, true, true, true, true, true, true, true, true, true, true, false, false, false, false, false, false] rfl rfl (by kernel_rfl) (fun _ _ _ h => h) (Or.inl ⟨by rfl, ?_⟩) hHeld ?_ ?_; rotate_left; rintro w' ⟨s0, s1, s2⟩; go_simp; with_reducible rfl; rotate_left; simp only [Cap.pz]; rfl
      refine pure_ (i := 13) (N := some 43) (v := ?_) (a' := ?_) #[true, true, true, true, true, true, true, true, true, true, true, true, true, true, false, false, false, false, false] rfl rfl (by kernel_rfl) (fun _ _ _ h => h) (Or.inl ⟨by rfl, ?_⟩) ?_ ?_; rotate_left; intro w'; go_simp; with_reducible rfl; rotate_left; simp only [Cap.pz]; rfl
      refine pure_ (i := 14) (N := some 44) (v := ?_) (a' := ?_) #[true, true, true, true, true, true, true, true, true, true, true, true, true, true, true, false, false, false, false] rfl rfl (by kernel_rfl) (fun _ _ _ h => h) (Or.inl ⟨by rfl, ?_⟩) ?_ ?_; rotate_left; intro w'; go_simp; with_reducible rfl; rotate_left; simp only [Cap.pz]; rfl
      refine one_ (i := 15) (N := some 45) #[true, true, true, true, true, true, true, true, true, true, true, true, true, true, true, true, false, false, false] rfl rfl (by kernel_rfl) (by decide) (fun Kq hK => ?_)
      refine goes_ Try.func78 (by kernel_rfl) rfl #[.pointer (some ⟨gT, 0, none⟩), .int .u8 (x : Int), .int .u8 (y : Int)] (by rfl) rfl rfl (by simp only [List.map_toArray, List.map_cons, List.map_nil]; rfl) ?_
      with_reducible refine (impl_tables8_mul.callsN gT x (by omega) y (by omega) wr.drew (HTQ.out.block rfl)).mono ?_
      rintro e w' ⟨rfl, ⟨nd, rfl⟩⟩
      refine ⟨_, rfl, ?_⟩
      rw [HZE.out]
      refine hK.out _ _ ⟨HX0.out, HPQ.out, HCS.out⟩ (fun hHeld => ?_)
      clear hK Kq
      refine norm_ (a' := ?_) ?_ ?_; rotate_left; show Act.put _ (some 45) _ = _; simp only [Cap.pz]; rfl
      refine pure_ (i := 16) (N := some 46) (v := ?_) (a' := ?_) #[true, true, true, true, true, true, true, true, true, true, true, true, true, true, true, true, true, false, false] rfl rfl (by kernel_rfl) (fun _ _ _ h => h) (Or.inl ⟨by rfl, ?_⟩) ?_ ?_; rotate_left; intro w'; go_simp; with_reducible rfl; rotate_left; simp only [Cap.pz]; rfl
      refine pure_ (i := 17) (N := some 47) (v := ?_) (a' := ?_) #[true, true, true, true, true, true, true, true, true, true, true, true, true, true, true, true, true, true, false] rfl rfl (by kernel_rfl) (fun _ _ _ h => h) (Or.inl ⟨by rfl, ?_⟩) ?_ ?_; rotate_left; intro w'; go_simp; with_reducible rfl; rotate_left; simp only [Cap.pz]; rfl
      refine last_ (i := 18) (N := none) #[true, true, true, true, true, true, true, true, true, true, true, true, true, true, true, true, true, true, true] rfl rfl (by kernel_rfl) (by decide) (fun Kq hK => ?_)
      have hcg : wr.cell? ⟨gO, i, none⟩ = some (.int .u8 (v : Int)) := HX0.out
      have hfg : wr.frozen? ⟨gO, i, none⟩ = false := hf0
      refine skip_ (w1 := ?_) (by rfl) rfl ?_ ?_
      rotate_left
      ·go_simp
       rfl
      refine hK.out _ _ ?_
      clear hK Kq
      refine done_ (by kernel_rfl) ?_
      go_wp2
      go_roundw
      case rel => exact ⟨i + 1, by omega, by go_num, ⟨by have h := (Kd.R_putg (Kd.R_drewN HO.out (1 + nd)) (i : Int) ((v ^^^ z : Nat) : Int)).1; rw [Int.toNat_natCast, ← HZE.out, ← HEV.out, mixF_set n l1 l2 m i hli] at h; rw [← HZE.out, ← HEV.out]; exact h⟩, ⟨below_set (pw_below_drewN HB.out (1 + nd)) GO.out⟩⟩
      case measure => simp [intOf]; omega
     ·have ei : i = n := by omega
      go_wp2
      go_roundw
      case rel => exact ⟨m + 1, by omega, by go_num, ⟨by have h := HO.out; rw [ei, mixF_out] at h; exact h⟩, HB⟩
      case measure => simp [intOf]; omega
  ·have em : m = l1.length := by omega
   have hcell : ∀ j, j < n → wr.cell? ⟨gO, 0 + j, none⟩ = some (.int .u8 ((mixL n l1 l2 l1.length).getD j 0)) := fun j hj => by
    have h := (Kd.R_celln 0 HO.out (j : Int) (by omega) (by omega)).1
    rw [Int.toNat_natCast, em] at h
    rw [Nat.zero_add, h]
    rfl
   have hback := run_convert_bytes_arg (P := Try.prog) wr 78 5 Try.underlying78 Try.underlying5 gO 0 n cO (mixL n l1 l2 l1.length) (mixF_len _ _ _ _) hcell 9 Try.underlying9
   clear hcell
   go_wp2
   go_ret
   exact ⟨rfl, HB.out⟩
def mixOk (l1 : List Int) (l2 : List ByteArray) : Bool := decide (0 < l1.length ∧ l1.length ≤ l2.length ∧ l2.length ≤ 1000000 ∧ 0 < (rdOf ByteArray.empty l2 0).size ∧ (rdOf ByteArray.empty l2 0).size ≤ 1000000) && l1.all (fun x => decide (0 ≤ x ∧ x < 256)) && l2.all (fun s => decide (s.size = (rdOf ByteArray.empty l2 0).size))
def impl_plant_mix.f (_ : Int) (l1 : List Int) (l2 : List ByteArray) : Option (ByteArray) := if mixOk l1 l2 = true then some (mixF (rdOf ByteArray.empty l2 0).size l1 l2) else none
theorem impl_plant_mix.calls {p : Int} (g : Nat) (A1 : Option Addr) (c1 : Nat) (l1 : List Int) (A2 : Option Addr) (c2 : Nat) (l2 : List ByteArray) (r : ByteArray) (w : World) (hr1 : Kd.C (Kd.int .u8) w A1 l1.length l1) (_hc1 : l1.length ≤ c1) (hr2 : Kd.C Kd.string w A2 l2.length l2) (_hc2 : l2.length ≤ c2) (h : impl_plant_mix.f p l1 l2 = some r) (hp : PlantAt w g p) :
  Calls Try.prog 115 #[.pointer (some ⟨g, 0, none⟩), .slice A1 l1.length c1, .slice A2 l2.length c2] w fun e w' => e = .returned (.string r) ∧ Below w.heap.size w w' := by
 unfold impl_plant_mix.f at h
 by_cases hc : mixOk l1 l2 = true
 ·rw [if_pos hc] at h
  obtain rfl := Option.some.inj h
  simp only [mixOk, Bool.and_eq_true, decide_eq_true_eq, List.all_eq_true] at hc
  obtain ⟨⟨⟨h1, h2, h3, h4, h5⟩, h6⟩, h7⟩ := hc
  exact impl_plant_mix.callsN g _ _ _ _ A1 c1 l1 A2 c2 l2 w hp.at_ hr1 hr2 h1 h2 h6 h7 h4 h5 h3
 ·rw [if_neg hc] at h
  exact absurd h (by simp)

/-! ### impl_plant_encode: function 84 -/
def impl_plant_encode.l0 : Nat → Int → List ByteArray → List ByteArray → Int → Int → Option (List ByteArray)
 | 0, _, _, _, _, _ => none
 | k + 1, x0, x1, x5, x9, x10 => if x10 < x9 then (if x10 < (x1.length : Int) then (if 0 ≤ x10 then (if x5.length < 8796093022208 then (impl_plant_encode.l0 k x0 x1 (x5 ++ [rdOf ByteArray.empty x1 x10]) x9 (wrap64 (x10 + 1))) else (none)) else (none)) else ((impl_plant_row.f x0 x10).bind fun t198 => ((impl_plant_mix.f x0 t198 x1).bind fun t201 => (if x5.length < 8796093022208 then (impl_plant_encode.l0 k x0 x1 (x5 ++ [t201]) x9 (wrap64 (x10 + 1))) else (none))))) else (some x5)
def impl_plant_encode.f (k : Nat) (a0 : Int) (l1 : List ByteArray) : Option (List ByteArray) := (impl_plant_size.f a0).bind fun t193 => (impl_plant_encode.l0 k a0 l1 (([] : List ByteArray)) t193 0)
theorem impl_plant_encode.mono_l : ∀ k, (∀ y0 y1 y2 y3 y4, LeO (impl_plant_encode.l0 k y0 y1 y2 y3 y4) (impl_plant_encode.l0 (k + 1) y0 y1 y2 y3 y4))
 | 0 => fun _ _ _ _ _ r h => by simp [impl_plant_encode.l0] at h
 | k + 1 => by
  have ih0 := impl_plant_encode.mono_l k
  ·intro y0 y1 y2 y3 y4
   unfold impl_plant_encode.l0
   repeat' first
   | (with_reducible exact ih0 _ _ _ _ _)
   | (with_reducible exact LeO.refl _)
   | (with_reducible exact LeO.none _)
   | (with_reducible refine LeO.ite ?_ ?_)
   | (with_reducible refine LeO.bind ?_ (fun _ => ?_))
   | exact ih0 _ _ _ _ _
   | exact LeO.none _
   | refine LeO.ite ?_ ?_
   | refine LeO.bind ?_ (fun _ => ?_)
theorem impl_plant_encode.mono : ∀ a0 a1 k, LeO (impl_plant_encode.f k a0 a1) (impl_plant_encode.f (k + 1) a0 a1) := by
 intro a0 a1 k
 have ih0 := impl_plant_encode.mono_l k
 unfold impl_plant_encode.f
 repeat' first
   | (with_reducible exact ih0 _ _ _ _ _)
   | (with_reducible exact LeO.refl _)
   | (with_reducible exact LeO.none _)
   | (with_reducible refine LeO.ite ?_ ?_)
   | (with_reducible refine LeO.bind ?_ (fun _ => ?_))
   | exact ih0 _ _ _ _ _
   | exact LeO.none _
   | refine LeO.ite ?_ ?_
   | refine LeO.bind ?_ (fun _ => ?_)
set_option maxHeartbeats 8000000 in
set_option maxRecDepth 100000 in
theorem impl_plant_encode.calls (k : Nat) {a0 : Int} (gP : Nat) (A1 : Option Addr) (c1 : Nat) (l1 : List ByteArray) (r : List ByteArray) (w : World) (hr1 : Kd.C Kd.string w A1 l1.length l1) (hc1 : l1.length ≤ c1) (h : impl_plant_encode.f k a0 l1 = some r) (hP : PlantAt w gP a0) :
  Calls Try.prog 84 #[.pointer (some ⟨gP, 0, none⟩), .slice A1 l1.length c1] w fun e w' => ∃ v0_ : Value, e = .returned (v0_) ∧ Kd.R Kd.string 9 w' w.heap.size (fun _ => True) v0_ r ∧ Below w.heap.size w w' := by
 have HP := Aside0.mk hP
 clear hP
 have HR1 := Aside0.mk hr1
 have HC1 := Aside0.mk hc1
 clear hr1 hc1
 have HB := Aside0.mk (Below.refl w.heap.size w)
 have H : ((impl_plant_size.f a0).bind fun t193 => (impl_plant_encode.l0 k a0 l1 (([] : List ByteArray)) t193 0)) = some r := h
 clear h
 obtain ⟨y190, hy190⟩ : ∃ y_ : List ByteArray, y_ = (([] : List ByteArray)) := ⟨_, rfl⟩
 replace H : ((impl_plant_size.f a0).bind fun t193 => (impl_plant_encode.l0 k a0 l1 y190 t193 0)) = some r := by first | (rw [hy190]; with_reducible exact H) | (have H2_ := (Option.bind_some _ _).symm.trans H; rw [hy190]; with_reducible exact H2_) | (have H2_ := (Option.bind_some _ _).symm.trans H; with_reducible exact H2_) | with_reducible exact H | (rw [hy190]; exact H) | exact H
 have Ny190 := Aside0.mk hy190
 clear hy190
 replace H := Option.bind_eq_some_iff.mp H
 obtain ⟨t193, A30, H⟩ := H
 replace H : (impl_plant_encode.l0 k a0 l1 y190 t193 0) = some r := H
 have A3 := Aside0.mk A30
 clear A30
 have H' := Aside0.mk H
 clear H
 go_enter Try.func84, Try.ntmps84
 go_wp2_with (first | ((with_reducible refine gate_dst (N := 7) rfl ?_); refine Kd.R_lit Kd.string _ 9 ?hg (N := 7) ?hd (xs := ([] : List ByteArray)) (inner := []) (ok := fun _ => True) (okp := fun _ => True) ?hr ?hp (fun _ hk => hk) trivial (Below.refl _ _) (Nat.le_refl _) (by simp) ?_; (case hd => rfl); (case hg => rfl); (case hr => first | (go_simp; done) | (go_simp; rfl)); (case hp => exact (Reps.none _ _)); intro v191 w4 ho5 hb hg_ hnew_; clear hg_ hnew_; (first | rw [← Ny190.out] at ho5 | (simp only [Int.reduceToNat] at ho5; rw [← Ny190.out] at ho5)); have n0_ := Aside0.mk (Kd.R_lower ho5 (below_size (by repeat (first | (with_reducible first | exact HB.out | apply below_alloc | apply pw_below_drewN | apply below_drew1) | exact HB.out)))); have n1_ := Aside0.mk (below_step (by repeat (first | (with_reducible first | exact HB.out | apply below_alloc | apply pw_below_drewN | apply below_drew1) | exact HB.out)) hb); clear HB; have HO192 := n0_; have HB := n1_; clear n0_ n1_; clear hb ho5) | ((with_reducible refine gate_callee (f := 114) rfl ?_); refine goesL_ (some 9) rfl rfl Try.func114 (by kernel_rfl) rfl #[.pointer (some ⟨gP, 0, none⟩)] rfl (by (try simp only [List.map_toArray, List.map_cons, List.map_nil]); first | done | rfl | (simp only [List.length_drop, List.length_take]; rfl)) ?_; (with_reducible refine (impl_plant_size.calls gP t193 _ A3.out (HP.out.below (by repeat (first | (with_reducible first | exact HB.out | apply below_alloc | apply pw_below_drewN | apply below_drew1) | exact HB.out)))).mono ?_); rintro e w' ⟨rfl, ⟨nd, rfl⟩⟩; refine ⟨_, rfl, ?_⟩))
 go_loopg [5, 10] k (fun kq v5 v10 w' => ∃ (x5_1 : List ByteArray) (x10_1 : Int), v10 = .int .i64 x10_1 ∧ Aside0 (impl_plant_encode.l0 kq a0 l1 x5_1 t193 x10_1 = some r) ∧ Aside0 (kq ≤ k) ∧ Aside0 (Kd.R Kd.string 9 w' w.heap.size (fun _ => True) v5 x5_1) ∧ Aside0 (Below w.heap.size w w'))
 case atStart => exact ⟨(y190), (0), (by first | rfl | (simp; done) | (simp [*]; done)), H', ⟨Nat.le_refl _⟩, ⟨by (with_reducible repeat (first | apply Kd.R_alloc | apply Kd.R_drewN | apply Kd.R_drew)); exact HO192.out⟩, ⟨by repeat (first | (with_reducible first | exact HB.out | apply below_alloc | apply pw_below_drewN | apply below_drew1) | exact HB.out)⟩⟩
 case round =>
  clear H'
  try clear c1
  try clear p2
  obtain ⟨x5_1, x10_1, rfl, HA, HK1, HO_5, HB⟩ := hrel
  cases gk with
  | zero => exact absurd HA.out (by simp [impl_plant_encode.l0])
  | succ k1 =>
   have H := HA.out
   clear HA
   simp only [impl_plant_encode.l0] at H
   by_cases c6 : x10_1 < t193
   ·rw [if_pos c6] at H
    have c6b0 : decide (x10_1 < t193) = true := decide_eq_true c6
    clear c6
    by_cases c7 : x10_1 < (l1.length : Int)
    ·rw [if_pos c7] at H
     have c7b0 : decide (x10_1 < (l1.length : Int)) = true := decide_eq_true c7
     clear c7
     by_cases c8 : 0 ≤ x10_1
     ·rw [if_pos c8] at H
      have c8b0 : decide (0 ≤ x10_1) = true := decide_eq_true c8
      clear c8
      by_cases c9 : x5_1.length < 8796093022208
      ·rw [if_pos c9] at H
       have LMc9 := Aside0.mk c9
       clear c9
       obtain ⟨y195, hy195⟩ : ∃ y_ : List ByteArray, y_ = (x5_1 ++ [rdOf ByteArray.empty l1 x10_1]) := ⟨_, rfl⟩
       replace H : (impl_plant_encode.l0 k1 a0 l1 y195 t193 (wrap64 (x10_1 + 1))) = some r := by first | (rw [hy195]; with_reducible exact H) | (have H2_ := (Option.bind_some _ _).symm.trans H; rw [hy195]; with_reducible exact H2_) | (have H2_ := (Option.bind_some _ _).symm.trans H; with_reducible exact H2_) | with_reducible exact H | (rw [hy195]; exact H) | exact H
       have Ny195 := Aside0.mk hy195
       clear hy195
       have H' := Aside0.mk H
       clear H
       have p194 : 0 ≤ (x10_1 : Int) := of_decide_eq_true (by first | (with_reducible assumption) | assumption)
       have q194 : x10_1 < (l1.length : Int) := of_decide_eq_true (by first | (with_reducible assumption) | assumption)
       obtain ⟨ad194, e194, hx194_0⟩ := Kd.at_string HR1.out x10_1 p194 q194
       cases e194
       replace hx194_0 := (HB.out.cell (World.block_lt_of_cell? w _ hx194_0)).trans hx194_0
       replace p194 := eq_true p194
       replace q194 := eq_true q194
       go_wp2_with (first | ((with_reducible refine gate_builtin (b := .append) (xs := #[.tmp 17, .tmp 22]) rfl ?_); at_builtin; refine Kd.R_append Kd.string (w0 := w) w.heap.size rfl (.tmp 17) (.tmp 22) 44 9 (.string ⟨#[]⟩) 16 rfl Try.underlying44 info9 rfl (by decide) (by omega) u5 x5_1 (rdOf ByteArray.empty l1 x10_1) [.string (rdOf ByteArray.empty l1 x10_1)] (fun _ => True) (fun _ => False) rfl rfl ?aP (fun _ hk => hk.elim) ?aF ?aO ?aB ?aS ?aL ?_; (case aP => exact rfl); (case aB => exact (by repeat (first | (with_reducible first | exact HB.out | apply below_alloc | apply pw_below_drewN | apply below_drew1) | exact HB.out))); (case aF => exact (fun _ _ => trivial)); (case aO => exact (by (with_reducible repeat (first | apply Kd.R_alloc | apply Kd.R_drewN | apply Kd.R_drew)); exact HO_5.out)); (case aS => exact (below_size (by repeat (first | (with_reducible first | exact HB.out | apply below_alloc | apply pw_below_drewN | apply below_drew1) | exact HB.out)))); (case aL => have := LMc9.out; omega); intro v196 w10 ho hb hg hat; rw [← Ny195.out] at ho; have n0_ := Aside0.mk (hb); have n1_ := Aside0.mk (ho); clear HB; clear HO_5; have HB := n0_; have HO197 := n1_; clear n0_ n1_; clear ho hb hg hat))
       go_roundg k1
       case measure => have := HK1.out; omega
       case rel => exact ⟨(y195), (wrap64 (x10_1 + 1)), (by first | rfl | (simp; done) | (simp [*]; done)), H', ⟨by have := HK1.out; omega⟩, ⟨by (with_reducible repeat (first | apply Kd.R_alloc | apply Kd.R_drewN | apply Kd.R_drew)); exact HO197.out⟩, ⟨by repeat (first | (with_reducible first | exact HB.out | apply below_alloc | apply pw_below_drewN | apply below_drew1) | exact HB.out)⟩⟩
      ·rw [if_neg c9] at H
       exact absurd H (by simp)
     ·rw [if_neg c8] at H
      exact absurd H (by simp)
    ·rw [if_neg c7] at H
     have c7b0 : decide (x10_1 < (l1.length : Int)) = false := decide_eq_false c7
     clear c7
     replace H := Option.bind_eq_some_iff.mp H
     obtain ⟨t198, A110, H⟩ := H
     replace H : ((impl_plant_mix.f a0 t198 l1).bind fun t201 => (if x5_1.length < 8796093022208 then (impl_plant_encode.l0 k1 a0 l1 (x5_1 ++ [t201]) t193 (wrap64 (x10_1 + 1))) else (none))) = some r := H
     have A11 := Aside0.mk A110
     clear A110
     replace H := Option.bind_eq_some_iff.mp H
     obtain ⟨t201, A120, H⟩ := H
     replace H : (if x5_1.length < 8796093022208 then (impl_plant_encode.l0 k1 a0 l1 (x5_1 ++ [t201]) t193 (wrap64 (x10_1 + 1))) else (none)) = some r := H
     have A12 := Aside0.mk A120
     clear A120
     by_cases c13 : x5_1.length < 8796093022208
     ·rw [if_pos c13] at H
      have LMc13 := Aside0.mk c13
      clear c13
      obtain ⟨y202, hy202⟩ : ∃ y_ : List ByteArray, y_ = (x5_1 ++ [t201]) := ⟨_, rfl⟩
      replace H : (impl_plant_encode.l0 k1 a0 l1 y202 t193 (wrap64 (x10_1 + 1))) = some r := by first | (rw [hy202]; with_reducible exact H) | (have H2_ := (Option.bind_some _ _).symm.trans H; rw [hy202]; with_reducible exact H2_) | (have H2_ := (Option.bind_some _ _).symm.trans H; with_reducible exact H2_) | with_reducible exact H | (rw [hy202]; exact H) | exact H
      have Ny202 := Aside0.mk hy202
      clear hy202
      have H' := Aside0.mk H
      clear H
      go_wp2_with (first | ((with_reducible refine gate_callee (f := 67) rfl ?_); refine goesL_ (some 28) rfl rfl Try.func67 (by kernel_rfl) rfl #[.pointer (some ⟨gP, 0, none⟩), .int .i64 x10_1] rfl (by (try simp only [List.map_toArray, List.map_cons, List.map_nil]); first | done | rfl | (simp only [List.length_drop, List.length_take]; rfl)) ?_; (with_reducible refine (impl_plant_row.calls gP x10_1 t198 _ A11.out (HP.out.below (by repeat (first | (with_reducible first | exact HB.out | apply below_alloc | apply pw_below_drewN | apply below_drew1) | exact HB.out)))).mono ?_); rintro e w14 ⟨v199, rfl, ho0, hb⟩; refine ⟨_, rfl, ?_⟩; have n0_ := Aside0.mk (Kd.R_below (by (with_reducible repeat (first | apply Kd.R_alloc | apply Kd.R_drewN | apply Kd.R_drew)); exact HO_5.out) hb); have n1_ := Aside0.mk (Kd.R_lower ho0 (below_size (by repeat (first | (with_reducible first | exact HB.out | apply below_alloc | apply pw_below_drewN | apply below_drew1) | exact HB.out)))); have n2_ := Aside0.mk (below_step (by repeat (first | (with_reducible first | exact HB.out | apply below_alloc | apply pw_below_drewN | apply below_drew1) | exact HB.out)) hb); clear HO_5; clear HB; have HO_5 := n0_; have HO200 := n1_; have HB := n2_; clear n0_ n1_ n2_; (try clear hb); (try clear hb2); (try clear hk); (try clear hi); (try clear ho0); obtain ⟨Ao15, co15, eo15⟩ := Kd.R_slice HO200.out; subst eo15) | ((with_reducible refine gate_callee (f := 115) rfl ?_); refine goesL_ (some 30) rfl rfl Try.func115 (by kernel_rfl) rfl #[.pointer (some ⟨gP, 0, none⟩), .slice Ao15 t198.length co15, .slice A1 l1.length c1] rfl (by (try simp only [List.map_toArray, List.map_cons, List.map_nil]); first | done | rfl | (simp only [List.length_drop, List.length_take]; rfl)) ?_; (with_reducible refine (impl_plant_mix.calls gP _ _ t198 _ _ l1 t201 _ ?side1 ?side2 ?side3 ?side4 A12.out (HP.out.below (by repeat (first | (with_reducible first | exact HB.out | apply below_alloc | apply pw_below_drewN | apply below_drew1) | exact HB.out)))).mono ?_); (case side1 => repeat (first | exact (Kd.R_reads' HO200.out).2.2 | (with_reducible refine Kd.C_alloc ?_ _) | (with_reducible refine Kd.C_drewN ?_ _) | (with_reducible refine Kd.C_drew ?_))); (case side2 => exact (Kd.R_reads' HO200.out).2.1); (case side3 => repeat (first | exact (Kd.C_below HR1.out HB.out) | (with_reducible refine Kd.C_alloc ?_ _) | (with_reducible refine Kd.C_drewN ?_ _) | (with_reducible refine Kd.C_drew ?_))); (case side4 => exact HC1.out); rintro e w16 ⟨rfl, hb⟩; refine ⟨_, rfl, ?_⟩; have n0_ := Aside0.mk (Kd.R_below (by (with_reducible repeat (first | apply Kd.R_alloc | apply Kd.R_drewN | apply Kd.R_drew)); exact HO_5.out) hb); have n1_ := Aside0.mk (Kd.R_below (by (with_reducible repeat (first | apply Kd.R_alloc | apply Kd.R_drewN | apply Kd.R_drew)); exact HO200.out) hb); have n2_ := Aside0.mk (below_step (by repeat (first | (with_reducible first | exact HB.out | apply below_alloc | apply pw_below_drewN | apply below_drew1) | exact HB.out)) hb); clear HO_5; clear HO200; clear HB; have HO_5 := n0_; have HO200 := n1_; have HB := n2_; clear n0_ n1_ n2_; (try clear hb); (try clear hb2); (try clear hk); (try clear hi)) | ((with_reducible refine gate_builtin (b := .append) (xs := #[.tmp 24, .tmp 31]) rfl ?_); at_builtin; refine Kd.R_append Kd.string (w0 := w) w.heap.size rfl (.tmp 24) (.tmp 31) 44 9 (.string ⟨#[]⟩) 16 rfl Try.underlying44 info9 rfl (by decide) (by omega) u5 x5_1 t201 [.string t201] (fun _ => True) (fun _ => False) rfl rfl ?aP (fun _ hk => hk.elim) ?aF ?aO ?aB ?aS ?aL ?_; (case aP => exact rfl); (case aB => exact (by repeat (first | (with_reducible first | exact HB.out | apply below_alloc | apply pw_below_drewN | apply below_drew1) | exact HB.out))); (case aF => exact (fun _ _ => trivial)); (case aO => exact (by (with_reducible repeat (first | apply Kd.R_alloc | apply Kd.R_drewN | apply Kd.R_drew)); exact HO_5.out)); (case aS => exact (below_size (by repeat (first | (with_reducible first | exact HB.out | apply below_alloc | apply pw_below_drewN | apply below_drew1) | exact HB.out)))); (case aL => have := LMc13.out; omega); intro v203 w17 ho hb hg hat; rw [← Ny202.out] at ho; have n0_ := Aside0.mk (Kd.R_over' (by (with_reducible repeat (first | apply Kd.R_alloc | apply Kd.R_drewN | apply Kd.R_drew)); exact HO200.out) (Kd.R_typed (by (with_reducible repeat (first | apply Kd.R_alloc | apply Kd.R_drewN | apply Kd.R_drew)); exact HO_5.out)) (by decide) hg); have n1_ := Aside0.mk (hb); have n2_ := Aside0.mk (ho); clear HO200; clear HB; clear HO_5; have HO200 := n0_; have HB := n1_; have HO204 := n2_; clear n0_ n1_ n2_; clear ho hb hg hat))
      go_roundg k1
      case measure => have := HK1.out; omega
      case rel => exact ⟨(y202), (wrap64 (x10_1 + 1)), (by first | rfl | (simp; done) | (simp [*]; done)), H', ⟨by have := HK1.out; omega⟩, ⟨by (with_reducible repeat (first | apply Kd.R_alloc | apply Kd.R_drewN | apply Kd.R_drew)); exact HO204.out⟩, ⟨by repeat (first | (with_reducible first | exact HB.out | apply below_alloc | apply pw_below_drewN | apply below_drew1) | exact HB.out)⟩⟩
     ·rw [if_neg c13] at H
      exact absurd H (by simp)
   ·rw [if_neg c6] at H
    have c6b0 : decide (x10_1 < t193) = false := decide_eq_false c6
    clear c6
    obtain rfl := Option.some.inj H
    go_wp2
    go_ret
    exact ⟨_, by first | rfl | (simp [errW_none, errW_some] <;> rfl) | (simp [*, errW_none, errW_some] <;> rfl), by (with_reducible repeat (first | apply Kd.R_alloc | apply Kd.R_drewN | apply Kd.R_drew)); exact HO_5.out, by repeat (first | (with_reducible first | exact HB.out | apply below_alloc | apply pw_below_drewN | apply below_drew1) | exact HB.out)⟩

/-! ### impl_CodeFault: function 64 -/
def impl_CodeFault.j0 : Nat → Bool → Option (Int)
 | 0, _ => none
 | k + 1, x43 => if x43 = true then (some 1) else (some 0)
def impl_CodeFault.f (k : Nat) (a0_0 : Int) (a0_1 : Int) (a0_2 : Int) : Option (Int) := if a0_0 < 1 then (impl_CodeFault.j0 k true) else (if a0_0 > 32 then (impl_CodeFault.j0 k true) else (if a0_1 < 0 then (impl_CodeFault.j0 k true) else (if a0_1 > 16 then (impl_CodeFault.j0 k true) else (if a0_2 < 0 then (impl_CodeFault.j0 k true) else (if a0_2 > a0_0 then (impl_CodeFault.j0 k true) else (impl_CodeFault.j0 k (decide ((wrap64 ((wrap64 (a0_0 + a0_1)) + a0_2)) > 64))))))))
theorem impl_CodeFault.mono_l : ∀ k, (∀ y0, LeO (impl_CodeFault.j0 k y0) (impl_CodeFault.j0 (k + 1) y0))
 | 0 => fun _ r h => by simp [impl_CodeFault.j0] at h
 | k + 1 => by
  have ih0 := impl_CodeFault.mono_l k
  ·intro y0
   unfold impl_CodeFault.j0
   repeat' first
   | (with_reducible exact ih0 _)
   | (with_reducible exact LeO.refl _)
   | (with_reducible exact LeO.none _)
   | (with_reducible refine LeO.ite ?_ ?_)
   | (with_reducible refine LeO.bind ?_ (fun _ => ?_))
   | exact ih0 _
   | exact LeO.none _
   | refine LeO.ite ?_ ?_
   | refine LeO.bind ?_ (fun _ => ?_)
theorem impl_CodeFault.mono : ∀ a0 a1 a2 k, LeO (impl_CodeFault.f k a0 a1 a2) (impl_CodeFault.f (k + 1) a0 a1 a2) := by
 intro a0 a1 a2 k
 have ih0 := impl_CodeFault.mono_l k
 unfold impl_CodeFault.f
 repeat' first
   | (with_reducible exact ih0 _)
   | (with_reducible exact LeO.refl _)
   | (with_reducible exact LeO.none _)
   | (with_reducible refine LeO.ite ?_ ?_)
   | (with_reducible refine LeO.bind ?_ (fun _ => ?_))
   | exact ih0 _
   | exact LeO.none _
   | refine LeO.ite ?_ ?_
   | refine LeO.bind ?_ (fun _ => ?_)
set_option maxHeartbeats 8000000 in
set_option maxRecDepth 100000 in
theorem impl_CodeFault.calls (k : Nat) (a0_0 : Int) (a0_1 : Int) (a0_2 : Int) (r : Int) (w : World) (h : impl_CodeFault.f k a0_0 a0_1 a0_2 = some r) :
  Calls Try.prog 64 #[.agg #[.int .i64 a0_0, .int .i64 a0_1, .int .i64 a0_2]] w fun e w' => e = .returned (.int .i64 r) ∧ Below w.heap.size w w' := by
 have hu26 := Try.underlying26
 have HB := Aside0.mk (Below.refl w.heap.size w)
 have H : (if a0_0 < 1 then (impl_CodeFault.j0 k true) else (if a0_0 > 32 then (impl_CodeFault.j0 k true) else (if a0_1 < 0 then (impl_CodeFault.j0 k true) else (if a0_1 > 16 then (impl_CodeFault.j0 k true) else (if a0_2 < 0 then (impl_CodeFault.j0 k true) else (if a0_2 > a0_0 then (impl_CodeFault.j0 k true) else (impl_CodeFault.j0 k (decide ((wrap64 ((wrap64 (a0_0 + a0_1)) + a0_2)) > 64))))))))) = some r := h
 clear h
 have HC2 := Aside0.mk H
 clear H
 go_enter Try.func64, Try.ntmps64
 go_upto_region 1 with (first | ((with_reducible refine gate_dst (N := 1) rfl ?_); refine box_event ?hg (N := 1) ?hd (cs := #[.int .i64 a0_0, .int .i64 a0_1, .int .i64 a0_2]) (t := 26) ?hr ?_; (case hd => rfl); (case hg => rfl); (case hr => first | (go_simp; done) | (go_simp; rfl)); intro gb205 hg w3 hbox hb; have n0_ := Aside0.mk (below_step (by repeat (first | (with_reducible first | exact HB.out | apply below_alloc | apply pw_below_drewN | apply below_drew1) | exact HB.out)) hb); have n1_ := Aside0.mk (hbox); have n2_ := Aside0.mk ((by rw [hg]; exact (below_size (by repeat (first | (with_reducible first | exact HB.out | apply below_alloc | apply pw_below_drewN | apply below_drew1) | exact HB.out))) : w.heap.size ≤ gb205)); have n3_ := Aside0.mk ((by rw [hg]; exact (below_size (by repeat (first | (with_reducible first | exact HB.out | apply below_alloc | apply pw_below_drewN | apply below_drew1) | exact HB.out))) : w.heap.size ≤ gb205)); clear HB; have HB := n0_; have BK205 := n1_; have GW205 := n2_; have GE205 := n3_; clear n0_ n1_ n2_ n3_; clear hb hbox hg))
 (try simp only [Act.put, List.setIfInBounds_toArray, List.set_cons_zero, List.set_cons_succ])
 go_cut [43] (fun v43 wc => ∃ (kq : Nat) (x43_1 : Bool), v43 = .bool x43_1 ∧ Aside0 (impl_CodeFault.j0 kq x43_1 = some r) ∧ Aside0 (kq ≤ k) ∧ Aside0 (wc.heap[gb205]? = some (.cells #[.int .i64 a0_0, .int .i64 a0_1, .int .i64 a0_2] 26 (0, 0))) ∧ Aside0 (Below w.heap.size w wc))
 case first =>
  have H := HC2.out
  clear HC2
  by_cases c4 : a0_0 < 1
  ·rw [if_pos c4] at H
   have c4b0 : decide (a0_0 < 1) = true := decide_eq_true c4
   clear c4
   (first | rw [c4b0] | (simp only [i64_w, i32_w]; rw [c4b0]) | skip)
   have H' := Aside0.mk H
   clear H
   have hcz5_0 : w3.cell? ⟨gb205, 0, none⟩ = some (.int .i64 a0_0) := (blk_cell BK205.out 0).trans rfl
   have hcz5_1 : w3.cell? ⟨gb205, 1, none⟩ = some (.int .i64 a0_1) := (blk_cell BK205.out 1).trans rfl
   have hcz5_2 : w3.cell? ⟨gb205, 2, none⟩ = some (.int .i64 a0_2) := (blk_cell BK205.out 2).trans rfl
   have hfz5_0 := blk_frozen BK205.out 0
   have hfz5_1 := blk_frozen BK205.out 1
   have hfz5_2 := blk_frozen BK205.out 2
   go_wp2
   go_meet
   case rel => exact ⟨_, (true), (by first | rfl | (simp; done) | (simp [*]; done)), H', ⟨by first | omega | exact Nat.le_refl _⟩, ⟨by (with_reducible repeat (first | refine blk_drewN ?_ _ | refine blk_drew ?_ | refine blk_alloc ?_ _)); exact BK205.out⟩, ⟨by repeat (first | (with_reducible first | exact HB.out | apply below_alloc | apply pw_below_drewN | apply below_drew1 | refine below_set ?_ GE205.out) | exact HB.out)⟩⟩
  ·rw [if_neg c4] at H
   have c4b0 : decide (a0_0 < 1) = false := decide_eq_false c4
   clear c4
   (first | rw [c4b0] | (simp only [i64_w, i32_w]; rw [c4b0]) | skip)
   by_cases c6 : a0_0 > 32
   ·rw [if_pos c6] at H
    have c6b0 : decide (32 < a0_0) = true := decide_eq_true c6
    clear c6
    have H' := Aside0.mk H
    clear H
    have hcz7_0 : w3.cell? ⟨gb205, 0, none⟩ = some (.int .i64 a0_0) := (blk_cell BK205.out 0).trans rfl
    have hcz7_1 : w3.cell? ⟨gb205, 1, none⟩ = some (.int .i64 a0_1) := (blk_cell BK205.out 1).trans rfl
    have hcz7_2 : w3.cell? ⟨gb205, 2, none⟩ = some (.int .i64 a0_2) := (blk_cell BK205.out 2).trans rfl
    have hfz7_0 := blk_frozen BK205.out 0
    have hfz7_1 := blk_frozen BK205.out 1
    have hfz7_2 := blk_frozen BK205.out 2
    go_wp2
    go_meet
    case rel => exact ⟨_, (true), (by first | rfl | (simp; done) | (simp [*]; done)), H', ⟨by first | omega | exact Nat.le_refl _⟩, ⟨by (with_reducible repeat (first | refine blk_drewN ?_ _ | refine blk_drew ?_ | refine blk_alloc ?_ _)); exact BK205.out⟩, ⟨by repeat (first | (with_reducible first | exact HB.out | apply below_alloc | apply pw_below_drewN | apply below_drew1 | refine below_set ?_ GE205.out) | exact HB.out)⟩⟩
   ·rw [if_neg c6] at H
    have c6b0 : decide (32 < a0_0) = false := decide_eq_false c6
    clear c6
    by_cases c8 : a0_1 < 0
    ·rw [if_pos c8] at H
     have c8b0 : decide (a0_1 < 0) = true := decide_eq_true c8
     clear c8
     have H' := Aside0.mk H
     clear H
     have hcz9_0 : w3.cell? ⟨gb205, 0, none⟩ = some (.int .i64 a0_0) := (blk_cell BK205.out 0).trans rfl
     have hcz9_1 : w3.cell? ⟨gb205, 1, none⟩ = some (.int .i64 a0_1) := (blk_cell BK205.out 1).trans rfl
     have hcz9_2 : w3.cell? ⟨gb205, 2, none⟩ = some (.int .i64 a0_2) := (blk_cell BK205.out 2).trans rfl
     have hfz9_0 := blk_frozen BK205.out 0
     have hfz9_1 := blk_frozen BK205.out 1
     have hfz9_2 := blk_frozen BK205.out 2
     go_wp2
     go_meet
     case rel => exact ⟨_, (true), (by first | rfl | (simp; done) | (simp [*]; done)), H', ⟨by first | omega | exact Nat.le_refl _⟩, ⟨by (with_reducible repeat (first | refine blk_drewN ?_ _ | refine blk_drew ?_ | refine blk_alloc ?_ _)); exact BK205.out⟩, ⟨by repeat (first | (with_reducible first | exact HB.out | apply below_alloc | apply pw_below_drewN | apply below_drew1 | refine below_set ?_ GE205.out) | exact HB.out)⟩⟩
    ·rw [if_neg c8] at H
     have c8b0 : decide (a0_1 < 0) = false := decide_eq_false c8
     clear c8
     by_cases c10 : a0_1 > 16
     ·rw [if_pos c10] at H
      have c10b0 : decide (16 < a0_1) = true := decide_eq_true c10
      clear c10
      have H' := Aside0.mk H
      clear H
      have hcz11_0 : w3.cell? ⟨gb205, 0, none⟩ = some (.int .i64 a0_0) := (blk_cell BK205.out 0).trans rfl
      have hcz11_1 : w3.cell? ⟨gb205, 1, none⟩ = some (.int .i64 a0_1) := (blk_cell BK205.out 1).trans rfl
      have hcz11_2 : w3.cell? ⟨gb205, 2, none⟩ = some (.int .i64 a0_2) := (blk_cell BK205.out 2).trans rfl
      have hfz11_0 := blk_frozen BK205.out 0
      have hfz11_1 := blk_frozen BK205.out 1
      have hfz11_2 := blk_frozen BK205.out 2
      go_wp2
      go_meet
      case rel => exact ⟨_, (true), (by first | rfl | (simp; done) | (simp [*]; done)), H', ⟨by first | omega | exact Nat.le_refl _⟩, ⟨by (with_reducible repeat (first | refine blk_drewN ?_ _ | refine blk_drew ?_ | refine blk_alloc ?_ _)); exact BK205.out⟩, ⟨by repeat (first | (with_reducible first | exact HB.out | apply below_alloc | apply pw_below_drewN | apply below_drew1 | refine below_set ?_ GE205.out) | exact HB.out)⟩⟩
     ·rw [if_neg c10] at H
      have c10b0 : decide (16 < a0_1) = false := decide_eq_false c10
      clear c10
      by_cases c12 : a0_2 < 0
      ·rw [if_pos c12] at H
       have c12b0 : decide (a0_2 < 0) = true := decide_eq_true c12
       clear c12
       have H' := Aside0.mk H
       clear H
       have hcz13_0 : w3.cell? ⟨gb205, 0, none⟩ = some (.int .i64 a0_0) := (blk_cell BK205.out 0).trans rfl
       have hcz13_1 : w3.cell? ⟨gb205, 1, none⟩ = some (.int .i64 a0_1) := (blk_cell BK205.out 1).trans rfl
       have hcz13_2 : w3.cell? ⟨gb205, 2, none⟩ = some (.int .i64 a0_2) := (blk_cell BK205.out 2).trans rfl
       have hfz13_0 := blk_frozen BK205.out 0
       have hfz13_1 := blk_frozen BK205.out 1
       have hfz13_2 := blk_frozen BK205.out 2
       go_wp2
       go_meet
       case rel => exact ⟨_, (true), (by first | rfl | (simp; done) | (simp [*]; done)), H', ⟨by first | omega | exact Nat.le_refl _⟩, ⟨by (with_reducible repeat (first | refine blk_drewN ?_ _ | refine blk_drew ?_ | refine blk_alloc ?_ _)); exact BK205.out⟩, ⟨by repeat (first | (with_reducible first | exact HB.out | apply below_alloc | apply pw_below_drewN | apply below_drew1 | refine below_set ?_ GE205.out) | exact HB.out)⟩⟩
      ·rw [if_neg c12] at H
       have c12b0 : decide (a0_2 < 0) = false := decide_eq_false c12
       clear c12
       by_cases c14 : a0_2 > a0_0
       ·rw [if_pos c14] at H
        have c14b0 : decide (a0_0 < a0_2) = true := decide_eq_true c14
        clear c14
        have H' := Aside0.mk H
        clear H
        have hcz15_0 : w3.cell? ⟨gb205, 0, none⟩ = some (.int .i64 a0_0) := (blk_cell BK205.out 0).trans rfl
        have hcz15_1 : w3.cell? ⟨gb205, 1, none⟩ = some (.int .i64 a0_1) := (blk_cell BK205.out 1).trans rfl
        have hcz15_2 : w3.cell? ⟨gb205, 2, none⟩ = some (.int .i64 a0_2) := (blk_cell BK205.out 2).trans rfl
        have hfz15_0 := blk_frozen BK205.out 0
        have hfz15_1 := blk_frozen BK205.out 1
        have hfz15_2 := blk_frozen BK205.out 2
        go_wp2
        go_meet
        case rel => exact ⟨_, (true), (by first | rfl | (simp; done) | (simp [*]; done)), H', ⟨by first | omega | exact Nat.le_refl _⟩, ⟨by (with_reducible repeat (first | refine blk_drewN ?_ _ | refine blk_drew ?_ | refine blk_alloc ?_ _)); exact BK205.out⟩, ⟨by repeat (first | (with_reducible first | exact HB.out | apply below_alloc | apply pw_below_drewN | apply below_drew1 | refine below_set ?_ GE205.out) | exact HB.out)⟩⟩
       ·rw [if_neg c14] at H
        have c14b0 : decide (a0_0 < a0_2) = false := decide_eq_false c14
        clear c14
        have H' := Aside0.mk H
        clear H
        have hcz16_0 : w3.cell? ⟨gb205, 0, none⟩ = some (.int .i64 a0_0) := (blk_cell BK205.out 0).trans rfl
        have hcz16_1 : w3.cell? ⟨gb205, 1, none⟩ = some (.int .i64 a0_1) := (blk_cell BK205.out 1).trans rfl
        have hcz16_2 : w3.cell? ⟨gb205, 2, none⟩ = some (.int .i64 a0_2) := (blk_cell BK205.out 2).trans rfl
        have hfz16_0 := blk_frozen BK205.out 0
        have hfz16_1 := blk_frozen BK205.out 1
        have hfz16_2 := blk_frozen BK205.out 2
        go_wp2
        go_meet
        case rel => exact ⟨_, (decide ((wrap64 ((wrap64 (a0_0 + a0_1)) + a0_2)) > 64)), (by first | rfl | (simp; done) | (simp [*]; done)), H', ⟨by first | omega | exact Nat.le_refl _⟩, ⟨by (with_reducible repeat (first | refine blk_drewN ?_ _ | refine blk_drew ?_ | refine blk_alloc ?_ _)); exact BK205.out⟩, ⟨by repeat (first | (with_reducible first | exact HB.out | apply below_alloc | apply pw_below_drewN | apply below_drew1 | refine below_set ?_ GE205.out) | exact HB.out)⟩⟩
 case rest =>
  clear HC2
  try clear c1
  try clear p2
  try clear c4
  try clear c4b0
  try clear c6
  try clear c6b0
  try clear p6
  try clear c8
  try clear c8b0
  try clear c10
  try clear c10b0
  try clear c12
  try clear c12b0
  try clear c14
  try clear c14b0
  try clear hcz11_0
  try clear hcz11_1
  try clear hcz11_2
  try clear hcz13_0
  try clear hcz13_1
  try clear hcz13_2
  try clear hcz15_0
  try clear hcz15_1
  try clear hcz15_2
  try clear hcz16_0
  try clear hcz16_1
  try clear hcz16_2
  try clear hcz5_0
  try clear hcz5_1
  try clear hcz5_2
  try clear hcz7_0
  try clear hcz7_1
  try clear hcz7_2
  try clear hcz9_0
  try clear hcz9_1
  try clear hcz9_2
  try clear hfz11_0
  try clear hfz11_1
  try clear hfz11_2
  try clear hfz13_0
  try clear hfz13_1
  try clear hfz13_2
  try clear hfz15_0
  try clear hfz15_1
  try clear hfz15_2
  try clear hfz16_0
  try clear hfz16_1
  try clear hfz16_2
  try clear hfz5_0
  try clear hfz5_1
  try clear hfz5_2
  try clear hfz7_0
  try clear hfz7_1
  try clear hfz7_2
  try clear hfz9_0
  try clear hfz9_1
  try clear hfz9_2
  obtain ⟨kq, x43_1, rfl, HA, HJ1, BK205, HB⟩ := hcut
  cases kq with
  | zero => exact absurd HA.out (by simp [impl_CodeFault.j0])
  | succ kj1 =>
   have H := HA.out
   clear HA
   simp only [impl_CodeFault.j0] at H
   by_cases c17 : x43_1 = true
   ·subst c17
    have H1 : (some 1) = some r := by rw [if_pos rfl] at H; exact H
    clear H
    have H := H1
    clear H1
    obtain rfl := Option.some.inj H
    go_wp2
    go_ret
    exact ⟨by first | rfl | (simp [errW_none, errW_some] <;> rfl) | (simp [*, errW_none, errW_some] <;> rfl), by repeat (first | (with_reducible first | exact HB.out | apply below_alloc | apply pw_below_drewN | apply below_drew1 | refine below_set ?_ GE205.out) | exact HB.out)⟩
   ·replace c17 := Bool.eq_false_iff.mpr c17
    subst c17
    have H1 : (some 0) = some r := by rw [if_neg (show ¬ (false = true) by decide)] at H; exact H
    clear H
    have H := H1
    clear H1
    obtain rfl := Option.some.inj H
    go_wp2
    go_ret
    exact ⟨by first | rfl | (simp [errW_none, errW_some] <;> rfl) | (simp [*, errW_none, errW_some] <;> rfl), by repeat (first | (with_reducible first | exact HB.out | apply below_alloc | apply pw_below_drewN | apply below_drew1 | refine below_set ?_ GE205.out) | exact HB.out)⟩

end Go.Proofs.Ytcpmlelejlmpdaa.QFnExactSplitObject
