-- A text of this session, printed by a program of its own (wip/tools: xpatch.py, xprint.sh, mkq.py). No condition.
import Derived.Maps.Own
import Derived.Maps.OwnSet
import Derived.Maps.Views
import Derived.Test.YtepnjhmdcaolkaaDoorQFnExactWriteRequestx0
import Derived.Test.YtepnjhmdcaolkaaDoorQFnExactWriteRequestx9
namespace Go.Proofs.YtepnjhmdcaolkaaDoor.QFnExactWriteRequest
open Go.RowKit Go.Proofs.YtepnjhmdcaolkaaDoorW.PrintWords Go.Proofs.YtepnjhmdcaolkaaDoorW.PrintLast Go.Proofs.YtepnjhmdcaolkaaDoorW.PrintMore
attribute [local go_sem] max2_int min2_int max_two min_two max_three min_three max_four min_four   -- for this text's walks alone
set_option linter.unusedVariables false
set_option linter.unusedSimpArgs false

/-! ### impl_pairsRight: function 26 -/
/-! A set of strings, kept as a map to bools: what the walk carries of it. -/
namespace MS
theorem bytes_ext {x y : ByteArray} (h : x.data.toList = y.data.toList) : x = y := by
  cases x; cases y
  simp only [ByteArray.mk.injEq]
  exact Array.toList_inj.1 h
instance decB : DecidableEq ByteArray := fun x y => if h : x.data.toList = y.data.toList then isTrue (bytes_ext h) else isFalse (fun e => h (by rw [e]))
instance memB : (x : ByteArray) → (xs : List ByteArray) → Decidable (x ∈ xs)
  | _, [] => isFalse (by simp)
  | x, y :: ys => if h : x = y then isTrue (by simp [h]) else match memB x ys with
    | isTrue m => isTrue (by simp [m])
    | isFalse m => isFalse (by simp [h, m])
/-- The value is a map of the call's own; true stands at just the numbers of a list. -/
def R (w : World) (base : Nat) (ok : Nat → Prop) (v : Value) (xs : List ByteArray) : Prop :=
  ∃ (b n : Nat) (D : DataW Unit), v = .map (some b) ∧ base ≤ b ∧ ok b ∧ n ≤ xs.length ∧ w.ownsMap Tryd.prog 9 (plainElem Tryd.prog 4) b n D ∧
    ((∀ x : ByteArray, D.atKey (.string x.data.toList) (.lit (.bool false)) = .lit (.bool (decide (x ∈ xs)))) ∧ (∀ x : ByteArray, Maps.has D (.string x.data.toList) = decide (x ∈ xs)) ∧ (xs.Nodup → Maps.size D = xs.length))
def blockOf : Value → Option Nat
  | .map b => b
  | _ => none
variable {w w1 : World} {base : Nat} {ok ok' : Nat → Prop} {v : Value} {xs : List ByteArray}
theorem R_mono (h : R w base ok v xs) (hok : ∀ k, ok k → ok' k) : R w base ok' v xs := by
  obtain ⟨b, n, D, h1, h2, h3, h4⟩ := h
  exact ⟨b, n, D, h1, h2, hok b h3, h4⟩
theorem R_lower {base' : Nat} (h : R w base ok v xs) (hb : base' ≤ base) : R w base' ok v xs := by
  obtain ⟨b, n, D, h1, h2, h3⟩ := h
  exact ⟨b, n, D, h1, Nat.le_trans hb h2, h3⟩
theorem R_grown (h : R w base ok v xs) {row : Option Nat} (hg : w.grownBy w1 row) (hne : ∀ k, ok k → some k ≠ row) : R w1 base ok v xs := by
  obtain ⟨b, n, D, h1, h2, h3, h4, h5, h6⟩ := h
  exact ⟨b, n, D, h1, h2, h3, h4, h5.kept hg (hne b h3), h6⟩
theorem R_below (h : R w base ok v xs) (hb : Below w.heap.size w w1) : R w1 base ok v xs := R_grown h (grown_of_below hb none) (fun _ _ => by simp)
theorem R_alloc (h : R w base ok v xs) (o : Obj) : R (w.alloc o) base ok v xs := R_below h (below_alloc (Below.refl _ _) o)
theorem R_drew (h : R w base ok v xs) : R w.drew base ok v xs := R_below h (below_drew (Below.refl _ _))
theorem R_drewN (h : R w base ok v xs) (m : Nat) : R (w.drewN m) base ok v xs := R_below h (pw_below_drewN (Below.refl _ _) m)
theorem R_far (h : R w base ok v xs) {p : Addr} (hok : ∀ k, ok k → k ≠ p.block) (u : Value) : R (w.setCell p u) base ok v xs := by
  obtain ⟨b, n, D, h1, h2, h3, h4, h5, h6⟩ := h
  exact ⟨b, n, D, h1, h2, h3, h4, h5.setCell (hok b h3) u, h6⟩
theorem R_types (h : R w base ok v xs) {g t : Nat} {cells : Array Value} (hb : w.heap[g]? = some (.cells cells t (0, 0))) (_ : True) : R w base (fun k => ok k ∧ k ≠ g) v xs := by
  obtain ⟨b, n, D, h1, h2, h3, h4, h5, h6⟩ := h
  refine ⟨b, n, D, h1, h2, ⟨h3, ?_⟩, h4, h5, h6⟩
  rintro rfl
  obtain ⟨es, clock, hh, _⟩ := h5
  rw [hh] at hb
  cases hb
theorem R_ne (h : R w base ok v xs) {g t : Nat} {cells : Array Value} (hb : w.heap[g]? = some (.cells cells t (0, 0))) (_ : True) : some g ≠ blockOf v := by
  obtain ⟨b, n, D, rfl, h2, h3, h4, h5, h6⟩ := h
  intro e
  have e2 : g = b := Option.some.inj e
  subst e2
  obtain ⟨es, clock, hh, _⟩ := h5
  rw [hh] at hb
  cases hb
theorem R_map (h : R w base ok v xs) : ∃ b, v = .map (some b) := by
  obtain ⟨b, n, D, h1, _⟩ := h
  exact ⟨b, h1⟩
theorem zeroE (w : World) : (zeroValue 4).run Tryd.prog w = .ok (.bool false) w := by kernel_rfl
theorem elem_inv {P : Program} {e : TypeId} (he : P.underlying e = some .bool) {u : Value} {c : Bool} {ps : List MemPlace} (h : plainElem (H := Unit) P e u = some (.lit (.bool c), ps)) : u = .bool c := by
  unfold plainElem at h
  rw [he] at h
  cases u <;> simp at h
  rw [h.1]
theorem look (h : R w base ok v xs) (x : ByteArray) (hx : x.size ≤ maxLen) : (Instr.lookup 76 v (.string x) false).run Tryd.prog w = .ok (.bool (decide (x ∈ xs))) w := by
  obtain ⟨b, n, D, rfl, h2, h3, h4, h5, h6⟩ := h
  obtain ⟨u, ps, hrun, hu⟩ := h5.lookup (Maps.string_keyed Tryd.underlying9) Tryd.underlying76 (zeroE w) (plainElem_bool Tryd.underlying4 false) (WideMaps.keyOf_string_mk Tryd.underlying9 hx)
  rw [h6.1 x] at hu
  rw [elem_inv Tryd.underlying4 hu] at hrun
  exact hrun
theorem put (h : R w base ok v xs) (x : ByteArray) (hx : x.size ≤ maxLen) (hl : xs.length < maxLen) :
    ∃ w', (Instr.mapUpdate 76 v (.string x) (.bool true)).run Tryd.prog w = .ok () w' ∧ R w' base ok v (xs ++ [x]) ∧ w.grownBy w' (blockOf v) := by
  obtain ⟨b, n, D, rfl, h2, h3, h4, h5, h6⟩ := h
  obtain ⟨w', hrun, ho, hg⟩ := h5.update (Maps.string_keyed Tryd.underlying9) Tryd.underlying76 (Nat.lt_of_le_of_lt h4 hl) (WideMaps.keyOf_string_mk Tryd.underlying9 hx) (plainElem_bool Tryd.underlying4 true)
  refine ⟨w', hrun, ⟨b, n + 1, _, rfl, h2, h3, by simp; omega, ho, ⟨fun y => ?_, fun y => ?_, fun hnd => ?_⟩⟩, hg⟩
  · by_cases e : y = x
    · subst e
      rw [Maps.atKey_put_same h5.isMap (show WideAt.IsKeyLit (.string y.data.toList) from trivial)]
      simp
    · rw [Maps.atKey_put_other (fun e2 => e (bytes_ext (Lit.string.inj e2))), h6.1 y]
      simp [e]
  · by_cases e : y = x
    · subst e
      rw [Maps.has_put_same h5.isMap (show WideAt.IsKeyLit (.string y.data.toList) from trivial)]
      simp
    · rw [Maps.has_put_other (fun e2 => e (bytes_ext (Lit.string.inj e2))), h6.2.1 y]
      simp [e]
  · rw [Maps.size_put (h5.tidy (Maps.string_keyed Tryd.underlying9)), h6.2.1 x]
    have h7 := List.nodup_append.1 hnd
    have h8 : ¬ x ∈ xs := fun hm => h7.2.2 x hm x (by simp) rfl
    rw [decide_eq_false h8, if_neg (by decide), h6.2.2 h7.1]
    simp
theorem made (w : World) {ok : Nat → Prop} (hok : ok w.heap.size) : R (w.alloc (.map #[] 0)) w.heap.size ok (.map (some w.heap.size)) [] :=
  ⟨w.heap.size, 0, _, rfl, Nat.le_refl _, hok, Nat.le_refl _, World.ownsMap_made w Tryd.prog 9 _, fun x => by simp [DataW.atKey], fun x => by simp [Maps.has], fun _ => rfl⟩
section
variable {ops : Array Oper} {rest : List Oper} {o : Oper} {a : Act} {Q : Exit → Act → World → Prop}
theorem R_make {W : World} (hgd : o.guard = none) {N : Tmp} (_hd : o.dst = some N) (ho : o.op = .makeMap 76 none)
    (h : ∀ v1 w1, R w1 W.heap.size (fun _ => True) v1 ([] : List ByteArray) → Below W.heap.size W w1 → True → True → wpList Tryd.prog ops Q rest (a.put o.dst v1) w1) : wpList Tryd.prog ops Q (o :: rest) a W := by
  refine Kd.event_run (v := .map (some W.heap.size)) (w1 := W.alloc (.map #[] 0)) hgd ?_ (h _ _ (made W trivial) (below_alloc (Below.refl _ _) _) trivial trivial)
  have hr : (Instr.makeMap 76 none).run Tryd.prog W = .ok (.map (some W.heap.size)) (W.alloc (.map #[] 0)) := rfl
  simp [execOp, ho, hr, Result.andThen]
theorem R_look {W : World} (hgd : o.guard = none) {m x : Operand} (ho : o.op = .lookup 76 m x false) (hm : a.eval m = v) {y : ByteArray} (hx : a.eval x = .string y) (hR : R W base ok v xs) (hy : y.size ≤ maxLen) {t : Bool} (ht : decide (y ∈ xs) = t)
    (h : wpList Tryd.prog ops Q rest (a.put o.dst (.bool t)) W) : wpList Tryd.prog ops Q (o :: rest) a W := by
  subst ht
  refine Kd.event_run (v := .bool (decide (y ∈ xs))) (w1 := W) hgd ?_ h
  simp [execOp, ho, hm, hx, look hR y hy]
theorem R_put {w0 W : World} (hgd : o.guard = none) {m x c : Operand} (ho : o.op = .mapUpdate 76 m x c) (hm : a.eval m = v) {y : ByteArray} (hx : a.eval x = .string y) (hc : a.eval c = .bool true) (hR : R W base ok v xs) (hy : y.size ≤ maxLen) (hl : xs.length < maxLen) (hB : Below base w0 W)
    (h : ∀ w1, R w1 base ok v (xs ++ [y]) → Below base w0 w1 → W.grownBy w1 (blockOf v) → wpList Tryd.prog ops Q rest (a.put o.dst undef) w1) : wpList Tryd.prog ops Q (o :: rest) a W := by
  obtain ⟨w', hrun, h1, h2⟩ := put hR y hy hl
  have hb : ∀ k, blockOf v = some k → base ≤ k := by
    obtain ⟨b, n, D, rfl, h3, _⟩ := hR
    intro k hk
    obtain rfl := Option.some.inj hk
    exact h3
  refine wpList_plain hgd fun K' hK' => ?_
  unfold Oper.wp
  simp [execOp, ho, hm, hx, hc, hrun, Result.andThen]
  exact hK' _ _ (h w' h1 (hB.grown h2 (by have hle := h1; obtain ⟨b, n, D, e1, h3, _, _, h5, _⟩ := hR; exact Nat.le_trans h3 (Nat.le_of_lt h5.lt)) hb) h2)
theorem R_len {W : World} (hgd : o.guard = none) {m : Operand} (ho : o.op = .call { callee := .builtin .len, args := #[m], argTypes := #[76] }) (hm : a.eval m = v) (hR : R W base ok v xs) (hn : xs.Nodup)
    (h : wpList Tryd.prog ops Q rest (a.put o.dst (.int .i64 (xs.length : Int))) W) : wpList Tryd.prog ops Q (o :: rest) a W := by
  obtain ⟨b, n, D, rfl, h2, h3, h4, h5, h6⟩ := hR
  refine wpList_len_own W hgd m 76 ho 9 4 Tryd.underlying76 _ b n D hm h5 ?_
  rw [h6.2.2 hn]
  exact h
end
end MS

/-- The pairs' tests that are handed on as function values, by their numbers. -/
def pairP (k : Nat) (code : Int) (a b : ByteArray) : Option Bool := if code = 27 then impl_isQuery.f a b else if code = 28 then impl_isHeader.f k a b else none
def impl_pairsRight.l0 : Nat → List (S45) → Int → List ByteArray → Int → Option Bool
  | 0, _, _, _, _ => none
  | k + 1, l, code, xs, i => if i < (l.length : Int) then (if 0 ≤ i then ((pairP k code (rd_T45 l i).f0 (rd_T45 l i).f1).bind fun b => (if b = true then (if (rd_T45 l i).f0.size ≤ maxLen then (if xs.length < maxLen then (if (rd_T45 l i).f0 ∈ xs then (some false) else (impl_pairsRight.l0 k l code (xs ++ [(rd_T45 l i).f0]) (wrap64 (i + 1)))) else (none)) else (none)) else (some false))) else (none)) else (some (decide ((l.length : Int) ≤ 30)))
def impl_pairsRight.f (k : Nat) (l : List (S45)) (code : Int) : Option Bool := impl_pairsRight.l0 k l code [] 0
theorem pairP.mono (code : Int) (a b : ByteArray) (k : Nat) : LeO (pairP k code a b) (pairP (k + 1) code a b) := by
  unfold pairP
  refine LeO.ite (LeO.refl _) (LeO.ite (impl_isHeader.mono _ _ _) (LeO.none _))
theorem impl_pairsRight.mono_l : ∀ k, (∀ y0 y1 y2 y3, LeO (impl_pairsRight.l0 k y0 y1 y2 y3) (impl_pairsRight.l0 (k + 1) y0 y1 y2 y3))
  | 0 => fun _ _ _ _ r h => by simp [impl_pairsRight.l0] at h
  | k + 1 => by
    have ih0 := impl_pairsRight.mono_l k
    · intro y0 y1 y2 y3
      unfold impl_pairsRight.l0
      repeat' first
      | (with_reducible exact ih0 _ _ _ _)
      | (with_reducible exact pairP.mono _ _ _ _)
      | (with_reducible exact LeO.refl _)
      | (with_reducible exact LeO.none _)
      | (with_reducible refine LeO.ite ?_ ?_)
      | (with_reducible refine LeO.bind ?_ (fun _ => ?_))
      | exact ih0 _ _ _ _
      | exact LeO.none _
      | refine LeO.ite ?_ ?_
      | refine LeO.bind ?_ (fun _ => ?_)
theorem impl_pairsRight.mono : ∀ a0 a1 k, LeO (impl_pairsRight.f k a0 a1) (impl_pairsRight.f (k + 1) a0 a1) := by
  intro a0 a1 k
  exact impl_pairsRight.mono_l k _ _ _ _
set_option maxHeartbeats 8000000 in
set_option maxRecDepth 100000 in
theorem impl_pairsRight.calls27 (k : Nat) (A0 : Option Addr) (c0 : Nat) (l0 : List (S45)) (r : Bool) (w : World) (hr0 : Kd.C k45 w A0 l0.length l0) (hc0 : l0.length ≤ c0) (h : impl_pairsRight.f k l0 27 = some r) :
  Calls Tryd.prog 26 #[.slice A0 l0.length c0, .func (.func 27) #[] #[]] w fun e w' => e = .returned (.bool r) ∧ Below w.heap.size w w' := by
 have hu45 := Tryd.underlying45
 have HR0 := Aside0.mk hr0
 have HC0 := Aside0.mk hc0
 clear hr0 hc0
 have HB := Aside0.mk (Below.refl w.heap.size w)
 have H' := Aside0.mk (show impl_pairsRight.l0 k l0 27 [] 0 = some r from h)
 clear h
 go_enter Tryd.func26, Tryd.ntmps26
 go_wp2_with (first | ((with_reducible refine gate_dst (N := 8) rfl ?_); refine MS.R_make rfl rfl rfl ?_; intro v8 w4 ho hb hg_ hnew_; have n0_ := Aside0.mk (MS.R_lower ho (below_size HB.out)); have n1_ := Aside0.mk (below_step HB.out hb); clear HB; have HM := n0_; have HB := n1_; clear n0_ n1_; clear hb ho hg_ hnew_))
 go_loopg [11] k (fun kq v11 w' => ∃ (i : Int) (xs : List ByteArray), v11 = .int .i64 i ∧ Aside0 (impl_pairsRight.l0 kq l0 27 xs i = some r) ∧ Aside0 (kq ≤ k) ∧ Aside0 (MS.R w' w.heap.size (fun _ => True) v8 xs) ∧ Aside0 (Below w.heap.size w w'))
 case atStart => exact ⟨0, [], rfl, H', ⟨Nat.le_refl _⟩, HM, HB⟩
 case round =>
  clear H' HB HM
  obtain ⟨i, xs, rfl, HA, HK1, HM, HB⟩ := hrel
  cases gk with
  | zero => exact absurd HA.out (by simp [impl_pairsRight.l0])
  | succ k1 =>
   have H := HA.out
   clear HA
   simp only [impl_pairsRight.l0] at H
   by_cases c3 : i < (l0.length : Int)
   rotate_left
   ·
    rw [if_neg c3] at H
    have c3b0 : decide (i < (l0.length : Int)) = false := decide_eq_false c3
    clear c3
    obtain rfl := Option.some.inj H
    go_wp2
    go_ret
    exact ⟨rfl, HB.out⟩
   rw [if_pos c3] at H
   have c3b0 : decide (i < (l0.length : Int)) = true := decide_eq_true c3
   by_cases c4 : 0 ≤ i
   rotate_left
   ·
    rw [if_neg c4] at H
    exact absurd H (by simp)
   rw [if_pos c4] at H
   have c4b0 : decide (0 ≤ i) = true := decide_eq_true c4
   obtain ⟨b, A80, H⟩ := Option.bind_eq_some_iff.mp H
   replace A80 : impl_isQuery.f (rd_T45 l0 i).f0 (rd_T45 l0 i).f1 = some b := A80
   have A8 := Aside0.mk A80
   clear A80
   cases b with
   | true =>
    by_cases c5 : (rd_T45 l0 i).f0.size ≤ maxLen
    rotate_left
    ·
     exact absurd H (by simp [c5])
    by_cases c6 : xs.length < maxLen
    rotate_left
    ·
     exact absurd H (by simp [c6])
    have S8 := Aside0.mk c5
    have L8 := Aside0.mk c6
    simp only [if_true, if_pos c5, if_pos c6] at H
    clear c5 c6
    by_cases c7 : (rd_T45 l0 i).f0 ∈ xs
    ·
     rw [if_pos c7] at H
     have I8 := Aside0.mk (decide_eq_true c7)
     clear c7
     obtain rfl := Option.some.inj H
     clear H
     obtain ⟨ad, e_, hx0, hx1⟩ := at_T45 HR0.out i c4 c3
     cases e_
     replace hx0 := Grow.bc HB.out hx0
     replace hx1 := Grow.bc HB.out hx1
     have p4 := eq_true c4
     have q4 := eq_true c3
     clear c3 c4
     go_wp2_with (first | ((with_reducible refine gate_dst (N := 7) rfl ?_); refine box_event ?hg (N := 7) ?hd (cs := #[.string ⟨#[]⟩, .string ⟨#[]⟩]) (t := 45) ?hr ?_; (case hd => rfl); (case hg => rfl); (case hr => first | (go_simp; done) | (go_simp; rfl)); intro gb hg w8 hbox hb; have n0_ := Aside0.mk (below_step HB.out hb); have n1_ := Aside0.mk hbox; have n2_ := Aside0.mk ((by rw [hg]; exact (below_size HB.out)) : w.heap.size ≤ gb); have n3_ := Aside0.mk (MS.R_below HM.out hb); clear HB HM; have HB := n0_; have BK := n1_; have GW := n2_; have HM := n3_; clear n0_ n1_ n2_ n3_; clear hb hbox hg; have hcz0 : w8.cell? ⟨gb, 0, none⟩ = some (.string ⟨#[]⟩) := (blk_cell BK.out 0).trans rfl; have hcz1 : w8.cell? ⟨gb, 1, none⟩ = some (.string ⟨#[]⟩) := (blk_cell BK.out 1).trans rfl; have hfz0 := blk_frozen BK.out 0; have hfz1 := blk_frozen BK.out 1) | ((with_reducible refine gate_store (t := 45) (p := 7) rfl ?_); refine store_event (t := 45) (p := 7) (v := ?vo) (w1 := ((w8.setCell ⟨gb, 0, none⟩ (.string (rd_T45 l0 i).f0)).setCell ⟨gb, 1, none⟩ (.string (rd_T45 l0 i).f1))) ?hg ?ho ?hn ?hr ?_; (case ho => rfl); (case hg => rfl); (case hn => rfl); (case hr => first | (go_simp; done) | (go_simp; rfl)); intro w10 hw; have n0_ := Aside0.mk ((by rw [hw]; exact below_set (below_set HB.out GW.out) GW.out) : Below w.heap.size w w10); have n1_ := Aside0.mk ((by rw [hw]; exact blk_put (blk_put BK.out 0 _ rfl) 1 _ rfl) : w10.heap[gb]? = some (.cells #[.string (rd_T45 l0 i).f0, .string (rd_T45 l0 i).f1] 45 (0, 0))); have n2_ := Aside0.mk ((by rw [hw]; exact MS.R_far (MS.R_far (MS.R_types HM.out BK.out trivial) (fun _ h_ => h_.2) _) (fun _ h_ => h_.2) _) : MS.R w10 w.heap.size (fun k_ => True ∧ k_ ≠ gb) v8 xs); have n3_ := Aside0.mk (MS.R_mono n2_.out (fun _ _ => trivial)); clear HB BK HM; have HB := n0_; have BK := n1_; have HM := n3_; clear n0_ n1_ n2_ n3_; clear hw; have hcx0 : w10.cell? ⟨gb, 0, none⟩ = some (.string (rd_T45 l0 i).f0) := (blk_cell BK.out 0).trans rfl; have hcx1 : w10.cell? ⟨gb, 1, none⟩ = some (.string (rd_T45 l0 i).f1) := (blk_cell BK.out 1).trans rfl) | (go_at_call 27; (with_reducible refine (impl_isQuery.calls (rd_T45 l0 i).f0 (rd_T45 l0 i).f1 true _ A8.out).mono ?_); rintro e w9 ⟨rfl, hb⟩; have n0_ := Aside0.mk (below_step HB.out hb); have n1_ := Aside0.mk (blk_below BK.out hb); have n2_ := Aside0.mk (MS.R_below HM.out hb); clear HB BK HM; have HB := n0_; have BK := n1_; have HM := n2_; clear n0_ n1_ n2_; clear hb; have hcy0 : w9.cell? ⟨gb, 0, none⟩ = some (.string (rd_T45 l0 i).f0) := (blk_cell BK.out 0).trans rfl; have hcy1 : w9.cell? ⟨gb, 1, none⟩ = some (.string (rd_T45 l0 i).f1) := (blk_cell BK.out 1).trans rfl) | ((with_reducible refine gate_dst (N := 23) rfl ?_); (try (refine gate_guard (by rfl) ?_; dsimp only)); refine MS.R_look (base := w.heap.size) (ok := fun _ => True) (xs := xs) (y := (rd_T45 l0 i).f0) (t := true) rfl rfl rfl rfl HM.out S8.out I8.out ?_))
     go_ret
     exact ⟨rfl, HB.out⟩
    rw [if_neg c7] at H
    have I8 := Aside0.mk (decide_eq_false c7)
    clear c7
    have H' := Aside0.mk H
    clear H
    obtain ⟨ad, e_, hx0, hx1⟩ := at_T45 HR0.out i c4 c3
    cases e_
    replace hx0 := Grow.bc HB.out hx0
    replace hx1 := Grow.bc HB.out hx1
    have p4 := eq_true c4
    have q4 := eq_true c3
    clear c3 c4
    go_wp2_with (first | ((with_reducible refine gate_dst (N := 7) rfl ?_); refine box_event ?hg (N := 7) ?hd (cs := #[.string ⟨#[]⟩, .string ⟨#[]⟩]) (t := 45) ?hr ?_; (case hd => rfl); (case hg => rfl); (case hr => first | (go_simp; done) | (go_simp; rfl)); intro gb hg w8 hbox hb; have n0_ := Aside0.mk (below_step HB.out hb); have n1_ := Aside0.mk hbox; have n2_ := Aside0.mk ((by rw [hg]; exact (below_size HB.out)) : w.heap.size ≤ gb); have n3_ := Aside0.mk (MS.R_below HM.out hb); clear HB HM; have HB := n0_; have BK := n1_; have GW := n2_; have HM := n3_; clear n0_ n1_ n2_ n3_; clear hb hbox hg; have hcz0 : w8.cell? ⟨gb, 0, none⟩ = some (.string ⟨#[]⟩) := (blk_cell BK.out 0).trans rfl; have hcz1 : w8.cell? ⟨gb, 1, none⟩ = some (.string ⟨#[]⟩) := (blk_cell BK.out 1).trans rfl; have hfz0 := blk_frozen BK.out 0; have hfz1 := blk_frozen BK.out 1) | ((with_reducible refine gate_store (t := 45) (p := 7) rfl ?_); refine store_event (t := 45) (p := 7) (v := ?vo) (w1 := ((w8.setCell ⟨gb, 0, none⟩ (.string (rd_T45 l0 i).f0)).setCell ⟨gb, 1, none⟩ (.string (rd_T45 l0 i).f1))) ?hg ?ho ?hn ?hr ?_; (case ho => rfl); (case hg => rfl); (case hn => rfl); (case hr => first | (go_simp; done) | (go_simp; rfl)); intro w10 hw; have n0_ := Aside0.mk ((by rw [hw]; exact below_set (below_set HB.out GW.out) GW.out) : Below w.heap.size w w10); have n1_ := Aside0.mk ((by rw [hw]; exact blk_put (blk_put BK.out 0 _ rfl) 1 _ rfl) : w10.heap[gb]? = some (.cells #[.string (rd_T45 l0 i).f0, .string (rd_T45 l0 i).f1] 45 (0, 0))); have n2_ := Aside0.mk ((by rw [hw]; exact MS.R_far (MS.R_far (MS.R_types HM.out BK.out trivial) (fun _ h_ => h_.2) _) (fun _ h_ => h_.2) _) : MS.R w10 w.heap.size (fun k_ => True ∧ k_ ≠ gb) v8 xs); have n3_ := Aside0.mk (MS.R_mono n2_.out (fun _ _ => trivial)); clear HB BK HM; have HB := n0_; have BK := n1_; have HM := n3_; clear n0_ n1_ n2_ n3_; clear hw; have hcx0 : w10.cell? ⟨gb, 0, none⟩ = some (.string (rd_T45 l0 i).f0) := (blk_cell BK.out 0).trans rfl; have hcx1 : w10.cell? ⟨gb, 1, none⟩ = some (.string (rd_T45 l0 i).f1) := (blk_cell BK.out 1).trans rfl) | (go_at_call 27; (with_reducible refine (impl_isQuery.calls (rd_T45 l0 i).f0 (rd_T45 l0 i).f1 true _ A8.out).mono ?_); rintro e w9 ⟨rfl, hb⟩; have n0_ := Aside0.mk (below_step HB.out hb); have n1_ := Aside0.mk (blk_below BK.out hb); have n2_ := Aside0.mk (MS.R_below HM.out hb); clear HB BK HM; have HB := n0_; have BK := n1_; have HM := n2_; clear n0_ n1_ n2_; clear hb; have hcy0 : w9.cell? ⟨gb, 0, none⟩ = some (.string (rd_T45 l0 i).f0) := (blk_cell BK.out 0).trans rfl; have hcy1 : w9.cell? ⟨gb, 1, none⟩ = some (.string (rd_T45 l0 i).f1) := (blk_cell BK.out 1).trans rfl) | ((with_reducible refine gate_dst (N := 23) rfl ?_); (try (refine gate_guard (by rfl) ?_; dsimp only)); refine MS.R_look (base := w.heap.size) (ok := fun _ => True) (xs := xs) (y := (rd_T45 l0 i).f0) (t := false) rfl rfl rfl rfl HM.out S8.out I8.out ?_) | (at_mapUpdate; refine MS.R_put (w0 := w) (base := w.heap.size) (ok := fun _ => True) rfl rfl rfl rfl rfl HM.out S8.out L8.out HB.out ?_; intro w12 ho hb hg; have n0_ := Aside0.mk ho; have n1_ := Aside0.mk hb; clear HM HB; have HM := n0_; have HB := n1_; clear n0_ n1_; clear ho hb hg))
    go_roundg k1
    case measure => have := HK1.out; omega
    case rel => exact ⟨wrap64 (i + 1), xs ++ [(rd_T45 l0 i).f0], rfl, H', ⟨by have := HK1.out; omega⟩, HM, HB⟩
   | false =>
    obtain rfl := Option.some.inj (show some false = some r from H)
    clear H
    obtain ⟨ad, e_, hx0, hx1⟩ := at_T45 HR0.out i c4 c3
    cases e_
    replace hx0 := Grow.bc HB.out hx0
    replace hx1 := Grow.bc HB.out hx1
    have p4 := eq_true c4
    have q4 := eq_true c3
    clear c3 c4
    go_wp2_with (first | ((with_reducible refine gate_dst (N := 7) rfl ?_); refine box_event ?hg (N := 7) ?hd (cs := #[.string ⟨#[]⟩, .string ⟨#[]⟩]) (t := 45) ?hr ?_; (case hd => rfl); (case hg => rfl); (case hr => first | (go_simp; done) | (go_simp; rfl)); intro gb hg w8 hbox hb; have n0_ := Aside0.mk (below_step HB.out hb); have n1_ := Aside0.mk hbox; have n2_ := Aside0.mk ((by rw [hg]; exact (below_size HB.out)) : w.heap.size ≤ gb); have n3_ := Aside0.mk (MS.R_below HM.out hb); clear HB HM; have HB := n0_; have BK := n1_; have GW := n2_; have HM := n3_; clear n0_ n1_ n2_ n3_; clear hb hbox hg; have hcz0 : w8.cell? ⟨gb, 0, none⟩ = some (.string ⟨#[]⟩) := (blk_cell BK.out 0).trans rfl; have hcz1 : w8.cell? ⟨gb, 1, none⟩ = some (.string ⟨#[]⟩) := (blk_cell BK.out 1).trans rfl; have hfz0 := blk_frozen BK.out 0; have hfz1 := blk_frozen BK.out 1) | ((with_reducible refine gate_store (t := 45) (p := 7) rfl ?_); refine store_event (t := 45) (p := 7) (v := ?vo) (w1 := ((w8.setCell ⟨gb, 0, none⟩ (.string (rd_T45 l0 i).f0)).setCell ⟨gb, 1, none⟩ (.string (rd_T45 l0 i).f1))) ?hg ?ho ?hn ?hr ?_; (case ho => rfl); (case hg => rfl); (case hn => rfl); (case hr => first | (go_simp; done) | (go_simp; rfl)); intro w10 hw; have n0_ := Aside0.mk ((by rw [hw]; exact below_set (below_set HB.out GW.out) GW.out) : Below w.heap.size w w10); have n1_ := Aside0.mk ((by rw [hw]; exact blk_put (blk_put BK.out 0 _ rfl) 1 _ rfl) : w10.heap[gb]? = some (.cells #[.string (rd_T45 l0 i).f0, .string (rd_T45 l0 i).f1] 45 (0, 0))); have n2_ := Aside0.mk ((by rw [hw]; exact MS.R_far (MS.R_far (MS.R_types HM.out BK.out trivial) (fun _ h_ => h_.2) _) (fun _ h_ => h_.2) _) : MS.R w10 w.heap.size (fun k_ => True ∧ k_ ≠ gb) v8 xs); have n3_ := Aside0.mk (MS.R_mono n2_.out (fun _ _ => trivial)); clear HB BK HM; have HB := n0_; have BK := n1_; have HM := n3_; clear n0_ n1_ n2_ n3_; clear hw; have hcx0 : w10.cell? ⟨gb, 0, none⟩ = some (.string (rd_T45 l0 i).f0) := (blk_cell BK.out 0).trans rfl; have hcx1 : w10.cell? ⟨gb, 1, none⟩ = some (.string (rd_T45 l0 i).f1) := (blk_cell BK.out 1).trans rfl) | (go_at_call 27; (with_reducible refine (impl_isQuery.calls (rd_T45 l0 i).f0 (rd_T45 l0 i).f1 false _ A8.out).mono ?_); rintro e w9 ⟨rfl, hb⟩; have n0_ := Aside0.mk (below_step HB.out hb); have n1_ := Aside0.mk (blk_below BK.out hb); have n2_ := Aside0.mk (MS.R_below HM.out hb); clear HB BK HM; have HB := n0_; have BK := n1_; have HM := n2_; clear n0_ n1_ n2_; clear hb; have hcy0 : w9.cell? ⟨gb, 0, none⟩ = some (.string (rd_T45 l0 i).f0) := (blk_cell BK.out 0).trans rfl; have hcy1 : w9.cell? ⟨gb, 1, none⟩ = some (.string (rd_T45 l0 i).f1) := (blk_cell BK.out 1).trans rfl))
    go_ret
    exact ⟨rfl, HB.out⟩
set_option maxHeartbeats 8000000 in
set_option maxRecDepth 100000 in
theorem impl_pairsRight.calls28 (k : Nat) (A0 : Option Addr) (c0 : Nat) (l0 : List (S45)) (r : Bool) (w : World) (hr0 : Kd.C k45 w A0 l0.length l0) (hc0 : l0.length ≤ c0) (h : impl_pairsRight.f k l0 28 = some r) :
  Calls Tryd.prog 26 #[.slice A0 l0.length c0, .func (.func 28) #[] #[]] w fun e w' => e = .returned (.bool r) ∧ Below w.heap.size w w' := by
 have hu45 := Tryd.underlying45
 have HR0 := Aside0.mk hr0
 have HC0 := Aside0.mk hc0
 clear hr0 hc0
 have HB := Aside0.mk (Below.refl w.heap.size w)
 have H' := Aside0.mk (show impl_pairsRight.l0 k l0 28 [] 0 = some r from h)
 clear h
 go_enter Tryd.func26, Tryd.ntmps26
 go_wp2_with (first | ((with_reducible refine gate_dst (N := 8) rfl ?_); refine MS.R_make rfl rfl rfl ?_; intro v8 w4 ho hb hg_ hnew_; have n0_ := Aside0.mk (MS.R_lower ho (below_size HB.out)); have n1_ := Aside0.mk (below_step HB.out hb); clear HB; have HM := n0_; have HB := n1_; clear n0_ n1_; clear hb ho hg_ hnew_))
 go_loopg [11] k (fun kq v11 w' => ∃ (i : Int) (xs : List ByteArray), v11 = .int .i64 i ∧ Aside0 (impl_pairsRight.l0 kq l0 28 xs i = some r) ∧ Aside0 (kq ≤ k) ∧ Aside0 (MS.R w' w.heap.size (fun _ => True) v8 xs) ∧ Aside0 (Below w.heap.size w w'))
 case atStart => exact ⟨0, [], rfl, H', ⟨Nat.le_refl _⟩, HM, HB⟩
 case round =>
  clear H' HB HM
  obtain ⟨i, xs, rfl, HA, HK1, HM, HB⟩ := hrel
  cases gk with
  | zero => exact absurd HA.out (by simp [impl_pairsRight.l0])
  | succ k1 =>
   have H := HA.out
   clear HA
   simp only [impl_pairsRight.l0] at H
   by_cases c3 : i < (l0.length : Int)
   rotate_left
   ·
    rw [if_neg c3] at H
    have c3b0 : decide (i < (l0.length : Int)) = false := decide_eq_false c3
    clear c3
    obtain rfl := Option.some.inj H
    go_wp2
    go_ret
    exact ⟨rfl, HB.out⟩
   rw [if_pos c3] at H
   have c3b0 : decide (i < (l0.length : Int)) = true := decide_eq_true c3
   by_cases c4 : 0 ≤ i
   rotate_left
   ·
    rw [if_neg c4] at H
    exact absurd H (by simp)
   rw [if_pos c4] at H
   have c4b0 : decide (0 ≤ i) = true := decide_eq_true c4
   obtain ⟨b, A80, H⟩ := Option.bind_eq_some_iff.mp H
   replace A80 : impl_isHeader.f k1 (rd_T45 l0 i).f0 (rd_T45 l0 i).f1 = some b := A80
   have A8 := Aside0.mk A80
   clear A80
   cases b with
   | true =>
    by_cases c5 : (rd_T45 l0 i).f0.size ≤ maxLen
    rotate_left
    ·
     exact absurd H (by simp [c5])
    by_cases c6 : xs.length < maxLen
    rotate_left
    ·
     exact absurd H (by simp [c6])
    have S8 := Aside0.mk c5
    have L8 := Aside0.mk c6
    simp only [if_true, if_pos c5, if_pos c6] at H
    clear c5 c6
    by_cases c7 : (rd_T45 l0 i).f0 ∈ xs
    ·
     rw [if_pos c7] at H
     have I8 := Aside0.mk (decide_eq_true c7)
     clear c7
     obtain rfl := Option.some.inj H
     clear H
     obtain ⟨ad, e_, hx0, hx1⟩ := at_T45 HR0.out i c4 c3
     cases e_
     replace hx0 := Grow.bc HB.out hx0
     replace hx1 := Grow.bc HB.out hx1
     have p4 := eq_true c4
     have q4 := eq_true c3
     clear c3 c4
     go_wp2_with (first | ((with_reducible refine gate_dst (N := 7) rfl ?_); refine box_event ?hg (N := 7) ?hd (cs := #[.string ⟨#[]⟩, .string ⟨#[]⟩]) (t := 45) ?hr ?_; (case hd => rfl); (case hg => rfl); (case hr => first | (go_simp; done) | (go_simp; rfl)); intro gb hg w8 hbox hb; have n0_ := Aside0.mk (below_step HB.out hb); have n1_ := Aside0.mk hbox; have n2_ := Aside0.mk ((by rw [hg]; exact (below_size HB.out)) : w.heap.size ≤ gb); have n3_ := Aside0.mk (MS.R_below HM.out hb); clear HB HM; have HB := n0_; have BK := n1_; have GW := n2_; have HM := n3_; clear n0_ n1_ n2_ n3_; clear hb hbox hg; have hcz0 : w8.cell? ⟨gb, 0, none⟩ = some (.string ⟨#[]⟩) := (blk_cell BK.out 0).trans rfl; have hcz1 : w8.cell? ⟨gb, 1, none⟩ = some (.string ⟨#[]⟩) := (blk_cell BK.out 1).trans rfl; have hfz0 := blk_frozen BK.out 0; have hfz1 := blk_frozen BK.out 1) | ((with_reducible refine gate_store (t := 45) (p := 7) rfl ?_); refine store_event (t := 45) (p := 7) (v := ?vo) (w1 := ((w8.setCell ⟨gb, 0, none⟩ (.string (rd_T45 l0 i).f0)).setCell ⟨gb, 1, none⟩ (.string (rd_T45 l0 i).f1))) ?hg ?ho ?hn ?hr ?_; (case ho => rfl); (case hg => rfl); (case hn => rfl); (case hr => first | (go_simp; done) | (go_simp; rfl)); intro w10 hw; have n0_ := Aside0.mk ((by rw [hw]; exact below_set (below_set HB.out GW.out) GW.out) : Below w.heap.size w w10); have n1_ := Aside0.mk ((by rw [hw]; exact blk_put (blk_put BK.out 0 _ rfl) 1 _ rfl) : w10.heap[gb]? = some (.cells #[.string (rd_T45 l0 i).f0, .string (rd_T45 l0 i).f1] 45 (0, 0))); have n2_ := Aside0.mk ((by rw [hw]; exact MS.R_far (MS.R_far (MS.R_types HM.out BK.out trivial) (fun _ h_ => h_.2) _) (fun _ h_ => h_.2) _) : MS.R w10 w.heap.size (fun k_ => True ∧ k_ ≠ gb) v8 xs); have n3_ := Aside0.mk (MS.R_mono n2_.out (fun _ _ => trivial)); clear HB BK HM; have HB := n0_; have BK := n1_; have HM := n3_; clear n0_ n1_ n2_ n3_; clear hw; have hcx0 : w10.cell? ⟨gb, 0, none⟩ = some (.string (rd_T45 l0 i).f0) := (blk_cell BK.out 0).trans rfl; have hcx1 : w10.cell? ⟨gb, 1, none⟩ = some (.string (rd_T45 l0 i).f1) := (blk_cell BK.out 1).trans rfl) | (go_at_call 28; (with_reducible refine (impl_isHeader.calls k1 (rd_T45 l0 i).f0 (rd_T45 l0 i).f1 true _ A8.out).mono ?_); rintro e w9 ⟨rfl, hb⟩; have n0_ := Aside0.mk (below_step HB.out hb); have n1_ := Aside0.mk (blk_below BK.out hb); have n2_ := Aside0.mk (MS.R_below HM.out hb); clear HB BK HM; have HB := n0_; have BK := n1_; have HM := n2_; clear n0_ n1_ n2_; clear hb; have hcy0 : w9.cell? ⟨gb, 0, none⟩ = some (.string (rd_T45 l0 i).f0) := (blk_cell BK.out 0).trans rfl; have hcy1 : w9.cell? ⟨gb, 1, none⟩ = some (.string (rd_T45 l0 i).f1) := (blk_cell BK.out 1).trans rfl) | ((with_reducible refine gate_dst (N := 23) rfl ?_); (try (refine gate_guard (by rfl) ?_; dsimp only)); refine MS.R_look (base := w.heap.size) (ok := fun _ => True) (xs := xs) (y := (rd_T45 l0 i).f0) (t := true) rfl rfl rfl rfl HM.out S8.out I8.out ?_))
     go_ret
     exact ⟨rfl, HB.out⟩
    rw [if_neg c7] at H
    have I8 := Aside0.mk (decide_eq_false c7)
    clear c7
    have H' := Aside0.mk H
    clear H
    obtain ⟨ad, e_, hx0, hx1⟩ := at_T45 HR0.out i c4 c3
    cases e_
    replace hx0 := Grow.bc HB.out hx0
    replace hx1 := Grow.bc HB.out hx1
    have p4 := eq_true c4
    have q4 := eq_true c3
    clear c3 c4
    go_wp2_with (first | ((with_reducible refine gate_dst (N := 7) rfl ?_); refine box_event ?hg (N := 7) ?hd (cs := #[.string ⟨#[]⟩, .string ⟨#[]⟩]) (t := 45) ?hr ?_; (case hd => rfl); (case hg => rfl); (case hr => first | (go_simp; done) | (go_simp; rfl)); intro gb hg w8 hbox hb; have n0_ := Aside0.mk (below_step HB.out hb); have n1_ := Aside0.mk hbox; have n2_ := Aside0.mk ((by rw [hg]; exact (below_size HB.out)) : w.heap.size ≤ gb); have n3_ := Aside0.mk (MS.R_below HM.out hb); clear HB HM; have HB := n0_; have BK := n1_; have GW := n2_; have HM := n3_; clear n0_ n1_ n2_ n3_; clear hb hbox hg; have hcz0 : w8.cell? ⟨gb, 0, none⟩ = some (.string ⟨#[]⟩) := (blk_cell BK.out 0).trans rfl; have hcz1 : w8.cell? ⟨gb, 1, none⟩ = some (.string ⟨#[]⟩) := (blk_cell BK.out 1).trans rfl; have hfz0 := blk_frozen BK.out 0; have hfz1 := blk_frozen BK.out 1) | ((with_reducible refine gate_store (t := 45) (p := 7) rfl ?_); refine store_event (t := 45) (p := 7) (v := ?vo) (w1 := ((w8.setCell ⟨gb, 0, none⟩ (.string (rd_T45 l0 i).f0)).setCell ⟨gb, 1, none⟩ (.string (rd_T45 l0 i).f1))) ?hg ?ho ?hn ?hr ?_; (case ho => rfl); (case hg => rfl); (case hn => rfl); (case hr => first | (go_simp; done) | (go_simp; rfl)); intro w10 hw; have n0_ := Aside0.mk ((by rw [hw]; exact below_set (below_set HB.out GW.out) GW.out) : Below w.heap.size w w10); have n1_ := Aside0.mk ((by rw [hw]; exact blk_put (blk_put BK.out 0 _ rfl) 1 _ rfl) : w10.heap[gb]? = some (.cells #[.string (rd_T45 l0 i).f0, .string (rd_T45 l0 i).f1] 45 (0, 0))); have n2_ := Aside0.mk ((by rw [hw]; exact MS.R_far (MS.R_far (MS.R_types HM.out BK.out trivial) (fun _ h_ => h_.2) _) (fun _ h_ => h_.2) _) : MS.R w10 w.heap.size (fun k_ => True ∧ k_ ≠ gb) v8 xs); have n3_ := Aside0.mk (MS.R_mono n2_.out (fun _ _ => trivial)); clear HB BK HM; have HB := n0_; have BK := n1_; have HM := n3_; clear n0_ n1_ n2_ n3_; clear hw; have hcx0 : w10.cell? ⟨gb, 0, none⟩ = some (.string (rd_T45 l0 i).f0) := (blk_cell BK.out 0).trans rfl; have hcx1 : w10.cell? ⟨gb, 1, none⟩ = some (.string (rd_T45 l0 i).f1) := (blk_cell BK.out 1).trans rfl) | (go_at_call 28; (with_reducible refine (impl_isHeader.calls k1 (rd_T45 l0 i).f0 (rd_T45 l0 i).f1 true _ A8.out).mono ?_); rintro e w9 ⟨rfl, hb⟩; have n0_ := Aside0.mk (below_step HB.out hb); have n1_ := Aside0.mk (blk_below BK.out hb); have n2_ := Aside0.mk (MS.R_below HM.out hb); clear HB BK HM; have HB := n0_; have BK := n1_; have HM := n2_; clear n0_ n1_ n2_; clear hb; have hcy0 : w9.cell? ⟨gb, 0, none⟩ = some (.string (rd_T45 l0 i).f0) := (blk_cell BK.out 0).trans rfl; have hcy1 : w9.cell? ⟨gb, 1, none⟩ = some (.string (rd_T45 l0 i).f1) := (blk_cell BK.out 1).trans rfl) | ((with_reducible refine gate_dst (N := 23) rfl ?_); (try (refine gate_guard (by rfl) ?_; dsimp only)); refine MS.R_look (base := w.heap.size) (ok := fun _ => True) (xs := xs) (y := (rd_T45 l0 i).f0) (t := false) rfl rfl rfl rfl HM.out S8.out I8.out ?_) | (at_mapUpdate; refine MS.R_put (w0 := w) (base := w.heap.size) (ok := fun _ => True) rfl rfl rfl rfl rfl HM.out S8.out L8.out HB.out ?_; intro w12 ho hb hg; have n0_ := Aside0.mk ho; have n1_ := Aside0.mk hb; clear HM HB; have HM := n0_; have HB := n1_; clear n0_ n1_; clear ho hb hg))
    go_roundg k1
    case measure => have := HK1.out; omega
    case rel => exact ⟨wrap64 (i + 1), xs ++ [(rd_T45 l0 i).f0], rfl, H', ⟨by have := HK1.out; omega⟩, HM, HB⟩
   | false =>
    obtain rfl := Option.some.inj (show some false = some r from H)
    clear H
    obtain ⟨ad, e_, hx0, hx1⟩ := at_T45 HR0.out i c4 c3
    cases e_
    replace hx0 := Grow.bc HB.out hx0
    replace hx1 := Grow.bc HB.out hx1
    have p4 := eq_true c4
    have q4 := eq_true c3
    clear c3 c4
    go_wp2_with (first | ((with_reducible refine gate_dst (N := 7) rfl ?_); refine box_event ?hg (N := 7) ?hd (cs := #[.string ⟨#[]⟩, .string ⟨#[]⟩]) (t := 45) ?hr ?_; (case hd => rfl); (case hg => rfl); (case hr => first | (go_simp; done) | (go_simp; rfl)); intro gb hg w8 hbox hb; have n0_ := Aside0.mk (below_step HB.out hb); have n1_ := Aside0.mk hbox; have n2_ := Aside0.mk ((by rw [hg]; exact (below_size HB.out)) : w.heap.size ≤ gb); have n3_ := Aside0.mk (MS.R_below HM.out hb); clear HB HM; have HB := n0_; have BK := n1_; have GW := n2_; have HM := n3_; clear n0_ n1_ n2_ n3_; clear hb hbox hg; have hcz0 : w8.cell? ⟨gb, 0, none⟩ = some (.string ⟨#[]⟩) := (blk_cell BK.out 0).trans rfl; have hcz1 : w8.cell? ⟨gb, 1, none⟩ = some (.string ⟨#[]⟩) := (blk_cell BK.out 1).trans rfl; have hfz0 := blk_frozen BK.out 0; have hfz1 := blk_frozen BK.out 1) | ((with_reducible refine gate_store (t := 45) (p := 7) rfl ?_); refine store_event (t := 45) (p := 7) (v := ?vo) (w1 := ((w8.setCell ⟨gb, 0, none⟩ (.string (rd_T45 l0 i).f0)).setCell ⟨gb, 1, none⟩ (.string (rd_T45 l0 i).f1))) ?hg ?ho ?hn ?hr ?_; (case ho => rfl); (case hg => rfl); (case hn => rfl); (case hr => first | (go_simp; done) | (go_simp; rfl)); intro w10 hw; have n0_ := Aside0.mk ((by rw [hw]; exact below_set (below_set HB.out GW.out) GW.out) : Below w.heap.size w w10); have n1_ := Aside0.mk ((by rw [hw]; exact blk_put (blk_put BK.out 0 _ rfl) 1 _ rfl) : w10.heap[gb]? = some (.cells #[.string (rd_T45 l0 i).f0, .string (rd_T45 l0 i).f1] 45 (0, 0))); have n2_ := Aside0.mk ((by rw [hw]; exact MS.R_far (MS.R_far (MS.R_types HM.out BK.out trivial) (fun _ h_ => h_.2) _) (fun _ h_ => h_.2) _) : MS.R w10 w.heap.size (fun k_ => True ∧ k_ ≠ gb) v8 xs); have n3_ := Aside0.mk (MS.R_mono n2_.out (fun _ _ => trivial)); clear HB BK HM; have HB := n0_; have BK := n1_; have HM := n3_; clear n0_ n1_ n2_ n3_; clear hw; have hcx0 : w10.cell? ⟨gb, 0, none⟩ = some (.string (rd_T45 l0 i).f0) := (blk_cell BK.out 0).trans rfl; have hcx1 : w10.cell? ⟨gb, 1, none⟩ = some (.string (rd_T45 l0 i).f1) := (blk_cell BK.out 1).trans rfl) | (go_at_call 28; (with_reducible refine (impl_isHeader.calls k1 (rd_T45 l0 i).f0 (rd_T45 l0 i).f1 false _ A8.out).mono ?_); rintro e w9 ⟨rfl, hb⟩; have n0_ := Aside0.mk (below_step HB.out hb); have n1_ := Aside0.mk (blk_below BK.out hb); have n2_ := Aside0.mk (MS.R_below HM.out hb); clear HB BK HM; have HB := n0_; have BK := n1_; have HM := n2_; clear n0_ n1_ n2_; clear hb; have hcy0 : w9.cell? ⟨gb, 0, none⟩ = some (.string (rd_T45 l0 i).f0) := (blk_cell BK.out 0).trans rfl; have hcy1 : w9.cell? ⟨gb, 1, none⟩ = some (.string (rd_T45 l0 i).f1) := (blk_cell BK.out 1).trans rfl))
    go_ret
    exact ⟨rfl, HB.out⟩

/-! ### impl_RequestFault: function 9 -/
def impl_RequestFault.f (k : Nat) (a0_0 : ByteArray) (a0_1 : ByteArray) (l0_2 : List (S45)) (l0_3 : List (S45)) (a0_4 : ByteArray) : Option (Int) := (impl_isMethod.f k a0_0).bind fun t199 => (if t199 = true then ((impl_isPath.f a0_1).bind fun t200 => (if t200 = true then ((impl_pairsRight.f k l0_2 27).bind fun t201 => (if t201 = true then ((impl_pairsRight.f k l0_3 28).bind fun t202 => (if t202 = true then (if (a0_4.size : Int) > 100000 then (some 1) else (some 0)) else (some 1))) else (some 1))) else (some 1))) else (some 1))
theorem impl_RequestFault.mono : ∀ a0 a1 a2 a3 a4 k, LeO (impl_RequestFault.f k a0 a1 a2 a3 a4) (impl_RequestFault.f (k + 1) a0 a1 a2 a3 a4) := by
  intro a0 a1 a2 a3 a4 k
  unfold impl_RequestFault.f
  repeat' first
      | (with_reducible exact impl_isMethod.mono _ _)
      | (with_reducible exact impl_pairsRight.mono _ _ _)
      | (with_reducible exact LeO.refl _)
      | (with_reducible exact LeO.none _)
      | (with_reducible refine LeO.ite ?_ ?_)
      | (with_reducible refine LeO.bind ?_ (fun _ => ?_))
      | exact impl_isMethod.mono _ _
      | exact impl_pairsRight.mono _ _ _
      | exact LeO.none _
      | refine LeO.ite ?_ ?_
      | refine LeO.bind ?_ (fun _ => ?_)
set_option maxHeartbeats 8000000 in
set_option maxRecDepth 100000 in
theorem impl_RequestFault.calls (k : Nat) (a0_0 : ByteArray) (a0_1 : ByteArray) (A0_2 : Option Addr) (c0_2 : Nat) (l0_2 : List (S45)) (A0_3 : Option Addr) (c0_3 : Nat) (l0_3 : List (S45)) (a0_4 : ByteArray) (r : Int) (w : World) (hr0_2 : Kd.C k45 w A0_2 l0_2.length l0_2) (hc0_2 : l0_2.length ≤ c0_2) (hr0_3 : Kd.C k45 w A0_3 l0_3.length l0_3) (hc0_3 : l0_3.length ≤ c0_3) (h : impl_RequestFault.f k a0_0 a0_1 l0_2 l0_3 a0_4 = some r) :
  Calls Tryd.prog 9 #[.agg #[.string a0_0, .string a0_1, .slice A0_2 l0_2.length c0_2, .slice A0_3 l0_3.length c0_3, .string a0_4]] w fun e w' => e = .returned (.int .i64 r) ∧ Below w.heap.size w w' := by
 have hu29 := Tryd.underlying29
 have HR0_2 := Aside0.mk hr0_2
 have HC0_2 := Aside0.mk hc0_2
 clear hr0_2 hc0_2
 have HR0_3 := Aside0.mk hr0_3
 have HC0_3 := Aside0.mk hc0_3
 clear hr0_3 hc0_3
 have HB := Aside0.mk (Below.refl w.heap.size w)
 have H : ((impl_isMethod.f k a0_0).bind fun t199 => (if t199 = true then ((impl_isPath.f a0_1).bind fun t200 => (if t200 = true then ((impl_pairsRight.f k l0_2 27).bind fun t201 => (if t201 = true then ((impl_pairsRight.f k l0_3 28).bind fun t202 => (if t202 = true then (if (a0_4.size : Int) > 100000 then (some 1) else (some 0)) else (some 1))) else (some 1))) else (some 1))) else (some 1))) = some r := h
 clear h
 replace H := Option.bind_eq_some_iff.mp H
 obtain ⟨t199, A20, H⟩ := H
 replace H : (if t199 = true then ((impl_isPath.f a0_1).bind fun t200 => (if t200 = true then ((impl_pairsRight.f k l0_2 27).bind fun t201 => (if t201 = true then ((impl_pairsRight.f k l0_3 28).bind fun t202 => (if t202 = true then (if (a0_4.size : Int) > 100000 then (some 1) else (some 0)) else (some 1))) else (some 1))) else (some 1))) else (some 1)) = some r := H
 have A2 := Aside0.mk A20
 clear A20
 by_cases c3 : t199 = true
 rotate_left
 ·
  replace c3 := Bool.eq_false_iff.mpr c3
  subst c3
  have H1 : (some 1) = some r := by rw [if_neg (show ¬ (false = true) by decide)] at H; exact H
  clear H
  have H := H1
  clear H1
  obtain rfl := Option.some.inj H
  go_enter Tryd.func9, Tryd.ntmps9
  go_wp2_with (first | ((with_reducible refine gate_dst (N := 1) rfl ?_); (try (refine gate_guard (by rfl) ?_; dsimp only)); refine box_event ?hg (N := 1) ?hd (cs := #[.string a0_0, .string a0_1, .slice A0_2 l0_2.length c0_2, .slice A0_3 l0_3.length c0_3, .string a0_4]) (t := 29) ?hr ?_; (case hd => rfl); (case hg => rfl); (case hr => first | (go_simp; done) | (go_simp; rfl)); intro gb198 hg w33 hbox hb; have n0_ := Aside0.mk (below_step (by first | exact Grow.bl HB.out | exact HB.out) hb); have n1_ := Aside0.mk (hbox); have n2_ := Aside0.mk ((by rw [hg]; exact (below_size (by first | exact Grow.bl HB.out | exact HB.out)) : w.heap.size ≤ gb198)); have n3_ := Aside0.mk ((by rw [hg]; exact (below_size (by first | exact Grow.bl HB.out | exact HB.out)) : w.heap.size ≤ gb198)); clear HB; have HB := n0_; have BK198 := n1_; have GW198 := n2_; have GE198 := n3_; clear n0_ n1_ n2_ n3_; clear hb hbox hg; have hcz34_0 : w33.cell? ⟨gb198, 0, none⟩ = some (.string a0_0) := (blk_cell BK198.out 0).trans rfl; have hcz34_1 : w33.cell? ⟨gb198, 1, none⟩ = some (.string a0_1) := (blk_cell BK198.out 1).trans rfl; have hcz34_2 : w33.cell? ⟨gb198, 2, none⟩ = some (.slice A0_2 l0_2.length c0_2) := (blk_cell BK198.out 2).trans rfl; have hcz34_3 : w33.cell? ⟨gb198, 3, none⟩ = some (.slice A0_3 l0_3.length c0_3) := (blk_cell BK198.out 3).trans rfl; have hcz34_4 : w33.cell? ⟨gb198, 4, none⟩ = some (.string a0_4) := (blk_cell BK198.out 4).trans rfl; have hfz34_0 := blk_frozen BK198.out 0; have hfz34_1 := blk_frozen BK198.out 1; have hfz34_2 := blk_frozen BK198.out 2; have hfz34_3 := blk_frozen BK198.out 3; have hfz34_4 := blk_frozen BK198.out 4) | ((with_reducible refine gate_callee (f := 24) rfl ?_); refine goesL_ (some 5) rfl rfl Tryd.func24 (by kernel_rfl) rfl #[.string a0_0] rfl (by (try simp only [List.map_toArray, List.map_cons, List.map_nil]); first | done | rfl | (simp only [List.length_drop, List.length_take]; rfl)) ?_; (with_reducible refine (impl_isMethod.calls k a0_0 false _ A2.out).mono ?_); rintro e w' ⟨rfl, ⟨nd, rfl⟩⟩; refine ⟨_, rfl, ?_⟩))
  go_ret
  exact ⟨by first | rfl | (simp [errW_none, errW_some] <;> rfl) | (simp [*, errW_none, errW_some] <;> rfl), by repeat (first | (with_reducible first | exact HB.out | apply below_alloc | apply pw_below_drewN | apply below_drew1 | refine below_set ?_ GE198.out) | exact HB.out)⟩
 subst c3
 have H1 : ((impl_isPath.f a0_1).bind fun t200 => (if t200 = true then ((impl_pairsRight.f k l0_2 27).bind fun t201 => (if t201 = true then ((impl_pairsRight.f k l0_3 28).bind fun t202 => (if t202 = true then (if (a0_4.size : Int) > 100000 then (some 1) else (some 0)) else (some 1))) else (some 1))) else (some 1))) = some r := by rw [if_pos rfl] at H; exact H
 clear H
 have H := H1
 clear H1
 replace H := Option.bind_eq_some_iff.mp H
 obtain ⟨t200, A40, H⟩ := H
 replace H : (if t200 = true then ((impl_pairsRight.f k l0_2 27).bind fun t201 => (if t201 = true then ((impl_pairsRight.f k l0_3 28).bind fun t202 => (if t202 = true then (if (a0_4.size : Int) > 100000 then (some 1) else (some 0)) else (some 1))) else (some 1))) else (some 1)) = some r := H
 have A4 := Aside0.mk A40
 clear A40
 by_cases c5 : t200 = true
 rotate_left
 ·
  replace c5 := Bool.eq_false_iff.mpr c5
  subst c5
  have H1 : (some 1) = some r := by rw [if_neg (show ¬ (false = true) by decide)] at H; exact H
  clear H
  have H := H1
  clear H1
  obtain rfl := Option.some.inj H
  go_enter Tryd.func9, Tryd.ntmps9
  go_wp2_with (first | ((with_reducible refine gate_dst (N := 1) rfl ?_); (try (refine gate_guard (by rfl) ?_; dsimp only)); refine box_event ?hg (N := 1) ?hd (cs := #[.string a0_0, .string a0_1, .slice A0_2 l0_2.length c0_2, .slice A0_3 l0_3.length c0_3, .string a0_4]) (t := 29) ?hr ?_; (case hd => rfl); (case hg => rfl); (case hr => first | (go_simp; done) | (go_simp; rfl)); intro gb198 hg w31 hbox hb; have n0_ := Aside0.mk (below_step (by first | exact Grow.bl HB.out | exact HB.out) hb); have n1_ := Aside0.mk (hbox); have n2_ := Aside0.mk ((by rw [hg]; exact (below_size (by first | exact Grow.bl HB.out | exact HB.out)) : w.heap.size ≤ gb198)); have n3_ := Aside0.mk ((by rw [hg]; exact (below_size (by first | exact Grow.bl HB.out | exact HB.out)) : w.heap.size ≤ gb198)); clear HB; have HB := n0_; have BK198 := n1_; have GW198 := n2_; have GE198 := n3_; clear n0_ n1_ n2_ n3_; clear hb hbox hg; have hcz32_0 : w31.cell? ⟨gb198, 0, none⟩ = some (.string a0_0) := (blk_cell BK198.out 0).trans rfl; have hcz32_1 : w31.cell? ⟨gb198, 1, none⟩ = some (.string a0_1) := (blk_cell BK198.out 1).trans rfl; have hcz32_2 : w31.cell? ⟨gb198, 2, none⟩ = some (.slice A0_2 l0_2.length c0_2) := (blk_cell BK198.out 2).trans rfl; have hcz32_3 : w31.cell? ⟨gb198, 3, none⟩ = some (.slice A0_3 l0_3.length c0_3) := (blk_cell BK198.out 3).trans rfl; have hcz32_4 : w31.cell? ⟨gb198, 4, none⟩ = some (.string a0_4) := (blk_cell BK198.out 4).trans rfl; have hfz32_0 := blk_frozen BK198.out 0; have hfz32_1 := blk_frozen BK198.out 1; have hfz32_2 := blk_frozen BK198.out 2; have hfz32_3 := blk_frozen BK198.out 3; have hfz32_4 := blk_frozen BK198.out 4) | ((with_reducible refine gate_callee (f := 24) rfl ?_); refine goesL_ (some 5) rfl rfl Tryd.func24 (by kernel_rfl) rfl #[.string a0_0] rfl (by (try simp only [List.map_toArray, List.map_cons, List.map_nil]); first | done | rfl | (simp only [List.length_drop, List.length_take]; rfl)) ?_; (with_reducible refine (impl_isMethod.calls k a0_0 true _ A2.out).mono ?_); rintro e w' ⟨rfl, ⟨nd, rfl⟩⟩; refine ⟨_, rfl, ?_⟩) | (go_at_call 25; (with_reducible refine (impl_isPath.calls a0_1 false _ A4.out).mono ?_); rintro e w' ⟨rfl, ⟨nd, rfl⟩⟩))
  go_ret
  exact ⟨by first | rfl | (simp [errW_none, errW_some] <;> rfl) | (simp [*, errW_none, errW_some] <;> rfl), by repeat (first | (with_reducible first | exact HB.out | apply below_alloc | apply pw_below_drewN | apply below_drew1 | refine below_set ?_ GE198.out) | exact HB.out)⟩
 subst c5
 have H1 : ((impl_pairsRight.f k l0_2 27).bind fun t201 => (if t201 = true then ((impl_pairsRight.f k l0_3 28).bind fun t202 => (if t202 = true then (if (a0_4.size : Int) > 100000 then (some 1) else (some 0)) else (some 1))) else (some 1))) = some r := by rw [if_pos rfl] at H; exact H
 clear H
 have H := H1
 clear H1
 replace H := Option.bind_eq_some_iff.mp H
 obtain ⟨t201, A60, H⟩ := H
 replace H : (if t201 = true then ((impl_pairsRight.f k l0_3 28).bind fun t202 => (if t202 = true then (if (a0_4.size : Int) > 100000 then (some 1) else (some 0)) else (some 1))) else (some 1)) = some r := H
 have A6 := Aside0.mk A60
 clear A60
 by_cases c7 : t201 = true
 rotate_left
 ·
  replace c7 := Bool.eq_false_iff.mpr c7
  subst c7
  have H1 : (some 1) = some r := by rw [if_neg (show ¬ (false = true) by decide)] at H; exact H
  clear H
  have H := H1
  clear H1
  obtain rfl := Option.some.inj H
  go_enter Tryd.func9, Tryd.ntmps9
  go_wp2_with (first | ((with_reducible refine gate_dst (N := 1) rfl ?_); (try (refine gate_guard (by rfl) ?_; dsimp only)); refine box_event ?hg (N := 1) ?hd (cs := #[.string a0_0, .string a0_1, .slice A0_2 l0_2.length c0_2, .slice A0_3 l0_3.length c0_3, .string a0_4]) (t := 29) ?hr ?_; (case hd => rfl); (case hg => rfl); (case hr => first | (go_simp; done) | (go_simp; rfl)); intro gb198 hg w28 hbox hb; have n0_ := Aside0.mk (below_step (by first | exact Grow.bl HB.out | exact HB.out) hb); have n1_ := Aside0.mk (hbox); have n2_ := Aside0.mk ((by rw [hg]; exact (below_size (by first | exact Grow.bl HB.out | exact HB.out)) : w.heap.size ≤ gb198)); have n3_ := Aside0.mk ((by rw [hg]; exact (below_size (by first | exact Grow.bl HB.out | exact HB.out)) : w.heap.size ≤ gb198)); clear HB; have HB := n0_; have BK198 := n1_; have GW198 := n2_; have GE198 := n3_; clear n0_ n1_ n2_ n3_; clear hb hbox hg; have hcz29_0 : w28.cell? ⟨gb198, 0, none⟩ = some (.string a0_0) := (blk_cell BK198.out 0).trans rfl; have hcz29_1 : w28.cell? ⟨gb198, 1, none⟩ = some (.string a0_1) := (blk_cell BK198.out 1).trans rfl; have hcz29_2 : w28.cell? ⟨gb198, 2, none⟩ = some (.slice A0_2 l0_2.length c0_2) := (blk_cell BK198.out 2).trans rfl; have hcz29_3 : w28.cell? ⟨gb198, 3, none⟩ = some (.slice A0_3 l0_3.length c0_3) := (blk_cell BK198.out 3).trans rfl; have hcz29_4 : w28.cell? ⟨gb198, 4, none⟩ = some (.string a0_4) := (blk_cell BK198.out 4).trans rfl; have hfz29_0 := blk_frozen BK198.out 0; have hfz29_1 := blk_frozen BK198.out 1; have hfz29_2 := blk_frozen BK198.out 2; have hfz29_3 := blk_frozen BK198.out 3; have hfz29_4 := blk_frozen BK198.out 4) | ((with_reducible refine gate_callee (f := 24) rfl ?_); refine goesL_ (some 5) rfl rfl Tryd.func24 (by kernel_rfl) rfl #[.string a0_0] rfl (by (try simp only [List.map_toArray, List.map_cons, List.map_nil]); first | done | rfl | (simp only [List.length_drop, List.length_take]; rfl)) ?_; (with_reducible refine (impl_isMethod.calls k a0_0 true _ A2.out).mono ?_); rintro e w' ⟨rfl, ⟨nd, rfl⟩⟩; refine ⟨_, rfl, ?_⟩) | (go_at_call 25; (with_reducible refine (impl_isPath.calls a0_1 true _ A4.out).mono ?_); rintro e w' ⟨rfl, ⟨nd, rfl⟩⟩) | (go_at_call 26; (with_reducible refine (impl_pairsRight.calls27 k _ _ l0_2 false _ ?side1 ?side2 A6.out).mono ?_); (case side1 => repeat (first | exact (Kd.C_below HR0_2.out (by repeat (first | (with_reducible first | exact HB.out | apply below_alloc | apply pw_below_drewN | apply below_drew1 | refine below_set ?_ GE198.out) | exact HB.out))) | (with_reducible refine Kd.C_alloc ?_ _) | (with_reducible refine Kd.C_drewN ?_ _) | (with_reducible refine Kd.C_drew ?_))); (case side2 => exact HC0_2.out); rintro e w30 ⟨rfl, hb⟩; have n0_ := Aside0.mk (blk_below (g := gb198) (o := .cells #[.string a0_0, .string a0_1, .slice A0_2 l0_2.length c0_2, .slice A0_3 l0_3.length c0_3, .string a0_4] 29 (0, 0)) (by first | exact Grow.bk BK198.out | exact BK198.out) hb); have n1_ := Aside0.mk (below_step (by repeat (first | (with_reducible first | exact HB.out | apply below_alloc | apply pw_below_drewN | apply below_drew1 | refine below_set ?_ GE198.out) | exact HB.out)) hb); clear BK198; clear HB; have BK198 := n0_; have HB := n1_; clear n0_ n1_; (try clear hb); (try clear hb2); (try clear hk); (try clear hi)))
  go_ret
  exact ⟨by first | rfl | (simp [errW_none, errW_some] <;> rfl) | (simp [*, errW_none, errW_some] <;> rfl), by repeat (first | (with_reducible first | exact HB.out | apply below_alloc | apply pw_below_drewN | apply below_drew1 | refine below_set ?_ GE198.out) | exact HB.out)⟩
 subst c7
 have H1 : ((impl_pairsRight.f k l0_3 28).bind fun t202 => (if t202 = true then (if (a0_4.size : Int) > 100000 then (some 1) else (some 0)) else (some 1))) = some r := by rw [if_pos rfl] at H; exact H
 clear H
 have H := H1
 clear H1
 replace H := Option.bind_eq_some_iff.mp H
 obtain ⟨t202, A80, H⟩ := H
 replace H : (if t202 = true then (if (a0_4.size : Int) > 100000 then (some 1) else (some 0)) else (some 1)) = some r := H
 have A8 := Aside0.mk A80
 clear A80
 by_cases c9 : t202 = true
 rotate_left
 ·
  replace c9 := Bool.eq_false_iff.mpr c9
  subst c9
  have H1 : (some 1) = some r := by rw [if_neg (show ¬ (false = true) by decide)] at H; exact H
  clear H
  have H := H1
  clear H1
  obtain rfl := Option.some.inj H
  go_enter Tryd.func9, Tryd.ntmps9
  go_wp2_with (first | ((with_reducible refine gate_dst (N := 1) rfl ?_); (try (refine gate_guard (by rfl) ?_; dsimp only)); refine box_event ?hg (N := 1) ?hd (cs := #[.string a0_0, .string a0_1, .slice A0_2 l0_2.length c0_2, .slice A0_3 l0_3.length c0_3, .string a0_4]) (t := 29) ?hr ?_; (case hd => rfl); (case hg => rfl); (case hr => first | (go_simp; done) | (go_simp; rfl)); intro gb198 hg w23 hbox hb; have n0_ := Aside0.mk (below_step (by first | exact Grow.bl HB.out | exact HB.out) hb); have n1_ := Aside0.mk (hbox); have n2_ := Aside0.mk ((by rw [hg]; exact (below_size (by first | exact Grow.bl HB.out | exact HB.out)) : w.heap.size ≤ gb198)); have n3_ := Aside0.mk ((by rw [hg]; exact (below_size (by first | exact Grow.bl HB.out | exact HB.out)) : w.heap.size ≤ gb198)); clear HB; have HB := n0_; have BK198 := n1_; have GW198 := n2_; have GE198 := n3_; clear n0_ n1_ n2_ n3_; clear hb hbox hg; have hcz24_0 : w23.cell? ⟨gb198, 0, none⟩ = some (.string a0_0) := (blk_cell BK198.out 0).trans rfl; have hcz24_1 : w23.cell? ⟨gb198, 1, none⟩ = some (.string a0_1) := (blk_cell BK198.out 1).trans rfl; have hcz24_2 : w23.cell? ⟨gb198, 2, none⟩ = some (.slice A0_2 l0_2.length c0_2) := (blk_cell BK198.out 2).trans rfl; have hcz24_3 : w23.cell? ⟨gb198, 3, none⟩ = some (.slice A0_3 l0_3.length c0_3) := (blk_cell BK198.out 3).trans rfl; have hcz24_4 : w23.cell? ⟨gb198, 4, none⟩ = some (.string a0_4) := (blk_cell BK198.out 4).trans rfl; have hfz24_0 := blk_frozen BK198.out 0; have hfz24_1 := blk_frozen BK198.out 1; have hfz24_2 := blk_frozen BK198.out 2; have hfz24_3 := blk_frozen BK198.out 3; have hfz24_4 := blk_frozen BK198.out 4) | ((with_reducible refine gate_callee (f := 24) rfl ?_); refine goesL_ (some 5) rfl rfl Tryd.func24 (by kernel_rfl) rfl #[.string a0_0] rfl (by (try simp only [List.map_toArray, List.map_cons, List.map_nil]); first | done | rfl | (simp only [List.length_drop, List.length_take]; rfl)) ?_; (with_reducible refine (impl_isMethod.calls k a0_0 true _ A2.out).mono ?_); rintro e w' ⟨rfl, ⟨nd, rfl⟩⟩; refine ⟨_, rfl, ?_⟩) | (go_at_call 25; (with_reducible refine (impl_isPath.calls a0_1 true _ A4.out).mono ?_); rintro e w' ⟨rfl, ⟨nd, rfl⟩⟩) | (go_at_call 26; (with_reducible refine (impl_pairsRight.calls27 k _ _ l0_2 true _ ?side1 ?side2 A6.out).mono ?_); (case side1 => repeat (first | exact (Kd.C_below HR0_2.out (by repeat (first | (with_reducible first | exact HB.out | apply below_alloc | apply pw_below_drewN | apply below_drew1 | refine below_set ?_ GE198.out) | exact HB.out))) | (with_reducible refine Kd.C_alloc ?_ _) | (with_reducible refine Kd.C_drewN ?_ _) | (with_reducible refine Kd.C_drew ?_))); (case side2 => exact HC0_2.out); rintro e w25 ⟨rfl, hb⟩; have n0_ := Aside0.mk (blk_below (g := gb198) (o := .cells #[.string a0_0, .string a0_1, .slice A0_2 l0_2.length c0_2, .slice A0_3 l0_3.length c0_3, .string a0_4] 29 (0, 0)) (by first | exact Grow.bk BK198.out | exact BK198.out) hb); have n1_ := Aside0.mk (below_step (by repeat (first | (with_reducible first | exact HB.out | apply below_alloc | apply pw_below_drewN | apply below_drew1 | refine below_set ?_ GE198.out) | exact HB.out)) hb); clear BK198; clear HB; have BK198 := n0_; have HB := n1_; clear n0_ n1_; (try clear hb); (try clear hb2); (try clear hk); (try clear hi); have hcz26_0 : w25.cell? ⟨gb198, 0, none⟩ = some (.string a0_0) := (blk_cell BK198.out 0).trans rfl; have hcz26_1 : w25.cell? ⟨gb198, 1, none⟩ = some (.string a0_1) := (blk_cell BK198.out 1).trans rfl; have hcz26_2 : w25.cell? ⟨gb198, 2, none⟩ = some (.slice A0_2 l0_2.length c0_2) := (blk_cell BK198.out 2).trans rfl; have hcz26_3 : w25.cell? ⟨gb198, 3, none⟩ = some (.slice A0_3 l0_3.length c0_3) := (blk_cell BK198.out 3).trans rfl; have hcz26_4 : w25.cell? ⟨gb198, 4, none⟩ = some (.string a0_4) := (blk_cell BK198.out 4).trans rfl; have hfz26_0 := blk_frozen BK198.out 0; have hfz26_1 := blk_frozen BK198.out 1; have hfz26_2 := blk_frozen BK198.out 2; have hfz26_3 := blk_frozen BK198.out 3; have hfz26_4 := blk_frozen BK198.out 4) | (go_at_call 26; (with_reducible refine (impl_pairsRight.calls28 k _ _ l0_3 false _ ?side1 ?side2 A8.out).mono ?_); (case side1 => first | exact Grow.cb HR0_3.out HB.out | exact Kd.C_below HR0_3.out HB.out); (case side2 => exact HC0_3.out); rintro e w27 ⟨rfl, hb⟩; have n0_ := Aside0.mk (blk_below (g := gb198) (o := .cells #[.string a0_0, .string a0_1, .slice A0_2 l0_2.length c0_2, .slice A0_3 l0_3.length c0_3, .string a0_4] 29 (0, 0)) (by first | exact Grow.bk BK198.out | exact BK198.out) hb); have n1_ := Aside0.mk (below_step (by repeat (first | (with_reducible first | exact HB.out | apply below_alloc | apply pw_below_drewN | apply below_drew1 | refine below_set ?_ GE198.out) | exact HB.out)) hb); clear BK198; clear HB; have BK198 := n0_; have HB := n1_; clear n0_ n1_; (try clear hb); (try clear hb2); (try clear hk); (try clear hi)))
  go_ret
  exact ⟨by first | rfl | (simp [errW_none, errW_some] <;> rfl) | (simp [*, errW_none, errW_some] <;> rfl), by repeat (first | (with_reducible first | exact HB.out | apply below_alloc | apply pw_below_drewN | apply below_drew1 | refine below_set ?_ GE198.out) | exact HB.out)⟩
 subst c9
 have H1 : (if (a0_4.size : Int) > 100000 then (some 1) else (some 0)) = some r := by rw [if_pos rfl] at H; exact H
 clear H
 have H := H1
 clear H1
 by_cases c10 : (a0_4.size : Int) > 100000
 ·
  rw [if_pos c10] at H
  have c10b0 : decide (100000 < (a0_4.size : Int)) = true := decide_eq_true c10
  have c10b1 : decide (100000 < a0_4.size) = true := decide_eq_true (by omega)
  clear c10
  obtain rfl := Option.some.inj H
  go_enter Tryd.func9, Tryd.ntmps9
  go_wp2_with (first | ((with_reducible refine gate_dst (N := 1) rfl ?_); (try (refine gate_guard (by rfl) ?_; dsimp only)); refine box_event ?hg (N := 1) ?hd (cs := #[.string a0_0, .string a0_1, .slice A0_2 l0_2.length c0_2, .slice A0_3 l0_3.length c0_3, .string a0_4]) (t := 29) ?hr ?_; (case hd => rfl); (case hg => rfl); (case hr => first | (go_simp; done) | (go_simp; rfl)); intro gb198 hg w11 hbox hb; have n0_ := Aside0.mk (below_step (by first | exact Grow.bl HB.out | exact HB.out) hb); have n1_ := Aside0.mk (hbox); have n2_ := Aside0.mk ((by rw [hg]; exact (below_size (by first | exact Grow.bl HB.out | exact HB.out)) : w.heap.size ≤ gb198)); have n3_ := Aside0.mk ((by rw [hg]; exact (below_size (by first | exact Grow.bl HB.out | exact HB.out)) : w.heap.size ≤ gb198)); clear HB; have HB := n0_; have BK198 := n1_; have GW198 := n2_; have GE198 := n3_; clear n0_ n1_ n2_ n3_; clear hb hbox hg; have hcz12_0 : w11.cell? ⟨gb198, 0, none⟩ = some (.string a0_0) := (blk_cell BK198.out 0).trans rfl; have hcz12_1 : w11.cell? ⟨gb198, 1, none⟩ = some (.string a0_1) := (blk_cell BK198.out 1).trans rfl; have hcz12_2 : w11.cell? ⟨gb198, 2, none⟩ = some (.slice A0_2 l0_2.length c0_2) := (blk_cell BK198.out 2).trans rfl; have hcz12_3 : w11.cell? ⟨gb198, 3, none⟩ = some (.slice A0_3 l0_3.length c0_3) := (blk_cell BK198.out 3).trans rfl; have hcz12_4 : w11.cell? ⟨gb198, 4, none⟩ = some (.string a0_4) := (blk_cell BK198.out 4).trans rfl; have hfz12_0 := blk_frozen BK198.out 0; have hfz12_1 := blk_frozen BK198.out 1; have hfz12_2 := blk_frozen BK198.out 2; have hfz12_3 := blk_frozen BK198.out 3; have hfz12_4 := blk_frozen BK198.out 4) | ((with_reducible refine gate_callee (f := 24) rfl ?_); refine goesL_ (some 5) rfl rfl Tryd.func24 (by kernel_rfl) rfl #[.string a0_0] rfl (by (try simp only [List.map_toArray, List.map_cons, List.map_nil]); first | done | rfl | (simp only [List.length_drop, List.length_take]; rfl)) ?_; (with_reducible refine (impl_isMethod.calls k a0_0 true _ A2.out).mono ?_); rintro e w' ⟨rfl, ⟨nd, rfl⟩⟩; refine ⟨_, rfl, ?_⟩) | (go_at_call 25; (with_reducible refine (impl_isPath.calls a0_1 true _ A4.out).mono ?_); rintro e w' ⟨rfl, ⟨nd, rfl⟩⟩) | (go_at_call 26; (with_reducible refine (impl_pairsRight.calls27 k _ _ l0_2 true _ ?side1 ?side2 A6.out).mono ?_); (case side1 => repeat (first | exact (Kd.C_below HR0_2.out (by repeat (first | (with_reducible first | exact HB.out | apply below_alloc | apply pw_below_drewN | apply below_drew1 | refine below_set ?_ GE198.out) | exact HB.out))) | (with_reducible refine Kd.C_alloc ?_ _) | (with_reducible refine Kd.C_drewN ?_ _) | (with_reducible refine Kd.C_drew ?_))); (case side2 => exact HC0_2.out); rintro e w13 ⟨rfl, hb⟩; have n0_ := Aside0.mk (blk_below (g := gb198) (o := .cells #[.string a0_0, .string a0_1, .slice A0_2 l0_2.length c0_2, .slice A0_3 l0_3.length c0_3, .string a0_4] 29 (0, 0)) (by first | exact Grow.bk BK198.out | exact BK198.out) hb); have n1_ := Aside0.mk (below_step (by repeat (first | (with_reducible first | exact HB.out | apply below_alloc | apply pw_below_drewN | apply below_drew1 | refine below_set ?_ GE198.out) | exact HB.out)) hb); clear BK198; clear HB; have BK198 := n0_; have HB := n1_; clear n0_ n1_; (try clear hb); (try clear hb2); (try clear hk); (try clear hi); have hcz14_0 : w13.cell? ⟨gb198, 0, none⟩ = some (.string a0_0) := (blk_cell BK198.out 0).trans rfl; have hcz14_1 : w13.cell? ⟨gb198, 1, none⟩ = some (.string a0_1) := (blk_cell BK198.out 1).trans rfl; have hcz14_2 : w13.cell? ⟨gb198, 2, none⟩ = some (.slice A0_2 l0_2.length c0_2) := (blk_cell BK198.out 2).trans rfl; have hcz14_3 : w13.cell? ⟨gb198, 3, none⟩ = some (.slice A0_3 l0_3.length c0_3) := (blk_cell BK198.out 3).trans rfl; have hcz14_4 : w13.cell? ⟨gb198, 4, none⟩ = some (.string a0_4) := (blk_cell BK198.out 4).trans rfl; have hfz14_0 := blk_frozen BK198.out 0; have hfz14_1 := blk_frozen BK198.out 1; have hfz14_2 := blk_frozen BK198.out 2; have hfz14_3 := blk_frozen BK198.out 3; have hfz14_4 := blk_frozen BK198.out 4) | (go_at_call 26; (with_reducible refine (impl_pairsRight.calls28 k _ _ l0_3 true _ ?side1 ?side2 A8.out).mono ?_); (case side1 => first | exact Grow.cb HR0_3.out HB.out | exact Kd.C_below HR0_3.out HB.out); (case side2 => exact HC0_3.out); rintro e w15 ⟨rfl, hb⟩; have n0_ := Aside0.mk (blk_below (g := gb198) (o := .cells #[.string a0_0, .string a0_1, .slice A0_2 l0_2.length c0_2, .slice A0_3 l0_3.length c0_3, .string a0_4] 29 (0, 0)) (by first | exact Grow.bk BK198.out | exact BK198.out) hb); have n1_ := Aside0.mk (below_step (by repeat (first | (with_reducible first | exact HB.out | apply below_alloc | apply pw_below_drewN | apply below_drew1 | refine below_set ?_ GE198.out) | exact HB.out)) hb); clear BK198; clear HB; have BK198 := n0_; have HB := n1_; clear n0_ n1_; (try clear hb); (try clear hb2); (try clear hk); (try clear hi); have hcz16_0 : w15.cell? ⟨gb198, 0, none⟩ = some (.string a0_0) := (blk_cell BK198.out 0).trans rfl; have hcz16_1 : w15.cell? ⟨gb198, 1, none⟩ = some (.string a0_1) := (blk_cell BK198.out 1).trans rfl; have hcz16_2 : w15.cell? ⟨gb198, 2, none⟩ = some (.slice A0_2 l0_2.length c0_2) := (blk_cell BK198.out 2).trans rfl; have hcz16_3 : w15.cell? ⟨gb198, 3, none⟩ = some (.slice A0_3 l0_3.length c0_3) := (blk_cell BK198.out 3).trans rfl; have hcz16_4 : w15.cell? ⟨gb198, 4, none⟩ = some (.string a0_4) := (blk_cell BK198.out 4).trans rfl; have hfz16_0 := blk_frozen BK198.out 0; have hfz16_1 := blk_frozen BK198.out 1; have hfz16_2 := blk_frozen BK198.out 2; have hfz16_3 := blk_frozen BK198.out 3; have hfz16_4 := blk_frozen BK198.out 4))
  go_ret
  exact ⟨by first | rfl | (simp [errW_none, errW_some] <;> rfl) | (simp [*, errW_none, errW_some] <;> rfl), by repeat (first | (with_reducible first | exact HB.out | apply below_alloc | apply pw_below_drewN | apply below_drew1 | refine below_set ?_ GE198.out) | exact HB.out)⟩
 rw [if_neg c10] at H
 have c10b0 : decide (100000 < (a0_4.size : Int)) = false := decide_eq_false c10
 have c10b1 : decide (100000 < a0_4.size) = false := decide_eq_false (by omega)
 clear c10
 obtain rfl := Option.some.inj H
 go_enter Tryd.func9, Tryd.ntmps9
 go_wp2_with (first | ((with_reducible refine gate_dst (N := 1) rfl ?_); (try (refine gate_guard (by rfl) ?_; dsimp only)); refine box_event ?hg (N := 1) ?hd (cs := #[.string a0_0, .string a0_1, .slice A0_2 l0_2.length c0_2, .slice A0_3 l0_3.length c0_3, .string a0_4]) (t := 29) ?hr ?_; (case hd => rfl); (case hg => rfl); (case hr => first | (go_simp; done) | (go_simp; rfl)); intro gb198 hg w17 hbox hb; have n0_ := Aside0.mk (below_step (by first | exact Grow.bl HB.out | exact HB.out) hb); have n1_ := Aside0.mk (hbox); have n2_ := Aside0.mk ((by rw [hg]; exact (below_size (by first | exact Grow.bl HB.out | exact HB.out)) : w.heap.size ≤ gb198)); have n3_ := Aside0.mk ((by rw [hg]; exact (below_size (by first | exact Grow.bl HB.out | exact HB.out)) : w.heap.size ≤ gb198)); clear HB; have HB := n0_; have BK198 := n1_; have GW198 := n2_; have GE198 := n3_; clear n0_ n1_ n2_ n3_; clear hb hbox hg; have hcz18_0 : w17.cell? ⟨gb198, 0, none⟩ = some (.string a0_0) := (blk_cell BK198.out 0).trans rfl; have hcz18_1 : w17.cell? ⟨gb198, 1, none⟩ = some (.string a0_1) := (blk_cell BK198.out 1).trans rfl; have hcz18_2 : w17.cell? ⟨gb198, 2, none⟩ = some (.slice A0_2 l0_2.length c0_2) := (blk_cell BK198.out 2).trans rfl; have hcz18_3 : w17.cell? ⟨gb198, 3, none⟩ = some (.slice A0_3 l0_3.length c0_3) := (blk_cell BK198.out 3).trans rfl; have hcz18_4 : w17.cell? ⟨gb198, 4, none⟩ = some (.string a0_4) := (blk_cell BK198.out 4).trans rfl; have hfz18_0 := blk_frozen BK198.out 0; have hfz18_1 := blk_frozen BK198.out 1; have hfz18_2 := blk_frozen BK198.out 2; have hfz18_3 := blk_frozen BK198.out 3; have hfz18_4 := blk_frozen BK198.out 4) | ((with_reducible refine gate_callee (f := 24) rfl ?_); refine goesL_ (some 5) rfl rfl Tryd.func24 (by kernel_rfl) rfl #[.string a0_0] rfl (by (try simp only [List.map_toArray, List.map_cons, List.map_nil]); first | done | rfl | (simp only [List.length_drop, List.length_take]; rfl)) ?_; (with_reducible refine (impl_isMethod.calls k a0_0 true _ A2.out).mono ?_); rintro e w' ⟨rfl, ⟨nd, rfl⟩⟩; refine ⟨_, rfl, ?_⟩) | (go_at_call 25; (with_reducible refine (impl_isPath.calls a0_1 true _ A4.out).mono ?_); rintro e w' ⟨rfl, ⟨nd, rfl⟩⟩) | (go_at_call 26; (with_reducible refine (impl_pairsRight.calls27 k _ _ l0_2 true _ ?side1 ?side2 A6.out).mono ?_); (case side1 => repeat (first | exact (Kd.C_below HR0_2.out (by repeat (first | (with_reducible first | exact HB.out | apply below_alloc | apply pw_below_drewN | apply below_drew1 | refine below_set ?_ GE198.out) | exact HB.out))) | (with_reducible refine Kd.C_alloc ?_ _) | (with_reducible refine Kd.C_drewN ?_ _) | (with_reducible refine Kd.C_drew ?_))); (case side2 => exact HC0_2.out); rintro e w19 ⟨rfl, hb⟩; have n0_ := Aside0.mk (blk_below (g := gb198) (o := .cells #[.string a0_0, .string a0_1, .slice A0_2 l0_2.length c0_2, .slice A0_3 l0_3.length c0_3, .string a0_4] 29 (0, 0)) (by first | exact Grow.bk BK198.out | exact BK198.out) hb); have n1_ := Aside0.mk (below_step (by repeat (first | (with_reducible first | exact HB.out | apply below_alloc | apply pw_below_drewN | apply below_drew1 | refine below_set ?_ GE198.out) | exact HB.out)) hb); clear BK198; clear HB; have BK198 := n0_; have HB := n1_; clear n0_ n1_; (try clear hb); (try clear hb2); (try clear hk); (try clear hi); have hcz20_0 : w19.cell? ⟨gb198, 0, none⟩ = some (.string a0_0) := (blk_cell BK198.out 0).trans rfl; have hcz20_1 : w19.cell? ⟨gb198, 1, none⟩ = some (.string a0_1) := (blk_cell BK198.out 1).trans rfl; have hcz20_2 : w19.cell? ⟨gb198, 2, none⟩ = some (.slice A0_2 l0_2.length c0_2) := (blk_cell BK198.out 2).trans rfl; have hcz20_3 : w19.cell? ⟨gb198, 3, none⟩ = some (.slice A0_3 l0_3.length c0_3) := (blk_cell BK198.out 3).trans rfl; have hcz20_4 : w19.cell? ⟨gb198, 4, none⟩ = some (.string a0_4) := (blk_cell BK198.out 4).trans rfl; have hfz20_0 := blk_frozen BK198.out 0; have hfz20_1 := blk_frozen BK198.out 1; have hfz20_2 := blk_frozen BK198.out 2; have hfz20_3 := blk_frozen BK198.out 3; have hfz20_4 := blk_frozen BK198.out 4) | (go_at_call 26; (with_reducible refine (impl_pairsRight.calls28 k _ _ l0_3 true _ ?side1 ?side2 A8.out).mono ?_); (case side1 => first | exact Grow.cb HR0_3.out HB.out | exact Kd.C_below HR0_3.out HB.out); (case side2 => exact HC0_3.out); rintro e w21 ⟨rfl, hb⟩; have n0_ := Aside0.mk (blk_below (g := gb198) (o := .cells #[.string a0_0, .string a0_1, .slice A0_2 l0_2.length c0_2, .slice A0_3 l0_3.length c0_3, .string a0_4] 29 (0, 0)) (by first | exact Grow.bk BK198.out | exact BK198.out) hb); have n1_ := Aside0.mk (below_step (by repeat (first | (with_reducible first | exact HB.out | apply below_alloc | apply pw_below_drewN | apply below_drew1 | refine below_set ?_ GE198.out) | exact HB.out)) hb); clear BK198; clear HB; have BK198 := n0_; have HB := n1_; clear n0_ n1_; (try clear hb); (try clear hb2); (try clear hk); (try clear hi); have hcz22_0 : w21.cell? ⟨gb198, 0, none⟩ = some (.string a0_0) := (blk_cell BK198.out 0).trans rfl; have hcz22_1 : w21.cell? ⟨gb198, 1, none⟩ = some (.string a0_1) := (blk_cell BK198.out 1).trans rfl; have hcz22_2 : w21.cell? ⟨gb198, 2, none⟩ = some (.slice A0_2 l0_2.length c0_2) := (blk_cell BK198.out 2).trans rfl; have hcz22_3 : w21.cell? ⟨gb198, 3, none⟩ = some (.slice A0_3 l0_3.length c0_3) := (blk_cell BK198.out 3).trans rfl; have hcz22_4 : w21.cell? ⟨gb198, 4, none⟩ = some (.string a0_4) := (blk_cell BK198.out 4).trans rfl; have hfz22_0 := blk_frozen BK198.out 0; have hfz22_1 := blk_frozen BK198.out 1; have hfz22_2 := blk_frozen BK198.out 2; have hfz22_3 := blk_frozen BK198.out 3; have hfz22_4 := blk_frozen BK198.out 4))
 go_ret
 exact ⟨by first | rfl | (simp [errW_none, errW_some] <;> rfl) | (simp [*, errW_none, errW_some] <;> rfl), by repeat (first | (with_reducible first | exact HB.out | apply below_alloc | apply pw_below_drewN | apply below_drew1 | refine below_set ?_ GE198.out) | exact HB.out)⟩

end Go.Proofs.YtepnjhmdcaolkaaDoor.QFnExactWriteRequest
