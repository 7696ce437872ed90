-- A text of this session, printed by a program of its own (wip/tools: xpatch.py, xprint.sh, mkq.py). No condition.
import Derived.Test.YtimfdodgecehgaaQFnExactRunFaultx0
import Derived.Test.YtimfdodgecehgaaQFnExactRunFaultx3
import Derived.Maps.Own
import Derived.Maps.OwnSet
import Derived.Maps.Views
namespace Go.Proofs.Ytimfdodgecehgaa.QFnExactRunFault
open Go.RowKit Go.Proofs.YtimfdodgecehgaaW.PrintWords Go.Proofs.YtimfdodgecehgaaW.PrintLast Go.Proofs.YtimfdodgecehgaaW.PrintMore
attribute [local go_sem] max2_int min2_int max_two min_two max_three min_three max_four min_four   -- for this text's walks alone
set_option linter.unusedVariables false
set_option linter.unusedSimpArgs false

/-! A set of numbers, kept as a map to bools: what the walk carries of it. -/
namespace MR
/-- The value is a map of the call's own; true stands at just the numbers of a list. -/
def R (w : World) (base : Nat) (ok : Nat → Prop) (v : Value) (xs : List Int) : Prop :=
  ∃ (b n : Nat) (D : DataW Unit), v = .map (some b) ∧ base ≤ b ∧ ok b ∧ n ≤ xs.length ∧ w.ownsMap Try.prog 2 (plainElem Try.prog 4) b n D ∧ ∀ x : Int, D.atKey (.int .i64 x) (.lit (.bool false)) = .lit (.bool (decide (x ∈ xs)))
def blockOf : Value → Option Nat
  | .map b => b
  | _ => none
variable {w w1 : World} {base : Nat} {ok ok' : Nat → Prop} {v : Value} {xs : List Int}
theorem R_mono (h : R w base ok v xs) (hok : ∀ k, ok k → ok' k) : R w base ok' v xs := by
  obtain ⟨b, n, D, h1, h2, h3, h4⟩ := h
  exact ⟨b, n, D, h1, h2, hok b h3, h4⟩
theorem R_lower {base' : Nat} (h : R w base ok v xs) (hb : base' ≤ base) : R w base' ok v xs := by
  obtain ⟨b, n, D, h1, h2, h3⟩ := h
  exact ⟨b, n, D, h1, Nat.le_trans hb h2, h3⟩
theorem R_grown (h : R w base ok v xs) {row : Option Nat} (hg : w.grownBy w1 row) (hne : ∀ k, ok k → some k ≠ row) : R w1 base ok v xs := by
  obtain ⟨b, n, D, h1, h2, h3, h4, h5, h6⟩ := h
  exact ⟨b, n, D, h1, h2, h3, h4, h5.kept hg (hne b h3), h6⟩
theorem R_below (h : R w base ok v xs) (hb : Below w.heap.size w w1) : R w1 base ok v xs := R_grown h (grown_of_below hb none) (fun _ _ => by simp)
theorem R_alloc (h : R w base ok v xs) (o : Obj) : R (w.alloc o) base ok v xs := R_below h (below_alloc (Below.refl _ _) o)
theorem R_drew (h : R w base ok v xs) : R w.drew base ok v xs := R_below h (below_drew (Below.refl _ _))
theorem R_drewN (h : R w base ok v xs) (m : Nat) : R (w.drewN m) base ok v xs := R_below h (pw_below_drewN (Below.refl _ _) m)
theorem R_far (h : R w base ok v xs) {p : Addr} (hok : ∀ k, ok k → k ≠ p.block) (u : Value) : R (w.setCell p u) base ok v xs := by
  obtain ⟨b, n, D, h1, h2, h3, h4, h5, h6⟩ := h
  exact ⟨b, n, D, h1, h2, h3, h4, h5.setCell (hok b h3) u, h6⟩
theorem R_types (h : R w base ok v xs) {g t : Nat} {cells : Array Value} (hb : w.heap[g]? = some (.cells cells t (0, 0))) (_ : True) : R w base (fun k => ok k ∧ k ≠ g) v xs := by
  obtain ⟨b, n, D, h1, h2, h3, h4, h5, h6⟩ := h
  refine ⟨b, n, D, h1, h2, ⟨h3, ?_⟩, h4, h5, h6⟩
  rintro rfl
  obtain ⟨es, clock, hh, _⟩ := h5
  rw [hh] at hb
  cases hb
theorem R_ne (h : R w base ok v xs) {g t : Nat} {cells : Array Value} (hb : w.heap[g]? = some (.cells cells t (0, 0))) (_ : True) : some g ≠ blockOf v := by
  obtain ⟨b, n, D, rfl, h2, h3, h4, h5, h6⟩ := h
  intro e
  have e2 : g = b := Option.some.inj e
  subst e2
  obtain ⟨es, clock, hh, _⟩ := h5
  rw [hh] at hb
  cases hb
theorem R_map (h : R w base ok v xs) : ∃ b, v = .map (some b) := by
  obtain ⟨b, n, D, h1, _⟩ := h
  exact ⟨b, h1⟩
theorem zeroE (w : World) : (zeroValue 4).run Try.prog w = .ok (.bool false) w := by kernel_rfl
theorem elem_inv {P : Program} {e : TypeId} (he : P.underlying e = some .bool) {u : Value} {c : Bool} {ps : List MemPlace} (h : plainElem (H := Unit) P e u = some (.lit (.bool c), ps)) : u = .bool c := by
  unfold plainElem at h
  rw [he] at h
  cases u <;> simp at h
  rw [h.1]
theorem look (h : R w base ok v xs) (x : Int) (hx : (Lit.int .i64 x).wf = true) : (Instr.lookup 131 v (.int .i64 x) false).run Try.prog w = .ok (.bool (decide (x ∈ xs))) w := by
  obtain ⟨b, n, D, rfl, h2, h3, h4, h5, h6⟩ := h
  obtain ⟨u, ps, hrun, hu⟩ := h5.lookup (Maps.int_keyed Try.underlying2) Try.underlying131 (zeroE w) (plainElem_bool Try.underlying4 false) (Maps.keyOf_int_mk Try.underlying2 hx)
  rw [h6 x] at hu
  rw [elem_inv Try.underlying4 hu] at hrun
  exact hrun
theorem put (h : R w base ok v xs) (x : Int) (hx : (Lit.int .i64 x).wf = true) (hl : xs.length < maxLen) :
    ∃ w', (Instr.mapUpdate 131 v (.int .i64 x) (.bool true)).run Try.prog w = .ok () w' ∧ R w' base ok v (xs ++ [x]) ∧ w.grownBy w' (blockOf v) := by
  obtain ⟨b, n, D, rfl, h2, h3, h4, h5, h6⟩ := h
  obtain ⟨w', hrun, ho, hg⟩ := h5.update (Maps.int_keyed Try.underlying2) Try.underlying131 (Nat.lt_of_le_of_lt h4 hl) (Maps.keyOf_int_mk Try.underlying2 hx) (plainElem_bool Try.underlying4 true)
  refine ⟨w', hrun, ⟨b, n + 1, _, rfl, h2, h3, by simp; omega, ho, fun y => ?_⟩, hg⟩
  by_cases e : y = x
  · subst e
    rw [Maps.atKey_put_same h5.isMap (show WideAt.IsKeyLit (.int .i64 y) from trivial)]
    simp
  · rw [Maps.atKey_put_other (fun e2 => e (by injection e2)), h6 y]
    simp [e]
theorem made (w : World) {ok : Nat → Prop} (hok : ok w.heap.size) : R (w.alloc (.map #[] 0)) w.heap.size ok (.map (some w.heap.size)) [] :=
  ⟨w.heap.size, 0, _, rfl, Nat.le_refl _, hok, Nat.le_refl _, World.ownsMap_made w Try.prog 2 _, fun x => by simp [DataW.atKey]⟩
section
variable {ops : Array Oper} {rest : List Oper} {o : Oper} {a : Act} {Q : Exit → Act → World → Prop}
theorem R_make {W : World} (hgd : o.guard = none) {N : Tmp} (_hd : o.dst = some N) (ho : o.op = .makeMap 131 none)
    (h : ∀ v1 w1, R w1 W.heap.size (fun _ => True) v1 ([] : List Int) → Below W.heap.size W w1 → True → True → wpList Try.prog ops Q rest (a.put o.dst v1) w1) : wpList Try.prog ops Q (o :: rest) a W := by
  refine Kd.event_run (v := .map (some W.heap.size)) (w1 := W.alloc (.map #[] 0)) hgd ?_ (h _ _ (made W trivial) (below_alloc (Below.refl _ _) _) trivial trivial)
  have hr : (Instr.makeMap 131 none).run Try.prog W = .ok (.map (some W.heap.size)) (W.alloc (.map #[] 0)) := rfl
  simp [execOp, ho, hr, Result.andThen]
theorem R_look {W : World} (hgd : o.guard = none) {m x : Operand} (ho : o.op = .lookup 131 m x false) (hm : a.eval m = v) {y : Int} (hx : a.eval x = .int .i64 y) (hR : R W base ok v xs) (hy : (Lit.int .i64 y).wf = true) {t : Bool} (ht : decide (y ∈ xs) = t)
    (h : wpList Try.prog ops Q rest (a.put o.dst (.bool t)) W) : wpList Try.prog ops Q (o :: rest) a W := by
  subst ht
  refine Kd.event_run (v := .bool (decide (y ∈ xs))) (w1 := W) hgd ?_ h
  simp [execOp, ho, hm, hx, look hR y hy]
theorem R_put {w0 W : World} (hgd : o.guard = none) {m x c : Operand} (ho : o.op = .mapUpdate 131 m x c) (hm : a.eval m = v) {y : Int} (hx : a.eval x = .int .i64 y) (hc : a.eval c = .bool true) (hR : R W base ok v xs) (hy : (Lit.int .i64 y).wf = true) (hl : xs.length < maxLen) (hB : Below base w0 W)
    (h : ∀ w1, R w1 base ok v (xs ++ [y]) → Below base w0 w1 → W.grownBy w1 (blockOf v) → wpList Try.prog ops Q rest (a.put o.dst undef) w1) : wpList Try.prog ops Q (o :: rest) a W := by
  obtain ⟨w', hrun, h1, h2⟩ := put hR y hy hl
  have hb : ∀ k, blockOf v = some k → base ≤ k := by
    obtain ⟨b, n, D, rfl, h3, _⟩ := hR
    intro k hk
    obtain rfl := Option.some.inj hk
    exact h3
  refine wpList_plain hgd fun K' hK' => ?_
  unfold Oper.wp
  simp [execOp, ho, hm, hx, hc, hrun, Result.andThen]
  exact hK' _ _ (h w' h1 (hB.grown h2 (by have hle := h1; obtain ⟨b, n, D, e1, h3, _, _, h5, _⟩ := hR; exact Nat.le_trans h3 (Nat.le_of_lt h5.lt)) hb) h2)
end
end MR
/-- Does the set hold the number? -/
def mapHas.f (l : List Int) (x : Int) : Option (Bool) := if (Lit.int .i64 x).wf = true then (some (decide (x ∈ l))) else (none)
def keyIn.f (x : Int) : Option (Int) := if (Lit.int .i64 x).wf = true then (some x) else (none)
theorem mapHas.of {l : List Int} {x : Int} {t : Bool} (h : mapHas.f l x = some t) : (Lit.int .i64 x).wf = true ∧ decide (x ∈ l) = t := by
  unfold mapHas.f at h
  split at h
  · exact ⟨by assumption, Option.some.inj h⟩
  · cases h
theorem keyIn.of {x t : Int} (h : keyIn.f x = some t) : (Lit.int .i64 x).wf = true ∧ x = t := by
  unfold keyIn.f at h
  split at h
  · exact ⟨by assumption, Option.some.inj h⟩
  · cases h
/-! ### impl_RunFault: function 38 -/
mutual
def impl_RunFault.l0 : Nat → List Int → List (S128) → Int → Int → List (S128) → Option (Int)
  | 0, _, _, _, _, _ => none
  | k + 1, x3, x12, x13, x14, x153000 => if x14 < x13 then (if 0 ≤ x14 then (if x14 < (x12.length : Int) then (if (((rd_T128 x12 x14).f0).size : Int) < 1 then (impl_RunFault.j1 k x3 x14 x12 x13 x14 true x153000 ((rd_T128 x12 x14).f0) ((rd_T128 x12 x14).f1) ((rd_T128 x12 x14).f2) ((rd_T128 x12 x14).f3)) else (if (((rd_T128 x12 x14).f0).size : Int) > 200 then (impl_RunFault.j1 k x3 x14 x12 x13 x14 true x153000 ((rd_T128 x12 x14).f0) ((rd_T128 x12 x14).f1) ((rd_T128 x12 x14).f2) ((rd_T128 x12 x14).f3)) else (if ((rd_T128 x12 x14).f1) < 1 then (impl_RunFault.j1 k x3 x14 x12 x13 x14 true x153000 ((rd_T128 x12 x14).f0) ((rd_T128 x12 x14).f1) ((rd_T128 x12 x14).f2) ((rd_T128 x12 x14).f3)) else (if (rd_T128 x12 x14).f2 = true then (if ((rd_T128 x12 x14).f3).toList = ([] : List UInt8) then (if (((rd_T128 x12 x14).f3).size : Int) > 100000 then (impl_RunFault.j1 k x3 x14 x12 x13 x14 true x153000 ((rd_T128 x12 x14).f0) ((rd_T128 x12 x14).f1) ((rd_T128 x12 x14).f2) ((rd_T128 x12 x14).f3)) else ((mapHas.f x3 ((rd_T128 x12 x14).f1)).bind fun t158 => (impl_RunFault.j1 k x3 x14 x12 x13 x14 t158 x153000 ((rd_T128 x12 x14).f0) ((rd_T128 x12 x14).f1) ((rd_T128 x12 x14).f2) ((rd_T128 x12 x14).f3)))) else (impl_RunFault.j1 k x3 x14 x12 x13 x14 true x153000 ((rd_T128 x12 x14).f0) ((rd_T128 x12 x14).f1) ((rd_T128 x12 x14).f2) ((rd_T128 x12 x14).f3))) else (if (((rd_T128 x12 x14).f3).size : Int) > 100000 then (impl_RunFault.j1 k x3 x14 x12 x13 x14 true x153000 ((rd_T128 x12 x14).f0) ((rd_T128 x12 x14).f1) ((rd_T128 x12 x14).f2) ((rd_T128 x12 x14).f3)) else ((mapHas.f x3 ((rd_T128 x12 x14).f1)).bind fun t159 => (impl_RunFault.j1 k x3 x14 x12 x13 x14 t159 x153000 ((rd_T128 x12 x14).f0) ((rd_T128 x12 x14).f1) ((rd_T128 x12 x14).f2) ((rd_T128 x12 x14).f3)))))))) else (none)) else (none)) else (some 0)
def impl_RunFault.j1 : Nat → List Int → Int → List (S128) → Int → Int → Bool → List (S128) → ByteArray → Int → Bool → ByteArray → Option (Int)
  | 0, _, _, _, _, _, _, _, _, _, _, _ => none
  | k + 1, x3, x4, x12, x13, x14, x54, x153000, x158000, x158001, x158002, x158003 => if x54 = true then (some 1) else (if x4 > 0 then (if 0 ≤ (wrap64 (x4 - 1)) then (if (wrap64 (x4 - 1)) < (x153000.length : Int) then ((impl_entryOrder.f ((rd_T128 x153000 (wrap64 (x4 - 1))).f0) ((rd_T128 x153000 (wrap64 (x4 - 1))).f1) ((rd_T128 x153000 (wrap64 (x4 - 1))).f2) ((rd_T128 x153000 (wrap64 (x4 - 1))).f3) x158000 x158001 x158002 x158003).bind fun t161 => (impl_RunFault.j2 k x3 x12 x13 x14 (decide (t161 ≥ 0)) x153000 x158000 x158001 x158002 x158003)) else (none)) else (none)) else (impl_RunFault.j2 k x3 x12 x13 x14 false x153000 x158000 x158001 x158002 x158003))
def impl_RunFault.j2 : Nat → List Int → List (S128) → Int → Int → Bool → List (S128) → ByteArray → Int → Bool → ByteArray → Option (Int)
  | 0, _, _, _, _, _, _, _, _, _, _ => none
  | k + 1, x3, x12, x13, x14, x67, x153000, x158000, x158001, x158002, x158003 => if x67 = true then (some 1) else ((keyIn.f x158001).bind fun t162 => (if x3.length < 17592186044416 then (impl_RunFault.l0 k (x3 ++ [t162]) x12 x13 (wrap64 (x14 + 1)) x153000) else (none)))
end
def impl_RunFault.f (k : Nat) (l0_0 : List (S128)) : Option (Int) := if (l0_0.length : Int) > 1000 then (some 1) else (impl_RunFault.l0 k (([] : List Int)) l0_0 (l0_0.length : Int) 0 l0_0)
theorem impl_RunFault.mono_l : ∀ k, (∀ y0 y1 y2 y3 y4, LeO (impl_RunFault.l0 k y0 y1 y2 y3 y4) (impl_RunFault.l0 (k + 1) y0 y1 y2 y3 y4)) ∧ (∀ y0 y1 y2 y3 y4 y5 y6 y7 y8 y9 y10, LeO (impl_RunFault.j1 k y0 y1 y2 y3 y4 y5 y6 y7 y8 y9 y10) (impl_RunFault.j1 (k + 1) y0 y1 y2 y3 y4 y5 y6 y7 y8 y9 y10)) ∧ (∀ y0 y1 y2 y3 y4 y5 y6 y7 y8 y9, LeO (impl_RunFault.j2 k y0 y1 y2 y3 y4 y5 y6 y7 y8 y9) (impl_RunFault.j2 (k + 1) y0 y1 y2 y3 y4 y5 y6 y7 y8 y9))
  | 0 => ⟨fun _ _ _ _ _ r h => by simp [impl_RunFault.l0] at h, fun _ _ _ _ _ _ _ _ _ _ _ r h => by simp [impl_RunFault.j1] at h, fun _ _ _ _ _ _ _ _ _ _ r h => by simp [impl_RunFault.j2] at h⟩
  | k + 1 => by
    obtain ⟨ih0, ih1, ih2⟩ := impl_RunFault.mono_l k
    refine ⟨?_, ?_, ?_⟩
    · intro y0 y1 y2 y3 y4
      unfold impl_RunFault.l0
      repeat' first
      | (with_reducible exact ih0 _ _ _ _ _)
      | (with_reducible exact ih1 _ _ _ _ _ _ _ _ _ _ _)
      | (with_reducible exact ih2 _ _ _ _ _ _ _ _ _ _)
      | (with_reducible exact LeO.refl _)
      | (with_reducible exact LeO.none _)
      | (with_reducible refine LeO.ite ?_ ?_)
      | (with_reducible refine LeO.bind ?_ (fun _ => ?_))
      | exact ih0 _ _ _ _ _
      | exact ih1 _ _ _ _ _ _ _ _ _ _ _
      | exact ih2 _ _ _ _ _ _ _ _ _ _
      | exact LeO.none _
      | refine LeO.ite ?_ ?_
      | refine LeO.bind ?_ (fun _ => ?_)
    · intro y0 y1 y2 y3 y4 y5 y6 y7 y8 y9 y10
      unfold impl_RunFault.j1
      repeat' first
      | (with_reducible exact ih0 _ _ _ _ _)
      | (with_reducible exact ih1 _ _ _ _ _ _ _ _ _ _ _)
      | (with_reducible exact ih2 _ _ _ _ _ _ _ _ _ _)
      | (with_reducible exact LeO.refl _)
      | (with_reducible exact LeO.none _)
      | (with_reducible refine LeO.ite ?_ ?_)
      | (with_reducible refine LeO.bind ?_ (fun _ => ?_))
      | exact ih0 _ _ _ _ _
      | exact ih1 _ _ _ _ _ _ _ _ _ _ _
      | exact ih2 _ _ _ _ _ _ _ _ _ _
      | exact LeO.none _
      | refine LeO.ite ?_ ?_
      | refine LeO.bind ?_ (fun _ => ?_)
    · intro y0 y1 y2 y3 y4 y5 y6 y7 y8 y9
      unfold impl_RunFault.j2
      repeat' first
      | (with_reducible exact ih0 _ _ _ _ _)
      | (with_reducible exact ih1 _ _ _ _ _ _ _ _ _ _ _)
      | (with_reducible exact ih2 _ _ _ _ _ _ _ _ _ _)
      | (with_reducible exact LeO.refl _)
      | (with_reducible exact LeO.none _)
      | (with_reducible refine LeO.ite ?_ ?_)
      | (with_reducible refine LeO.bind ?_ (fun _ => ?_))
      | exact ih0 _ _ _ _ _
      | exact ih1 _ _ _ _ _ _ _ _ _ _ _
      | exact ih2 _ _ _ _ _ _ _ _ _ _
      | exact LeO.none _
      | refine LeO.ite ?_ ?_
      | refine LeO.bind ?_ (fun _ => ?_)
theorem impl_RunFault.mono : ∀ a0 k, LeO (impl_RunFault.f k a0) (impl_RunFault.f (k + 1) a0) := by
  intro a0 k
  obtain ⟨ih0, ih1, ih2⟩ := impl_RunFault.mono_l k
  unfold impl_RunFault.f
  repeat' first
      | (with_reducible exact ih0 _ _ _ _ _)
      | (with_reducible exact ih1 _ _ _ _ _ _ _ _ _ _ _)
      | (with_reducible exact ih2 _ _ _ _ _ _ _ _ _ _)
      | (with_reducible exact LeO.refl _)
      | (with_reducible exact LeO.none _)
      | (with_reducible refine LeO.ite ?_ ?_)
      | (with_reducible refine LeO.bind ?_ (fun _ => ?_))
      | exact ih0 _ _ _ _ _
      | exact ih1 _ _ _ _ _ _ _ _ _ _ _
      | exact ih2 _ _ _ _ _ _ _ _ _ _
      | exact LeO.none _
      | refine LeO.ite ?_ ?_
      | refine LeO.bind ?_ (fun _ => ?_)
def impl_RunFault.T9 : Bool × List (List Nat × List Nat) := (true, [([], []), ([0], [0]), ([1], [1]), ([2], [2]), ([3, 2], [2, 3]), ([2], [2]), ([5, 2], [2, 5]), ([4, 6, 2], [2, 4, 6]), ([7, 2], [2, 7]), ([2], [2]), ([8, 9, 2, 2], [2, 8, 9]), ([10, 2], [2, 10]), ([2, 11], [2, 11])])
def impl_RunFault.B9 : List Nat := [0, 1, 3, 7, 15, 7, 39, 127, 255, 7, 1023, 2047, 4095]
theorem impl_RunFault.tab9 : rtab .any (opsOf Try.f38 9) = impl_RunFault.T9 := by kernel_rfl
theorem impl_RunFault.bits9 : waitsOk impl_RunFault.T9.2 impl_RunFault.B9 = true := by kernel_rfl
set_option maxHeartbeats 8000000 in
set_option maxRecDepth 100000 in
theorem impl_RunFault.calls (k : Nat) (A0_0 : Option Addr) (c0_0 : Nat) (l0_0 : List (S128)) (r : Int) (w : World) (hr0_0 : Kd.C k128 w A0_0 l0_0.length l0_0) (hc0_0 : l0_0.length ≤ c0_0) (h : impl_RunFault.f k l0_0 = some r) :
    Calls Try.prog 38 #[.agg #[.slice A0_0 l0_0.length c0_0]] w fun e w' => e = .returned (.int .i64 r) ∧ Below w.heap.size w w' := by
  have hu48 := Try.underlying48
  have hu128 := Try.underlying128
  have HR0_0 := Aside0.mk hr0_0
  have HC0_0 := Aside0.mk hc0_0
  clear hr0_0 hc0_0
  have HB := Aside0.mk (Below.refl w.heap.size w)
  have H : (if (l0_0.length : Int) > 1000 then (some 1) else (impl_RunFault.l0 k (([] : List Int)) l0_0 (l0_0.length : Int) 0 l0_0)) = some r := h
  clear h
  by_cases c2 : (l0_0.length : Int) > 1000
  · rw [if_pos c2] at H
    have c2b0 : decide (1000 < (l0_0.length : Int)) = true := decide_eq_true c2
    have c2b1 : decide (1000 < l0_0.length) = true := decide_eq_true (by omega)
    clear c2
    obtain rfl := Option.some.inj H
    go_enter Try.func38, Try.ntmps38
    go_wp2_with (first | ((with_reducible refine gate_dst (N := 1) rfl ?_); (try (refine gate_guard (by rfl) ?_; dsimp only)); refine box_event ?hg (N := 1) ?hd (cs := #[.slice A0_0 l0_0.length c0_0]) (t := 48) ?hr ?_; (case hd => rfl); (case hg => rfl); (case hr => first | (go_simp; done) | (go_simp; rfl)); intro gb152 hg w3 hbox hb; have n0_ := Aside0.mk (below_step (by repeat (first | (with_reducible first | exact HB.out | apply below_alloc | apply pw_below_drewN | apply below_drew1) | exact HB.out)) hb); have n1_ := Aside0.mk (hbox); have n2_ := Aside0.mk ((by rw [hg]; exact (below_size (by repeat (first | (with_reducible first | exact HB.out | apply below_alloc | apply pw_below_drewN | apply below_drew1) | exact HB.out))) : w.heap.size ≤ gb152)); have n3_ := Aside0.mk ((by rw [hg]; exact (below_size (by repeat (first | (with_reducible first | exact HB.out | apply below_alloc | apply pw_below_drewN | apply below_drew1) | exact HB.out))) : w.heap.size ≤ gb152)); clear HB; have HB := n0_; have BK152 := n1_; have GW152 := n2_; have GE152 := n3_; clear n0_ n1_ n2_ n3_; clear hb hbox hg; have hcz4_0 : w3.cell? ⟨gb152, 0, none⟩ = some (.slice A0_0 l0_0.length c0_0) := (blk_cell BK152.out 0).trans rfl; have hfz4_0 := blk_frozen BK152.out 0))
    go_ret
    exact ⟨by first | rfl | (simp [errW_none, errW_some] <;> rfl) | (simp [*, errW_none, errW_some] <;> rfl), by repeat (first | (with_reducible first | exact HB.out | apply below_alloc | apply pw_below_drewN | apply below_drew1 | refine below_set ?_ GE152.out) | exact HB.out)⟩
  · rw [if_neg c2] at H
    have c2b0 : decide (1000 < (l0_0.length : Int)) = false := decide_eq_false c2
    have c2b1 : decide (1000 < l0_0.length) = false := decide_eq_false (by omega)
    clear c2
    obtain ⟨y153, hy153⟩ : ∃ y_ : List Int, y_ = (([] : List Int)) := ⟨_, rfl⟩
    replace H : (impl_RunFault.l0 k y153 l0_0 (l0_0.length : Int) 0 l0_0) = some r := by first | (rw [hy153]; with_reducible exact H) | (have H2_ := (Option.bind_some _ _).symm.trans H; rw [hy153]; with_reducible exact H2_) | (have H2_ := (Option.bind_some _ _).symm.trans H; with_reducible exact H2_) | with_reducible exact H | (rw [hy153]; exact H) | exact H
    have Ny153 := Aside0.mk hy153
    clear hy153
    have H' := Aside0.mk H
    clear H
    go_enter Try.func38, Try.ntmps38
    go_wp2_with (first | ((with_reducible refine gate_dst (N := 1) rfl ?_); (try (refine gate_guard (by rfl) ?_; dsimp only)); refine box_event ?hg (N := 1) ?hd (cs := #[.slice A0_0 l0_0.length c0_0]) (t := 48) ?hr ?_; (case hd => rfl); (case hg => rfl); (case hr => first | (go_simp; done) | (go_simp; rfl)); intro gb152 hg w5 hbox hb; have n0_ := Aside0.mk (below_step (by repeat (first | (with_reducible first | exact HB.out | apply below_alloc | apply pw_below_drewN | apply below_drew1) | exact HB.out)) hb); have n1_ := Aside0.mk (hbox); have n2_ := Aside0.mk ((by rw [hg]; exact (below_size (by repeat (first | (with_reducible first | exact HB.out | apply below_alloc | apply pw_below_drewN | apply below_drew1) | exact HB.out))) : w.heap.size ≤ gb152)); have n3_ := Aside0.mk ((by rw [hg]; exact (below_size (by repeat (first | (with_reducible first | exact HB.out | apply below_alloc | apply pw_below_drewN | apply below_drew1) | exact HB.out))) : w.heap.size ≤ gb152)); clear HB; have HB := n0_; have BK152 := n1_; have GW152 := n2_; have GE152 := n3_; clear n0_ n1_ n2_ n3_; clear hb hbox hg; have hcz6_0 : w5.cell? ⟨gb152, 0, none⟩ = some (.slice A0_0 l0_0.length c0_0) := (blk_cell BK152.out 0).trans rfl; have hfz6_0 := blk_frozen BK152.out 0) | ((with_reducible refine gate_dst (N := 10) rfl ?_); (try (refine gate_guard (by rfl) ?_; dsimp only)); refine MR.R_make (N := 10) rfl rfl rfl ?_; intro v154 w7 ho8 hb hg_ hnew_; clear hg_ hnew_; (first | rw [← Ny153.out] at ho8 | (simp only [Int.reduceToNat] at ho8; rw [← Ny153.out] at ho8)); have n0_ := Aside0.mk (MR.R_lower ho8 (below_size (by repeat (first | (with_reducible first | exact HB.out | apply below_alloc | apply pw_below_drewN | apply below_drew1 | refine below_set ?_ GE152.out) | exact HB.out)))); have n1_ := Aside0.mk (blk_below (g := gb152) (o := .cells #[.slice A0_0 l0_0.length c0_0] 48 (0, 0)) (by (with_reducible repeat (first | refine blk_drewN ?_ _ | refine blk_drew ?_ | refine blk_alloc ?_ _)); exact BK152.out) hb); have n2_ := Aside0.mk (below_step (by repeat (first | (with_reducible first | exact HB.out | apply below_alloc | apply pw_below_drewN | apply below_drew1 | refine below_set ?_ GE152.out) | exact HB.out)) hb); clear BK152; clear HB; have HO155 := n0_; have BK152 := n1_; have HB := n2_; clear n0_ n1_ n2_; clear hb ho8; have hcz9_0 : w7.cell? ⟨gb152, 0, none⟩ = some (.slice A0_0 l0_0.length c0_0) := (blk_cell BK152.out 0).trans rfl; have hfz9_0 := blk_frozen BK152.out 0))
    go_loopg [14] k (fun kq v14 w' => ∃ (x3_1 : List Int) (x14_1 : Int), v14 = .int .i64 x14_1 ∧ Aside0 (impl_RunFault.l0 kq x3_1 l0_0 (l0_0.length : Int) x14_1 l0_0 = some r) ∧ Aside0 (kq ≤ k) ∧ Aside0 (MR.R w' w.heap.size (fun _ => True) v154 x3_1) ∧ Aside0 (w'.heap[gb152]? = some (.cells #[(.slice A0_0 l0_0.length c0_0)] 48 (0, 0))) ∧ Aside0 (Below w.heap.size w w'))
    case atStart => exact ⟨(y153), (0), (by first | rfl | (simp; done) | (simp [*]; done)), H', ⟨Nat.le_refl _⟩, ⟨by (with_reducible repeat (first | apply MR.R_alloc | apply MR.R_drewN | apply MR.R_drew)); exact HO155.out⟩, ⟨by (with_reducible repeat (first | refine blk_drewN ?_ _ | refine blk_drew ?_ | refine blk_alloc ?_ _)); exact BK152.out⟩, ⟨by repeat (first | (with_reducible first | exact HB.out | apply below_alloc | apply pw_below_drewN | apply below_drew1 | refine below_set ?_ GE152.out) | exact HB.out)⟩⟩
    case round =>
      clear H'
      try clear c2
      try clear c2b0
      try clear c2b1
      try clear p2
      try clear c3
      try clear hcz4_0
      try clear hcz6_0
      try clear hcz9_0
      try clear hfz4_0
      try clear hfz6_0
      try clear hfz9_0
      obtain ⟨x3_1, x14_1, rfl, HA, HK1, HO_3, BK152, HB⟩ := hrel
      cases gk with
      | zero => exact absurd HA.out (by simp [impl_RunFault.l0])
      | succ k1 =>
        have H := HA.out
        clear HA
        simp only [impl_RunFault.l0] at H
        by_cases c10 : x14_1 < (l0_0.length : Int)
        · rw [if_pos c10] at H
          have c10b0 : decide (x14_1 < (l0_0.length : Int)) = true := decide_eq_true c10
          clear c10
          by_cases c11 : 0 ≤ x14_1
          · rw [if_pos c11] at H
            have c11b0 : decide (0 ≤ x14_1) = true := decide_eq_true c11
            clear c11
            by_cases c12 : x14_1 < (l0_0.length : Int)
            · rw [if_pos c12] at H
              have c12b0 : decide (x14_1 < (l0_0.length : Int)) = true := decide_eq_true c12
              clear c12
              have HC13 := Aside0.mk H
              clear H
              have p156 : 0 ≤ (x14_1 : Int) := of_decide_eq_true (by first | (with_reducible assumption) | assumption)
              have q156 : x14_1 < (l0_0.length : Int) := of_decide_eq_true (by first | (with_reducible assumption) | assumption)
              obtain ⟨ad156, e156, hx156_0, hx156_1, hx156_2, hx156_3⟩ := at_T128 HR0_0.out x14_1 p156 q156
              cases e156
              replace hx156_0 := (HB.out.cell (World.block_lt_of_cell? w _ hx156_0)).trans hx156_0
              replace hx156_1 := (HB.out.cell (World.block_lt_of_cell? w _ hx156_1)).trans hx156_1
              replace hx156_2 := (HB.out.cell (World.block_lt_of_cell? w _ hx156_2)).trans hx156_2
              replace hx156_3 := (HB.out.cell (World.block_lt_of_cell? w _ hx156_3)).trans hx156_3
              replace p156 := eq_true p156
              replace q156 := eq_true q156
              go_upto_region 7 with (first | ((with_reducible refine gate_dst (N := 5) rfl ?_); (try (refine gate_guard (by rfl) ?_; dsimp only)); refine box_event ?hg (N := 5) ?hd (cs := #[.string (⟨#[]⟩ : ByteArray), .int .i64 0, .bool false, .string (⟨#[]⟩ : ByteArray)]) (t := 128) ?hr ?_; (case hd => rfl); (case hg => rfl); (case hr => first | (go_simp; done) | (go_simp; rfl)); intro gb157 hg w14 hbox hb; have n0_ := Aside0.mk (MR.R_below (by (with_reducible repeat (first | apply MR.R_alloc | apply MR.R_drewN | apply MR.R_drew)); exact HO_3.out) hb); have n1_ := Aside0.mk (blk_below (g := gb152) (o := .cells #[.slice (some ad156) l0_0.length c0_0] 48 (0, 0)) (by (with_reducible repeat (first | refine blk_drewN ?_ _ | refine blk_drew ?_ | refine blk_alloc ?_ _)); exact BK152.out) hb); have n2_ := Aside0.mk (below_step (by repeat (first | (with_reducible first | exact HB.out | apply below_alloc | apply pw_below_drewN | apply below_drew1 | refine below_set ?_ GE152.out) | exact HB.out)) hb); have n3_ := Aside0.mk (hbox); have n4_ := Aside0.mk ((by rw [hg]; exact (below_size (by repeat (first | (with_reducible first | exact HB.out | apply below_alloc | apply pw_below_drewN | apply below_drew1 | refine below_set ?_ GE152.out) | exact HB.out))) : w.heap.size ≤ gb157)); have n5_ := Aside0.mk ((by rw [hg]; exact (below_size (by repeat (first | (with_reducible first | exact HB.out | apply below_alloc | apply pw_below_drewN | apply below_drew1 | refine below_set ?_ GE152.out) | exact HB.out))) : w.heap.size ≤ gb157)); have n6_ := Aside0.mk ((by rw [hg]; exact Nat.ne_of_lt (blk_lt (g := gb152) (o := .cells #[.slice (some ad156) l0_0.length c0_0] 48 (0, 0)) (by (with_reducible repeat (first | refine blk_drewN ?_ _ | refine blk_drew ?_ | refine blk_alloc ?_ _)); exact BK152.out)) : gb152 ≠ gb157)); have n7_ := Aside0.mk ((by rw [hg]; exact Nat.ne_of_gt (blk_lt (g := gb152) (o := .cells #[.slice (some ad156) l0_0.length c0_0] 48 (0, 0)) (by (with_reducible repeat (first | refine blk_drewN ?_ _ | refine blk_drew ?_ | refine blk_alloc ?_ _)); exact BK152.out)) : gb157 ≠ gb152)); clear HO_3; clear BK152; clear HB; have HO_3 := n0_; have BK152 := n1_; have HB := n2_; have BK157 := n3_; have GW157 := n4_; have GE157 := n5_; have NB152_157 := n6_; have NB157_152 := n7_; clear n0_ n1_ n2_ n3_ n4_ n5_ n6_ n7_; clear hb hbox hg; have hnb15 := NB157_152.out; have hnc15 := NB152_157.out; have hcz16_0 : w14.cell? ⟨gb157, 0, none⟩ = some (.string (⟨#[]⟩ : ByteArray)) := (blk_cell BK157.out 0).trans rfl; have hcz16_1 : w14.cell? ⟨gb157, 1, none⟩ = some (.int .i64 0) := (blk_cell BK157.out 1).trans rfl; have hcz16_2 : w14.cell? ⟨gb157, 2, none⟩ = some (.bool false) := (blk_cell BK157.out 2).trans rfl; have hcz16_3 : w14.cell? ⟨gb157, 3, none⟩ = some (.string (⟨#[]⟩ : ByteArray)) := (blk_cell BK157.out 3).trans rfl; have hfz16_0 := blk_frozen BK157.out 0; have hfz16_1 := blk_frozen BK157.out 1; have hfz16_2 := blk_frozen BK157.out 2; have hfz16_3 := blk_frozen BK157.out 3))
              (try simp only [Act.put, List.setIfInBounds_toArray, List.set_cons_zero, List.set_cons_succ])
              go_cut [54] (fun v54 wc => ∃ (kq : Nat) (x54_12 : Bool), v54 = .bool x54_12 ∧ Aside0 (impl_RunFault.j1 kq x3_1 x14_1 l0_0 (l0_0.length : Int) x14_1 x54_12 l0_0 ((rd_T128 l0_0 x14_1).f0) ((rd_T128 l0_0 x14_1).f1) ((rd_T128 l0_0 x14_1).f2) ((rd_T128 l0_0 x14_1).f3) = some r) ∧ Aside0 (kq ≤ k1) ∧ Aside0 (MR.R wc w.heap.size (fun _ => True) v154 x3_1) ∧ Aside0 (wc.heap[gb152]? = some (.cells #[(.slice (some ad156) l0_0.length c0_0)] 48 (0, 0))) ∧ Aside0 (wc.heap[gb157]? = some (.cells #[.string ((rd_T128 l0_0 x14_1).f0), .int .i64 ((rd_T128 l0_0 x14_1).f1), .bool ((rd_T128 l0_0 x14_1).f2), .string ((rd_T128 l0_0 x14_1).f3)] 128 (0, 0))) ∧ Aside0 (Below w.heap.size w wc))
              case first =>
                have H := HC13.out
                clear HC13
                by_cases c17 : (((rd_T128 l0_0 x14_1).f0).size : Int) < 1
                · rw [if_pos c17] at H
                  have c17b0 : decide ((((rd_T128 l0_0 x14_1).f0).size : Int) < 1) = true := decide_eq_true c17
                  have c17b1 : decide (((rd_T128 l0_0 x14_1).f0).size < 1) = true := decide_eq_true (by omega)
                  clear c17
                  (first | rw [c17b0] | (simp only [i64_w, i32_w]; rw [c17b0]) | skip)
                  have H' := Aside0.mk H
                  clear H
                  have hnb18 := NB157_152.out
                  have hnc18 := NB152_157.out
                  have hcz19_0 : w14.cell? ⟨gb157, 0, none⟩ = some (.string (⟨#[]⟩ : ByteArray)) := (blk_cell BK157.out 0).trans rfl
                  have hcz19_1 : w14.cell? ⟨gb157, 1, none⟩ = some (.int .i64 0) := (blk_cell BK157.out 1).trans rfl
                  have hcz19_2 : w14.cell? ⟨gb157, 2, none⟩ = some (.bool false) := (blk_cell BK157.out 2).trans rfl
                  have hcz19_3 : w14.cell? ⟨gb157, 3, none⟩ = some (.string (⟨#[]⟩ : ByteArray)) := (blk_cell BK157.out 3).trans rfl
                  have hfz19_0 := blk_frozen BK157.out 0
                  have hfz19_1 := blk_frozen BK157.out 1
                  have hfz19_2 := blk_frozen BK157.out 2
                  have hfz19_3 := blk_frozen BK157.out 3
                  go_wp2
                  go_meet
                  case rel => exact ⟨_, (true), (by first | rfl | (simp; done) | (simp [*]; done)), H', ⟨by have := HK1.out; first | omega | exact Nat.le_refl _⟩, ⟨by (with_reducible repeat (first | apply MR.R_alloc | apply MR.R_drewN | apply MR.R_drew)); exact MR.R_mono (MR.R_far (p := ⟨gb157, 3, none⟩) (MR.R_far (p := ⟨gb157, 2, none⟩) (MR.R_far (p := ⟨gb157, 1, none⟩) (MR.R_far (p := ⟨gb157, 0, none⟩) (MR.R_types HO_3.out BK157.out (by decide)) (fun _ hk => hk.2) (.string ((rd_T128 l0_0 x14_1).f0))) (fun _ hk => hk.2) (.int .i64 ((rd_T128 l0_0 x14_1).f1))) (fun _ hk => hk.2) (.bool ((rd_T128 l0_0 x14_1).f2))) (fun _ hk => hk.2) (.string ((rd_T128 l0_0 x14_1).f3))) (fun _ hk => trivial)⟩, ⟨by (with_reducible repeat (first | refine blk_drewN ?_ _ | refine blk_drew ?_ | refine blk_alloc ?_ _)); refine blk_far ?_ NB152_157.out _; (with_reducible repeat (first | refine blk_drewN ?_ _ | refine blk_drew ?_ | refine blk_alloc ?_ _)); refine blk_far ?_ NB152_157.out _; (with_reducible repeat (first | refine blk_drewN ?_ _ | refine blk_drew ?_ | refine blk_alloc ?_ _)); refine blk_far ?_ NB152_157.out _; (with_reducible repeat (first | refine blk_drewN ?_ _ | refine blk_drew ?_ | refine blk_alloc ?_ _)); refine blk_far ?_ NB152_157.out _; (with_reducible repeat (first | refine blk_drewN ?_ _ | refine blk_drew ?_ | refine blk_alloc ?_ _)); exact BK152.out⟩, ⟨by (with_reducible repeat (first | refine blk_drewN ?_ _ | refine blk_drew ?_ | refine blk_alloc ?_ _)); refine blk_put (cs := #[.string ((rd_T128 l0_0 x14_1).f0), .int .i64 ((rd_T128 l0_0 x14_1).f1), .bool ((rd_T128 l0_0 x14_1).f2), .string (⟨#[]⟩ : ByteArray)]) ?_ 3 _ rfl; (with_reducible repeat (first | refine blk_drewN ?_ _ | refine blk_drew ?_ | refine blk_alloc ?_ _)); refine blk_put (cs := #[.string ((rd_T128 l0_0 x14_1).f0), .int .i64 ((rd_T128 l0_0 x14_1).f1), .bool false, .string (⟨#[]⟩ : ByteArray)]) ?_ 2 _ rfl; (with_reducible repeat (first | refine blk_drewN ?_ _ | refine blk_drew ?_ | refine blk_alloc ?_ _)); refine blk_put (cs := #[.string ((rd_T128 l0_0 x14_1).f0), .int .i64 0, .bool false, .string (⟨#[]⟩ : ByteArray)]) ?_ 1 _ rfl; (with_reducible repeat (first | refine blk_drewN ?_ _ | refine blk_drew ?_ | refine blk_alloc ?_ _)); refine blk_put (cs := #[.string (⟨#[]⟩ : ByteArray), .int .i64 0, .bool false, .string (⟨#[]⟩ : ByteArray)]) ?_ 0 _ rfl; (with_reducible repeat (first | refine blk_drewN ?_ _ | refine blk_drew ?_ | refine blk_alloc ?_ _)); exact BK157.out⟩, ⟨by repeat (first | (with_reducible first | exact HB.out | apply below_alloc | apply pw_below_drewN | apply below_drew1 | refine below_set ?_ GE152.out | refine below_set ?_ GE157.out) | exact HB.out)⟩⟩
                · rw [if_neg c17] at H
                  have c17b0 : decide ((((rd_T128 l0_0 x14_1).f0).size : Int) < 1) = false := decide_eq_false c17
                  have c17b1 : decide (((rd_T128 l0_0 x14_1).f0).size < 1) = false := decide_eq_false (by omega)
                  clear c17
                  (first | rw [c17b0] | (simp only [i64_w, i32_w]; rw [c17b0]) | skip)
                  by_cases c20 : (((rd_T128 l0_0 x14_1).f0).size : Int) > 200
                  · rw [if_pos c20] at H
                    have c20b0 : decide (200 < (((rd_T128 l0_0 x14_1).f0).size : Int)) = true := decide_eq_true c20
                    have c20b1 : decide (200 < ((rd_T128 l0_0 x14_1).f0).size) = true := decide_eq_true (by omega)
                    clear c20
                    have H' := Aside0.mk H
                    clear H
                    have hnb21 := NB157_152.out
                    have hnc21 := NB152_157.out
                    have hcz22_0 : w14.cell? ⟨gb157, 0, none⟩ = some (.string (⟨#[]⟩ : ByteArray)) := (blk_cell BK157.out 0).trans rfl
                    have hcz22_1 : w14.cell? ⟨gb157, 1, none⟩ = some (.int .i64 0) := (blk_cell BK157.out 1).trans rfl
                    have hcz22_2 : w14.cell? ⟨gb157, 2, none⟩ = some (.bool false) := (blk_cell BK157.out 2).trans rfl
                    have hcz22_3 : w14.cell? ⟨gb157, 3, none⟩ = some (.string (⟨#[]⟩ : ByteArray)) := (blk_cell BK157.out 3).trans rfl
                    have hfz22_0 := blk_frozen BK157.out 0
                    have hfz22_1 := blk_frozen BK157.out 1
                    have hfz22_2 := blk_frozen BK157.out 2
                    have hfz22_3 := blk_frozen BK157.out 3
                    go_wp2
                    go_meet
                    case rel => exact ⟨_, (true), (by first | rfl | (simp; done) | (simp [*]; done)), H', ⟨by have := HK1.out; first | omega | exact Nat.le_refl _⟩, ⟨by (with_reducible repeat (first | apply MR.R_alloc | apply MR.R_drewN | apply MR.R_drew)); exact MR.R_mono (MR.R_far (p := ⟨gb157, 3, none⟩) (MR.R_far (p := ⟨gb157, 2, none⟩) (MR.R_far (p := ⟨gb157, 1, none⟩) (MR.R_far (p := ⟨gb157, 0, none⟩) (MR.R_types HO_3.out BK157.out (by decide)) (fun _ hk => hk.2) (.string ((rd_T128 l0_0 x14_1).f0))) (fun _ hk => hk.2) (.int .i64 ((rd_T128 l0_0 x14_1).f1))) (fun _ hk => hk.2) (.bool ((rd_T128 l0_0 x14_1).f2))) (fun _ hk => hk.2) (.string ((rd_T128 l0_0 x14_1).f3))) (fun _ hk => trivial)⟩, ⟨by (with_reducible repeat (first | refine blk_drewN ?_ _ | refine blk_drew ?_ | refine blk_alloc ?_ _)); refine blk_far ?_ NB152_157.out _; (with_reducible repeat (first | refine blk_drewN ?_ _ | refine blk_drew ?_ | refine blk_alloc ?_ _)); refine blk_far ?_ NB152_157.out _; (with_reducible repeat (first | refine blk_drewN ?_ _ | refine blk_drew ?_ | refine blk_alloc ?_ _)); refine blk_far ?_ NB152_157.out _; (with_reducible repeat (first | refine blk_drewN ?_ _ | refine blk_drew ?_ | refine blk_alloc ?_ _)); refine blk_far ?_ NB152_157.out _; (with_reducible repeat (first | refine blk_drewN ?_ _ | refine blk_drew ?_ | refine blk_alloc ?_ _)); exact BK152.out⟩, ⟨by (with_reducible repeat (first | refine blk_drewN ?_ _ | refine blk_drew ?_ | refine blk_alloc ?_ _)); refine blk_put (cs := #[.string ((rd_T128 l0_0 x14_1).f0), .int .i64 ((rd_T128 l0_0 x14_1).f1), .bool ((rd_T128 l0_0 x14_1).f2), .string (⟨#[]⟩ : ByteArray)]) ?_ 3 _ rfl; (with_reducible repeat (first | refine blk_drewN ?_ _ | refine blk_drew ?_ | refine blk_alloc ?_ _)); refine blk_put (cs := #[.string ((rd_T128 l0_0 x14_1).f0), .int .i64 ((rd_T128 l0_0 x14_1).f1), .bool false, .string (⟨#[]⟩ : ByteArray)]) ?_ 2 _ rfl; (with_reducible repeat (first | refine blk_drewN ?_ _ | refine blk_drew ?_ | refine blk_alloc ?_ _)); refine blk_put (cs := #[.string ((rd_T128 l0_0 x14_1).f0), .int .i64 0, .bool false, .string (⟨#[]⟩ : ByteArray)]) ?_ 1 _ rfl; (with_reducible repeat (first | refine blk_drewN ?_ _ | refine blk_drew ?_ | refine blk_alloc ?_ _)); refine blk_put (cs := #[.string (⟨#[]⟩ : ByteArray), .int .i64 0, .bool false, .string (⟨#[]⟩ : ByteArray)]) ?_ 0 _ rfl; (with_reducible repeat (first | refine blk_drewN ?_ _ | refine blk_drew ?_ | refine blk_alloc ?_ _)); exact BK157.out⟩, ⟨by repeat (first | (with_reducible first | exact HB.out | apply below_alloc | apply pw_below_drewN | apply below_drew1 | refine below_set ?_ GE152.out | refine below_set ?_ GE157.out) | exact HB.out)⟩⟩
                  · rw [if_neg c20] at H
                    have c20b0 : decide (200 < (((rd_T128 l0_0 x14_1).f0).size : Int)) = false := decide_eq_false c20
                    have c20b1 : decide (200 < ((rd_T128 l0_0 x14_1).f0).size) = false := decide_eq_false (by omega)
                    clear c20
                    by_cases c23 : ((rd_T128 l0_0 x14_1).f1) < 1
                    · rw [if_pos c23] at H
                      have c23b0 : decide (((rd_T128 l0_0 x14_1).f1) < 1) = true := decide_eq_true c23
                      clear c23
                      have H' := Aside0.mk H
                      clear H
                      have hnb24 := NB157_152.out
                      have hnc24 := NB152_157.out
                      have hcz25_0 : w14.cell? ⟨gb157, 0, none⟩ = some (.string (⟨#[]⟩ : ByteArray)) := (blk_cell BK157.out 0).trans rfl
                      have hcz25_1 : w14.cell? ⟨gb157, 1, none⟩ = some (.int .i64 0) := (blk_cell BK157.out 1).trans rfl
                      have hcz25_2 : w14.cell? ⟨gb157, 2, none⟩ = some (.bool false) := (blk_cell BK157.out 2).trans rfl
                      have hcz25_3 : w14.cell? ⟨gb157, 3, none⟩ = some (.string (⟨#[]⟩ : ByteArray)) := (blk_cell BK157.out 3).trans rfl
                      have hfz25_0 := blk_frozen BK157.out 0
                      have hfz25_1 := blk_frozen BK157.out 1
                      have hfz25_2 := blk_frozen BK157.out 2
                      have hfz25_3 := blk_frozen BK157.out 3
                      go_wp2
                      go_meet
                      case rel => exact ⟨_, (true), (by first | rfl | (simp; done) | (simp [*]; done)), H', ⟨by have := HK1.out; first | omega | exact Nat.le_refl _⟩, ⟨by (with_reducible repeat (first | apply MR.R_alloc | apply MR.R_drewN | apply MR.R_drew)); exact MR.R_mono (MR.R_far (p := ⟨gb157, 3, none⟩) (MR.R_far (p := ⟨gb157, 2, none⟩) (MR.R_far (p := ⟨gb157, 1, none⟩) (MR.R_far (p := ⟨gb157, 0, none⟩) (MR.R_types HO_3.out BK157.out (by decide)) (fun _ hk => hk.2) (.string ((rd_T128 l0_0 x14_1).f0))) (fun _ hk => hk.2) (.int .i64 ((rd_T128 l0_0 x14_1).f1))) (fun _ hk => hk.2) (.bool ((rd_T128 l0_0 x14_1).f2))) (fun _ hk => hk.2) (.string ((rd_T128 l0_0 x14_1).f3))) (fun _ hk => trivial)⟩, ⟨by (with_reducible repeat (first | refine blk_drewN ?_ _ | refine blk_drew ?_ | refine blk_alloc ?_ _)); refine blk_far ?_ NB152_157.out _; (with_reducible repeat (first | refine blk_drewN ?_ _ | refine blk_drew ?_ | refine blk_alloc ?_ _)); refine blk_far ?_ NB152_157.out _; (with_reducible repeat (first | refine blk_drewN ?_ _ | refine blk_drew ?_ | refine blk_alloc ?_ _)); refine blk_far ?_ NB152_157.out _; (with_reducible repeat (first | refine blk_drewN ?_ _ | refine blk_drew ?_ | refine blk_alloc ?_ _)); refine blk_far ?_ NB152_157.out _; (with_reducible repeat (first | refine blk_drewN ?_ _ | refine blk_drew ?_ | refine blk_alloc ?_ _)); exact BK152.out⟩, ⟨by (with_reducible repeat (first | refine blk_drewN ?_ _ | refine blk_drew ?_ | refine blk_alloc ?_ _)); refine blk_put (cs := #[.string ((rd_T128 l0_0 x14_1).f0), .int .i64 ((rd_T128 l0_0 x14_1).f1), .bool ((rd_T128 l0_0 x14_1).f2), .string (⟨#[]⟩ : ByteArray)]) ?_ 3 _ rfl; (with_reducible repeat (first | refine blk_drewN ?_ _ | refine blk_drew ?_ | refine blk_alloc ?_ _)); refine blk_put (cs := #[.string ((rd_T128 l0_0 x14_1).f0), .int .i64 ((rd_T128 l0_0 x14_1).f1), .bool false, .string (⟨#[]⟩ : ByteArray)]) ?_ 2 _ rfl; (with_reducible repeat (first | refine blk_drewN ?_ _ | refine blk_drew ?_ | refine blk_alloc ?_ _)); refine blk_put (cs := #[.string ((rd_T128 l0_0 x14_1).f0), .int .i64 0, .bool false, .string (⟨#[]⟩ : ByteArray)]) ?_ 1 _ rfl; (with_reducible repeat (first | refine blk_drewN ?_ _ | refine blk_drew ?_ | refine blk_alloc ?_ _)); refine blk_put (cs := #[.string (⟨#[]⟩ : ByteArray), .int .i64 0, .bool false, .string (⟨#[]⟩ : ByteArray)]) ?_ 0 _ rfl; (with_reducible repeat (first | refine blk_drewN ?_ _ | refine blk_drew ?_ | refine blk_alloc ?_ _)); exact BK157.out⟩, ⟨by repeat (first | (with_reducible first | exact HB.out | apply below_alloc | apply pw_below_drewN | apply below_drew1 | refine below_set ?_ GE152.out | refine below_set ?_ GE157.out) | exact HB.out)⟩⟩
                    · rw [if_neg c23] at H
                      have c23b0 : decide (((rd_T128 l0_0 x14_1).f1) < 1) = false := decide_eq_false c23
                      clear c23
                      obtain ⟨bq26, hbq26⟩ : ∃ b_ : Bool, b_ = ((rd_T128 l0_0 x14_1).f2) := ⟨_, rfl⟩
                      replace H : (if bq26 = true then (if ((rd_T128 l0_0 x14_1).f3).toList = ([] : List UInt8) then (if (((rd_T128 l0_0 x14_1).f3).size : Int) > 100000 then (impl_RunFault.j1 k1 x3_1 x14_1 l0_0 (l0_0.length : Int) x14_1 true l0_0 ((rd_T128 l0_0 x14_1).f0) ((rd_T128 l0_0 x14_1).f1) bq26 ((rd_T128 l0_0 x14_1).f3)) else ((mapHas.f x3_1 ((rd_T128 l0_0 x14_1).f1)).bind fun t158 => (impl_RunFault.j1 k1 x3_1 x14_1 l0_0 (l0_0.length : Int) x14_1 t158 l0_0 ((rd_T128 l0_0 x14_1).f0) ((rd_T128 l0_0 x14_1).f1) bq26 ((rd_T128 l0_0 x14_1).f3)))) else (impl_RunFault.j1 k1 x3_1 x14_1 l0_0 (l0_0.length : Int) x14_1 true l0_0 ((rd_T128 l0_0 x14_1).f0) ((rd_T128 l0_0 x14_1).f1) bq26 ((rd_T128 l0_0 x14_1).f3))) else (if (((rd_T128 l0_0 x14_1).f3).size : Int) > 100000 then (impl_RunFault.j1 k1 x3_1 x14_1 l0_0 (l0_0.length : Int) x14_1 true l0_0 ((rd_T128 l0_0 x14_1).f0) ((rd_T128 l0_0 x14_1).f1) bq26 ((rd_T128 l0_0 x14_1).f3)) else ((mapHas.f x3_1 ((rd_T128 l0_0 x14_1).f1)).bind fun t159 => (impl_RunFault.j1 k1 x3_1 x14_1 l0_0 (l0_0.length : Int) x14_1 t159 l0_0 ((rd_T128 l0_0 x14_1).f0) ((rd_T128 l0_0 x14_1).f1) bq26 ((rd_T128 l0_0 x14_1).f3))))) = some r := by rw [← hbq26] at H; exact H
                      have Nbq26 := Aside0.mk hbq26
                      clear hbq26
                      by_cases c27 : bq26 = true
                      · subst c27
                        (try rw [← Nbq26.out])
                        have H1 : (if ((rd_T128 l0_0 x14_1).f3).toList = ([] : List UInt8) then (if (((rd_T128 l0_0 x14_1).f3).size : Int) > 100000 then (impl_RunFault.j1 k1 x3_1 x14_1 l0_0 (l0_0.length : Int) x14_1 true l0_0 ((rd_T128 l0_0 x14_1).f0) ((rd_T128 l0_0 x14_1).f1) true ((rd_T128 l0_0 x14_1).f3)) else ((mapHas.f x3_1 ((rd_T128 l0_0 x14_1).f1)).bind fun t158 => (impl_RunFault.j1 k1 x3_1 x14_1 l0_0 (l0_0.length : Int) x14_1 t158 l0_0 ((rd_T128 l0_0 x14_1).f0) ((rd_T128 l0_0 x14_1).f1) true ((rd_T128 l0_0 x14_1).f3)))) else (impl_RunFault.j1 k1 x3_1 x14_1 l0_0 (l0_0.length : Int) x14_1 true l0_0 ((rd_T128 l0_0 x14_1).f0) ((rd_T128 l0_0 x14_1).f1) true ((rd_T128 l0_0 x14_1).f3))) = some r := by rw [if_pos rfl] at H; exact H
                        clear H
                        have H := H1
                        clear H1
                        by_cases c28 : ((rd_T128 l0_0 x14_1).f3).toList = ([] : List UInt8)
                        · rw [if_pos c28] at H
                          have c28b0 : (((rd_T128 l0_0 x14_1).f3).toList == ([] : List UInt8)) = true := beq_iff_eq.mpr c28
                          have c28b1 : (((rd_T128 l0_0 x14_1).f3).toList != ([] : List UInt8)) = false := bne_eq_false_iff_eq.mpr c28
                          clear c28
                          by_cases c29 : (((rd_T128 l0_0 x14_1).f3).size : Int) > 100000
                          · rw [if_pos c29] at H
                            have c29b0 : decide (100000 < (((rd_T128 l0_0 x14_1).f3).size : Int)) = true := decide_eq_true c29
                            have c29b1 : decide (100000 < ((rd_T128 l0_0 x14_1).f3).size) = true := decide_eq_true (by omega)
                            clear c29
                            have H' := Aside0.mk H
                            clear H
                            have hnb30 := NB157_152.out
                            have hnc30 := NB152_157.out
                            have hcz31_0 : w14.cell? ⟨gb157, 0, none⟩ = some (.string (⟨#[]⟩ : ByteArray)) := (blk_cell BK157.out 0).trans rfl
                            have hcz31_1 : w14.cell? ⟨gb157, 1, none⟩ = some (.int .i64 0) := (blk_cell BK157.out 1).trans rfl
                            have hcz31_2 : w14.cell? ⟨gb157, 2, none⟩ = some (.bool false) := (blk_cell BK157.out 2).trans rfl
                            have hcz31_3 : w14.cell? ⟨gb157, 3, none⟩ = some (.string (⟨#[]⟩ : ByteArray)) := (blk_cell BK157.out 3).trans rfl
                            have hfz31_0 := blk_frozen BK157.out 0
                            have hfz31_1 := blk_frozen BK157.out 1
                            have hfz31_2 := blk_frozen BK157.out 2
                            have hfz31_3 := blk_frozen BK157.out 3
                            go_wp2
                            go_meet
                            case rel => (try rw [← Nbq26.out]); exact ⟨_, (true), (by first | rfl | (simp; done) | (simp [*]; done)), H', ⟨by have := HK1.out; first | omega | exact Nat.le_refl _⟩, ⟨by (with_reducible repeat (first | apply MR.R_alloc | apply MR.R_drewN | apply MR.R_drew)); exact MR.R_mono (MR.R_far (p := ⟨gb157, 3, none⟩) (MR.R_far (p := ⟨gb157, 2, none⟩) (MR.R_far (p := ⟨gb157, 1, none⟩) (MR.R_far (p := ⟨gb157, 0, none⟩) (MR.R_types HO_3.out BK157.out (by decide)) (fun _ hk => hk.2) (.string ((rd_T128 l0_0 x14_1).f0))) (fun _ hk => hk.2) (.int .i64 ((rd_T128 l0_0 x14_1).f1))) (fun _ hk => hk.2) (.bool (true))) (fun _ hk => hk.2) (.string ((rd_T128 l0_0 x14_1).f3))) (fun _ hk => trivial)⟩, ⟨by (with_reducible repeat (first | refine blk_drewN ?_ _ | refine blk_drew ?_ | refine blk_alloc ?_ _)); refine blk_far ?_ NB152_157.out _; (with_reducible repeat (first | refine blk_drewN ?_ _ | refine blk_drew ?_ | refine blk_alloc ?_ _)); refine blk_far ?_ NB152_157.out _; (with_reducible repeat (first | refine blk_drewN ?_ _ | refine blk_drew ?_ | refine blk_alloc ?_ _)); refine blk_far ?_ NB152_157.out _; (with_reducible repeat (first | refine blk_drewN ?_ _ | refine blk_drew ?_ | refine blk_alloc ?_ _)); refine blk_far ?_ NB152_157.out _; (with_reducible repeat (first | refine blk_drewN ?_ _ | refine blk_drew ?_ | refine blk_alloc ?_ _)); exact BK152.out⟩, ⟨by (with_reducible repeat (first | refine blk_drewN ?_ _ | refine blk_drew ?_ | refine blk_alloc ?_ _)); refine blk_put (cs := #[.string ((rd_T128 l0_0 x14_1).f0), .int .i64 ((rd_T128 l0_0 x14_1).f1), .bool (true), .string (⟨#[]⟩ : ByteArray)]) ?_ 3 _ rfl; (with_reducible repeat (first | refine blk_drewN ?_ _ | refine blk_drew ?_ | refine blk_alloc ?_ _)); refine blk_put (cs := #[.string ((rd_T128 l0_0 x14_1).f0), .int .i64 ((rd_T128 l0_0 x14_1).f1), .bool false, .string (⟨#[]⟩ : ByteArray)]) ?_ 2 _ rfl; (with_reducible repeat (first | refine blk_drewN ?_ _ | refine blk_drew ?_ | refine blk_alloc ?_ _)); refine blk_put (cs := #[.string ((rd_T128 l0_0 x14_1).f0), .int .i64 0, .bool false, .string (⟨#[]⟩ : ByteArray)]) ?_ 1 _ rfl; (with_reducible repeat (first | refine blk_drewN ?_ _ | refine blk_drew ?_ | refine blk_alloc ?_ _)); refine blk_put (cs := #[.string (⟨#[]⟩ : ByteArray), .int .i64 0, .bool false, .string (⟨#[]⟩ : ByteArray)]) ?_ 0 _ rfl; (with_reducible repeat (first | refine blk_drewN ?_ _ | refine blk_drew ?_ | refine blk_alloc ?_ _)); exact BK157.out⟩, ⟨by repeat (first | (with_reducible first | exact HB.out | apply below_alloc | apply pw_below_drewN | apply below_drew1 | refine below_set ?_ GE152.out | refine below_set ?_ GE157.out) | exact HB.out)⟩⟩
                          · rw [if_neg c29] at H
                            have c29b0 : decide (100000 < (((rd_T128 l0_0 x14_1).f3).size : Int)) = false := decide_eq_false c29
                            have c29b1 : decide (100000 < ((rd_T128 l0_0 x14_1).f3).size) = false := decide_eq_false (by omega)
                            clear c29
                            replace H := Option.bind_eq_some_iff.mp H
                            obtain ⟨t158, A320, H⟩ := H
                            replace H : (impl_RunFault.j1 k1 x3_1 x14_1 l0_0 (l0_0.length : Int) x14_1 t158 l0_0 ((rd_T128 l0_0 x14_1).f0) ((rd_T128 l0_0 x14_1).f1) true ((rd_T128 l0_0 x14_1).f3)) = some r := H
                            have A32 := Aside0.mk A320
                            clear A320
                            have H' := Aside0.mk H
                            clear H
                            have hnb33 := NB157_152.out
                            have hnc33 := NB152_157.out
                            have hcz34_0 : w14.cell? ⟨gb157, 0, none⟩ = some (.string (⟨#[]⟩ : ByteArray)) := (blk_cell BK157.out 0).trans rfl
                            have hcz34_1 : w14.cell? ⟨gb157, 1, none⟩ = some (.int .i64 0) := (blk_cell BK157.out 1).trans rfl
                            have hcz34_2 : w14.cell? ⟨gb157, 2, none⟩ = some (.bool false) := (blk_cell BK157.out 2).trans rfl
                            have hcz34_3 : w14.cell? ⟨gb157, 3, none⟩ = some (.string (⟨#[]⟩ : ByteArray)) := (blk_cell BK157.out 3).trans rfl
                            have hfz34_0 := blk_frozen BK157.out 0
                            have hfz34_1 := blk_frozen BK157.out 1
                            have hfz34_2 := blk_frozen BK157.out 2
                            have hfz34_3 := blk_frozen BK157.out 3
                            obtain ⟨bo35, eo35⟩ := MR.R_map HO_3.out
                            subst eo35
                            go_wp2_with (first | ((with_reducible refine gate_dst (N := 53) rfl ?_); (try (refine gate_guard (by rfl) ?_; dsimp only)); refine MR.R_look (base := w.heap.size) (ok := fun _ => True) (xs := x3_1) (y := ((rd_T128 l0_0 x14_1).f1)) (t := t158) rfl rfl rfl rfl (by (with_reducible repeat (first | apply MR.R_alloc | apply MR.R_drewN | apply MR.R_drew)); exact (MR.R_mono (MR.R_far (p := ⟨gb157, 3, none⟩) (MR.R_far (p := ⟨gb157, 2, none⟩) (MR.R_far (p := ⟨gb157, 1, none⟩) (MR.R_far (p := ⟨gb157, 0, none⟩) (MR.R_types HO_3.out BK157.out (by decide)) (fun _ hk => hk.2) (.string ((rd_T128 l0_0 x14_1).f0))) (fun _ hk => hk.2) (.int .i64 ((rd_T128 l0_0 x14_1).f1))) (fun _ hk => hk.2) (.bool (true))) (fun _ hk => hk.2) (.string ((rd_T128 l0_0 x14_1).f3))) (fun _ h_ => h_.1))) (mapHas.of A32.out).1 (mapHas.of A32.out).2 ?_))
                            go_meet
                            case rel => (try rw [← Nbq26.out]); exact ⟨_, (t158), (by first | rfl | (simp; done) | (simp [*]; done)), H', ⟨by have := HK1.out; first | omega | exact Nat.le_refl _⟩, ⟨by (with_reducible repeat (first | apply MR.R_alloc | apply MR.R_drewN | apply MR.R_drew)); exact MR.R_mono (MR.R_far (p := ⟨gb157, 3, none⟩) (MR.R_far (p := ⟨gb157, 2, none⟩) (MR.R_far (p := ⟨gb157, 1, none⟩) (MR.R_far (p := ⟨gb157, 0, none⟩) (MR.R_types HO_3.out BK157.out (by decide)) (fun _ hk => hk.2) (.string ((rd_T128 l0_0 x14_1).f0))) (fun _ hk => hk.2) (.int .i64 ((rd_T128 l0_0 x14_1).f1))) (fun _ hk => hk.2) (.bool (true))) (fun _ hk => hk.2) (.string ((rd_T128 l0_0 x14_1).f3))) (fun _ hk => trivial)⟩, ⟨by (with_reducible repeat (first | refine blk_drewN ?_ _ | refine blk_drew ?_ | refine blk_alloc ?_ _)); refine blk_far ?_ NB152_157.out _; (with_reducible repeat (first | refine blk_drewN ?_ _ | refine blk_drew ?_ | refine blk_alloc ?_ _)); refine blk_far ?_ NB152_157.out _; (with_reducible repeat (first | refine blk_drewN ?_ _ | refine blk_drew ?_ | refine blk_alloc ?_ _)); refine blk_far ?_ NB152_157.out _; (with_reducible repeat (first | refine blk_drewN ?_ _ | refine blk_drew ?_ | refine blk_alloc ?_ _)); refine blk_far ?_ NB152_157.out _; (with_reducible repeat (first | refine blk_drewN ?_ _ | refine blk_drew ?_ | refine blk_alloc ?_ _)); exact BK152.out⟩, ⟨by (with_reducible repeat (first | refine blk_drewN ?_ _ | refine blk_drew ?_ | refine blk_alloc ?_ _)); refine blk_put (cs := #[.string ((rd_T128 l0_0 x14_1).f0), .int .i64 ((rd_T128 l0_0 x14_1).f1), .bool (true), .string (⟨#[]⟩ : ByteArray)]) ?_ 3 _ rfl; (with_reducible repeat (first | refine blk_drewN ?_ _ | refine blk_drew ?_ | refine blk_alloc ?_ _)); refine blk_put (cs := #[.string ((rd_T128 l0_0 x14_1).f0), .int .i64 ((rd_T128 l0_0 x14_1).f1), .bool false, .string (⟨#[]⟩ : ByteArray)]) ?_ 2 _ rfl; (with_reducible repeat (first | refine blk_drewN ?_ _ | refine blk_drew ?_ | refine blk_alloc ?_ _)); refine blk_put (cs := #[.string ((rd_T128 l0_0 x14_1).f0), .int .i64 0, .bool false, .string (⟨#[]⟩ : ByteArray)]) ?_ 1 _ rfl; (with_reducible repeat (first | refine blk_drewN ?_ _ | refine blk_drew ?_ | refine blk_alloc ?_ _)); refine blk_put (cs := #[.string (⟨#[]⟩ : ByteArray), .int .i64 0, .bool false, .string (⟨#[]⟩ : ByteArray)]) ?_ 0 _ rfl; (with_reducible repeat (first | refine blk_drewN ?_ _ | refine blk_drew ?_ | refine blk_alloc ?_ _)); exact BK157.out⟩, ⟨by repeat (first | (with_reducible first | exact HB.out | apply below_alloc | apply pw_below_drewN | apply below_drew1 | refine below_set ?_ GE152.out | refine below_set ?_ GE157.out) | exact HB.out)⟩⟩
                        · rw [if_neg c28] at H
                          have c28b0 : (((rd_T128 l0_0 x14_1).f3).toList == ([] : List UInt8)) = false := beq_eq_false_iff_ne.mpr c28
                          have c28b1 : (((rd_T128 l0_0 x14_1).f3).toList != ([] : List UInt8)) = true := bne_iff_ne.mpr c28
                          have H' := Aside0.mk H
                          clear H
                          have hnb36 := NB157_152.out
                          have hnc36 := NB152_157.out
                          have hcz37_0 : w14.cell? ⟨gb157, 0, none⟩ = some (.string (⟨#[]⟩ : ByteArray)) := (blk_cell BK157.out 0).trans rfl
                          have hcz37_1 : w14.cell? ⟨gb157, 1, none⟩ = some (.int .i64 0) := (blk_cell BK157.out 1).trans rfl
                          have hcz37_2 : w14.cell? ⟨gb157, 2, none⟩ = some (.bool false) := (blk_cell BK157.out 2).trans rfl
                          have hcz37_3 : w14.cell? ⟨gb157, 3, none⟩ = some (.string (⟨#[]⟩ : ByteArray)) := (blk_cell BK157.out 3).trans rfl
                          have hfz37_0 := blk_frozen BK157.out 0
                          have hfz37_1 := blk_frozen BK157.out 1
                          have hfz37_2 := blk_frozen BK157.out 2
                          have hfz37_3 := blk_frozen BK157.out 3
                          go_wp2
                          go_meet
                          case rel => (try rw [← Nbq26.out]); exact ⟨_, (true), (by first | rfl | (simp; done) | (simp [*]; done)), H', ⟨by have := HK1.out; first | omega | exact Nat.le_refl _⟩, ⟨by (with_reducible repeat (first | apply MR.R_alloc | apply MR.R_drewN | apply MR.R_drew)); exact MR.R_mono (MR.R_far (p := ⟨gb157, 3, none⟩) (MR.R_far (p := ⟨gb157, 2, none⟩) (MR.R_far (p := ⟨gb157, 1, none⟩) (MR.R_far (p := ⟨gb157, 0, none⟩) (MR.R_types HO_3.out BK157.out (by decide)) (fun _ hk => hk.2) (.string ((rd_T128 l0_0 x14_1).f0))) (fun _ hk => hk.2) (.int .i64 ((rd_T128 l0_0 x14_1).f1))) (fun _ hk => hk.2) (.bool (true))) (fun _ hk => hk.2) (.string ((rd_T128 l0_0 x14_1).f3))) (fun _ hk => trivial)⟩, ⟨by (with_reducible repeat (first | refine blk_drewN ?_ _ | refine blk_drew ?_ | refine blk_alloc ?_ _)); refine blk_far ?_ NB152_157.out _; (with_reducible repeat (first | refine blk_drewN ?_ _ | refine blk_drew ?_ | refine blk_alloc ?_ _)); refine blk_far ?_ NB152_157.out _; (with_reducible repeat (first | refine blk_drewN ?_ _ | refine blk_drew ?_ | refine blk_alloc ?_ _)); refine blk_far ?_ NB152_157.out _; (with_reducible repeat (first | refine blk_drewN ?_ _ | refine blk_drew ?_ | refine blk_alloc ?_ _)); refine blk_far ?_ NB152_157.out _; (with_reducible repeat (first | refine blk_drewN ?_ _ | refine blk_drew ?_ | refine blk_alloc ?_ _)); exact BK152.out⟩, ⟨by (with_reducible repeat (first | refine blk_drewN ?_ _ | refine blk_drew ?_ | refine blk_alloc ?_ _)); refine blk_put (cs := #[.string ((rd_T128 l0_0 x14_1).f0), .int .i64 ((rd_T128 l0_0 x14_1).f1), .bool (true), .string (⟨#[]⟩ : ByteArray)]) ?_ 3 _ rfl; (with_reducible repeat (first | refine blk_drewN ?_ _ | refine blk_drew ?_ | refine blk_alloc ?_ _)); refine blk_put (cs := #[.string ((rd_T128 l0_0 x14_1).f0), .int .i64 ((rd_T128 l0_0 x14_1).f1), .bool false, .string (⟨#[]⟩ : ByteArray)]) ?_ 2 _ rfl; (with_reducible repeat (first | refine blk_drewN ?_ _ | refine blk_drew ?_ | refine blk_alloc ?_ _)); refine blk_put (cs := #[.string ((rd_T128 l0_0 x14_1).f0), .int .i64 0, .bool false, .string (⟨#[]⟩ : ByteArray)]) ?_ 1 _ rfl; (with_reducible repeat (first | refine blk_drewN ?_ _ | refine blk_drew ?_ | refine blk_alloc ?_ _)); refine blk_put (cs := #[.string (⟨#[]⟩ : ByteArray), .int .i64 0, .bool false, .string (⟨#[]⟩ : ByteArray)]) ?_ 0 _ rfl; (with_reducible repeat (first | refine blk_drewN ?_ _ | refine blk_drew ?_ | refine blk_alloc ?_ _)); exact BK157.out⟩, ⟨by repeat (first | (with_reducible first | exact HB.out | apply below_alloc | apply pw_below_drewN | apply below_drew1 | refine below_set ?_ GE152.out | refine below_set ?_ GE157.out) | exact HB.out)⟩⟩
                      · replace c27 := Bool.eq_false_iff.mpr c27
                        subst c27
                        (try rw [← Nbq26.out])
                        have H1 : (if (((rd_T128 l0_0 x14_1).f3).size : Int) > 100000 then (impl_RunFault.j1 k1 x3_1 x14_1 l0_0 (l0_0.length : Int) x14_1 true l0_0 ((rd_T128 l0_0 x14_1).f0) ((rd_T128 l0_0 x14_1).f1) false ((rd_T128 l0_0 x14_1).f3)) else ((mapHas.f x3_1 ((rd_T128 l0_0 x14_1).f1)).bind fun t159 => (impl_RunFault.j1 k1 x3_1 x14_1 l0_0 (l0_0.length : Int) x14_1 t159 l0_0 ((rd_T128 l0_0 x14_1).f0) ((rd_T128 l0_0 x14_1).f1) false ((rd_T128 l0_0 x14_1).f3)))) = some r := by rw [if_neg (show ¬ (false = true) by decide)] at H; exact H
                        clear H
                        have H := H1
                        clear H1
                        by_cases c38 : (((rd_T128 l0_0 x14_1).f3).size : Int) > 100000
                        · rw [if_pos c38] at H
                          have c38b0 : decide (100000 < (((rd_T128 l0_0 x14_1).f3).size : Int)) = true := decide_eq_true c38
                          have c38b1 : decide (100000 < ((rd_T128 l0_0 x14_1).f3).size) = true := decide_eq_true (by omega)
                          clear c38
                          have H' := Aside0.mk H
                          clear H
                          have hnb39 := NB157_152.out
                          have hnc39 := NB152_157.out
                          have hcz40_0 : w14.cell? ⟨gb157, 0, none⟩ = some (.string (⟨#[]⟩ : ByteArray)) := (blk_cell BK157.out 0).trans rfl
                          have hcz40_1 : w14.cell? ⟨gb157, 1, none⟩ = some (.int .i64 0) := (blk_cell BK157.out 1).trans rfl
                          have hcz40_2 : w14.cell? ⟨gb157, 2, none⟩ = some (.bool false) := (blk_cell BK157.out 2).trans rfl
                          have hcz40_3 : w14.cell? ⟨gb157, 3, none⟩ = some (.string (⟨#[]⟩ : ByteArray)) := (blk_cell BK157.out 3).trans rfl
                          have hfz40_0 := blk_frozen BK157.out 0
                          have hfz40_1 := blk_frozen BK157.out 1
                          have hfz40_2 := blk_frozen BK157.out 2
                          have hfz40_3 := blk_frozen BK157.out 3
                          go_wp2
                          go_meet
                          case rel => (try rw [← Nbq26.out]); exact ⟨_, (true), (by first | rfl | (simp; done) | (simp [*]; done)), H', ⟨by have := HK1.out; first | omega | exact Nat.le_refl _⟩, ⟨by (with_reducible repeat (first | apply MR.R_alloc | apply MR.R_drewN | apply MR.R_drew)); exact MR.R_mono (MR.R_far (p := ⟨gb157, 3, none⟩) (MR.R_far (p := ⟨gb157, 2, none⟩) (MR.R_far (p := ⟨gb157, 1, none⟩) (MR.R_far (p := ⟨gb157, 0, none⟩) (MR.R_types HO_3.out BK157.out (by decide)) (fun _ hk => hk.2) (.string ((rd_T128 l0_0 x14_1).f0))) (fun _ hk => hk.2) (.int .i64 ((rd_T128 l0_0 x14_1).f1))) (fun _ hk => hk.2) (.bool (false))) (fun _ hk => hk.2) (.string ((rd_T128 l0_0 x14_1).f3))) (fun _ hk => trivial)⟩, ⟨by (with_reducible repeat (first | refine blk_drewN ?_ _ | refine blk_drew ?_ | refine blk_alloc ?_ _)); refine blk_far ?_ NB152_157.out _; (with_reducible repeat (first | refine blk_drewN ?_ _ | refine blk_drew ?_ | refine blk_alloc ?_ _)); refine blk_far ?_ NB152_157.out _; (with_reducible repeat (first | refine blk_drewN ?_ _ | refine blk_drew ?_ | refine blk_alloc ?_ _)); refine blk_far ?_ NB152_157.out _; (with_reducible repeat (first | refine blk_drewN ?_ _ | refine blk_drew ?_ | refine blk_alloc ?_ _)); refine blk_far ?_ NB152_157.out _; (with_reducible repeat (first | refine blk_drewN ?_ _ | refine blk_drew ?_ | refine blk_alloc ?_ _)); exact BK152.out⟩, ⟨by (with_reducible repeat (first | refine blk_drewN ?_ _ | refine blk_drew ?_ | refine blk_alloc ?_ _)); refine blk_put (cs := #[.string ((rd_T128 l0_0 x14_1).f0), .int .i64 ((rd_T128 l0_0 x14_1).f1), .bool (false), .string (⟨#[]⟩ : ByteArray)]) ?_ 3 _ rfl; (with_reducible repeat (first | refine blk_drewN ?_ _ | refine blk_drew ?_ | refine blk_alloc ?_ _)); refine blk_put (cs := #[.string ((rd_T128 l0_0 x14_1).f0), .int .i64 ((rd_T128 l0_0 x14_1).f1), .bool false, .string (⟨#[]⟩ : ByteArray)]) ?_ 2 _ rfl; (with_reducible repeat (first | refine blk_drewN ?_ _ | refine blk_drew ?_ | refine blk_alloc ?_ _)); refine blk_put (cs := #[.string ((rd_T128 l0_0 x14_1).f0), .int .i64 0, .bool false, .string (⟨#[]⟩ : ByteArray)]) ?_ 1 _ rfl; (with_reducible repeat (first | refine blk_drewN ?_ _ | refine blk_drew ?_ | refine blk_alloc ?_ _)); refine blk_put (cs := #[.string (⟨#[]⟩ : ByteArray), .int .i64 0, .bool false, .string (⟨#[]⟩ : ByteArray)]) ?_ 0 _ rfl; (with_reducible repeat (first | refine blk_drewN ?_ _ | refine blk_drew ?_ | refine blk_alloc ?_ _)); exact BK157.out⟩, ⟨by repeat (first | (with_reducible first | exact HB.out | apply below_alloc | apply pw_below_drewN | apply below_drew1 | refine below_set ?_ GE152.out | refine below_set ?_ GE157.out) | exact HB.out)⟩⟩
                        · rw [if_neg c38] at H
                          have c38b0 : decide (100000 < (((rd_T128 l0_0 x14_1).f3).size : Int)) = false := decide_eq_false c38
                          have c38b1 : decide (100000 < ((rd_T128 l0_0 x14_1).f3).size) = false := decide_eq_false (by omega)
                          clear c38
                          replace H := Option.bind_eq_some_iff.mp H
                          obtain ⟨t159, A410, H⟩ := H
                          replace H : (impl_RunFault.j1 k1 x3_1 x14_1 l0_0 (l0_0.length : Int) x14_1 t159 l0_0 ((rd_T128 l0_0 x14_1).f0) ((rd_T128 l0_0 x14_1).f1) false ((rd_T128 l0_0 x14_1).f3)) = some r := H
                          have A41 := Aside0.mk A410
                          clear A410
                          have H' := Aside0.mk H
                          clear H
                          have hnb42 := NB157_152.out
                          have hnc42 := NB152_157.out
                          have hcz43_0 : w14.cell? ⟨gb157, 0, none⟩ = some (.string (⟨#[]⟩ : ByteArray)) := (blk_cell BK157.out 0).trans rfl
                          have hcz43_1 : w14.cell? ⟨gb157, 1, none⟩ = some (.int .i64 0) := (blk_cell BK157.out 1).trans rfl
                          have hcz43_2 : w14.cell? ⟨gb157, 2, none⟩ = some (.bool false) := (blk_cell BK157.out 2).trans rfl
                          have hcz43_3 : w14.cell? ⟨gb157, 3, none⟩ = some (.string (⟨#[]⟩ : ByteArray)) := (blk_cell BK157.out 3).trans rfl
                          have hfz43_0 := blk_frozen BK157.out 0
                          have hfz43_1 := blk_frozen BK157.out 1
                          have hfz43_2 := blk_frozen BK157.out 2
                          have hfz43_3 := blk_frozen BK157.out 3
                          obtain ⟨bo44, eo44⟩ := MR.R_map HO_3.out
                          subst eo44
                          go_wp2_with (first | ((with_reducible refine gate_dst (N := 53) rfl ?_); (try (refine gate_guard (by rfl) ?_; dsimp only)); refine MR.R_look (base := w.heap.size) (ok := fun _ => True) (xs := x3_1) (y := ((rd_T128 l0_0 x14_1).f1)) (t := t159) rfl rfl rfl rfl (by (with_reducible repeat (first | apply MR.R_alloc | apply MR.R_drewN | apply MR.R_drew)); exact (MR.R_mono (MR.R_far (p := ⟨gb157, 3, none⟩) (MR.R_far (p := ⟨gb157, 2, none⟩) (MR.R_far (p := ⟨gb157, 1, none⟩) (MR.R_far (p := ⟨gb157, 0, none⟩) (MR.R_types HO_3.out BK157.out (by decide)) (fun _ hk => hk.2) (.string ((rd_T128 l0_0 x14_1).f0))) (fun _ hk => hk.2) (.int .i64 ((rd_T128 l0_0 x14_1).f1))) (fun _ hk => hk.2) (.bool (false))) (fun _ hk => hk.2) (.string ((rd_T128 l0_0 x14_1).f3))) (fun _ h_ => h_.1))) (mapHas.of A41.out).1 (mapHas.of A41.out).2 ?_))
                          go_meet
                          case rel => (try rw [← Nbq26.out]); exact ⟨_, (t159), (by first | rfl | (simp; done) | (simp [*]; done)), H', ⟨by have := HK1.out; first | omega | exact Nat.le_refl _⟩, ⟨by (with_reducible repeat (first | apply MR.R_alloc | apply MR.R_drewN | apply MR.R_drew)); exact MR.R_mono (MR.R_far (p := ⟨gb157, 3, none⟩) (MR.R_far (p := ⟨gb157, 2, none⟩) (MR.R_far (p := ⟨gb157, 1, none⟩) (MR.R_far (p := ⟨gb157, 0, none⟩) (MR.R_types HO_3.out BK157.out (by decide)) (fun _ hk => hk.2) (.string ((rd_T128 l0_0 x14_1).f0))) (fun _ hk => hk.2) (.int .i64 ((rd_T128 l0_0 x14_1).f1))) (fun _ hk => hk.2) (.bool (false))) (fun _ hk => hk.2) (.string ((rd_T128 l0_0 x14_1).f3))) (fun _ hk => trivial)⟩, ⟨by (with_reducible repeat (first | refine blk_drewN ?_ _ | refine blk_drew ?_ | refine blk_alloc ?_ _)); refine blk_far ?_ NB152_157.out _; (with_reducible repeat (first | refine blk_drewN ?_ _ | refine blk_drew ?_ | refine blk_alloc ?_ _)); refine blk_far ?_ NB152_157.out _; (with_reducible repeat (first | refine blk_drewN ?_ _ | refine blk_drew ?_ | refine blk_alloc ?_ _)); refine blk_far ?_ NB152_157.out _; (with_reducible repeat (first | refine blk_drewN ?_ _ | refine blk_drew ?_ | refine blk_alloc ?_ _)); refine blk_far ?_ NB152_157.out _; (with_reducible repeat (first | refine blk_drewN ?_ _ | refine blk_drew ?_ | refine blk_alloc ?_ _)); exact BK152.out⟩, ⟨by (with_reducible repeat (first | refine blk_drewN ?_ _ | refine blk_drew ?_ | refine blk_alloc ?_ _)); refine blk_put (cs := #[.string ((rd_T128 l0_0 x14_1).f0), .int .i64 ((rd_T128 l0_0 x14_1).f1), .bool (false), .string (⟨#[]⟩ : ByteArray)]) ?_ 3 _ rfl; (with_reducible repeat (first | refine blk_drewN ?_ _ | refine blk_drew ?_ | refine blk_alloc ?_ _)); refine blk_put (cs := #[.string ((rd_T128 l0_0 x14_1).f0), .int .i64 ((rd_T128 l0_0 x14_1).f1), .bool false, .string (⟨#[]⟩ : ByteArray)]) ?_ 2 _ rfl; (with_reducible repeat (first | refine blk_drewN ?_ _ | refine blk_drew ?_ | refine blk_alloc ?_ _)); refine blk_put (cs := #[.string ((rd_T128 l0_0 x14_1).f0), .int .i64 0, .bool false, .string (⟨#[]⟩ : ByteArray)]) ?_ 1 _ rfl; (with_reducible repeat (first | refine blk_drewN ?_ _ | refine blk_drew ?_ | refine blk_alloc ?_ _)); refine blk_put (cs := #[.string (⟨#[]⟩ : ByteArray), .int .i64 0, .bool false, .string (⟨#[]⟩ : ByteArray)]) ?_ 0 _ rfl; (with_reducible repeat (first | refine blk_drewN ?_ _ | refine blk_drew ?_ | refine blk_alloc ?_ _)); exact BK157.out⟩, ⟨by repeat (first | (with_reducible first | exact HB.out | apply below_alloc | apply pw_below_drewN | apply below_drew1 | refine below_set ?_ GE152.out | refine below_set ?_ GE157.out) | exact HB.out)⟩⟩
              case rest =>
                clear HC13
                try clear c1
                try clear p1
                try clear q1
                try clear hx1
                try clear c2
                try clear c2b0
                try clear c2b1
                try clear p2
                try clear q2
                try clear c3
                try clear c4
                try clear c10
                try clear c10b0
                try clear c11
                try clear c11b0
                try clear c12
                try clear c12b0
                try clear c15
                try clear p15
                try clear q15
                try clear hx15
                try clear c17
                try clear c17b0
                try clear c17b1
                try clear c18
                try clear c20
                try clear c20b0
                try clear c20b1
                try clear c21
                try clear c23
                try clear c23b0
                try clear c24
                try clear q26
                try clear c27
                try clear c28
                try clear c28b0
                try clear c28b1
                try clear c29
                try clear c29b0
                try clear c29b1
                try clear c30
                try clear c33
                try clear c36
                try clear c38
                try clear c38b0
                try clear c38b1
                try clear c39
                try clear c42
                try clear hcz16_0
                try clear hcz16_1
                try clear hcz16_2
                try clear hcz16_3
                try clear hcz19_0
                try clear hcz19_1
                try clear hcz19_2
                try clear hcz19_3
                try clear hcz22_0
                try clear hcz22_1
                try clear hcz22_2
                try clear hcz22_3
                try clear hcz25_0
                try clear hcz25_1
                try clear hcz25_2
                try clear hcz25_3
                try clear hcz31_0
                try clear hcz31_1
                try clear hcz31_2
                try clear hcz31_3
                try clear hcz34_0
                try clear hcz34_1
                try clear hcz34_2
                try clear hcz34_3
                try clear hcz37_0
                try clear hcz37_1
                try clear hcz37_2
                try clear hcz37_3
                try clear hcz40_0
                try clear hcz40_1
                try clear hcz40_2
                try clear hcz40_3
                try clear hcz43_0
                try clear hcz43_1
                try clear hcz43_2
                try clear hcz43_3
                try clear hcz4_0
                try clear hcz6_0
                try clear hcz9_0
                try clear hfz16_0
                try clear hfz16_1
                try clear hfz16_2
                try clear hfz16_3
                try clear hfz19_0
                try clear hfz19_1
                try clear hfz19_2
                try clear hfz19_3
                try clear hfz22_0
                try clear hfz22_1
                try clear hfz22_2
                try clear hfz22_3
                try clear hfz25_0
                try clear hfz25_1
                try clear hfz25_2
                try clear hfz25_3
                try clear hfz31_0
                try clear hfz31_1
                try clear hfz31_2
                try clear hfz31_3
                try clear hfz34_0
                try clear hfz34_1
                try clear hfz34_2
                try clear hfz34_3
                try clear hfz37_0
                try clear hfz37_1
                try clear hfz37_2
                try clear hfz37_3
                try clear hfz40_0
                try clear hfz40_1
                try clear hfz40_2
                try clear hfz40_3
                try clear hfz43_0
                try clear hfz43_1
                try clear hfz43_2
                try clear hfz43_3
                try clear hfz4_0
                try clear hfz6_0
                try clear hfz9_0
                try clear hx156_0
                try clear hx156_1
                try clear hx156_2
                try clear hx156_3
                try clear p156
                try clear p2
                try clear q156
                obtain ⟨kq, x54_12, rfl, HA, HJ12, HO_3, BK152, BK157, HB⟩ := hcut
                cases kq with
                | zero => exact absurd HA.out (by simp [impl_RunFault.j1])
                | succ kj12 =>
                  have H := HA.out
                  clear HA
                  simp only [impl_RunFault.j1] at H
                  by_cases c45 : x54_12 = true
                  · subst c45
                    have H1 : (some 1) = some r := by rw [if_pos rfl] at H; exact H
                    clear H
                    have H := H1
                    clear H1
                    obtain rfl := Option.some.inj H
                    go_wp2
                    go_ret
                    exact ⟨by first | rfl | (simp [errW_none, errW_some] <;> rfl) | (simp [*, errW_none, errW_some] <;> rfl), by repeat (first | (with_reducible first | exact HB.out | apply below_alloc | apply pw_below_drewN | apply below_drew1 | refine below_set ?_ GE152.out | refine below_set ?_ GE157.out) | exact HB.out)⟩
                  · replace c45 := Bool.eq_false_iff.mpr c45
                    subst c45
                    have H1 : (if x14_1 > 0 then (if 0 ≤ (wrap64 (x14_1 - 1)) then (if (wrap64 (x14_1 - 1)) < (l0_0.length : Int) then ((impl_entryOrder.f ((rd_T128 l0_0 (wrap64 (x14_1 - 1))).f0) ((rd_T128 l0_0 (wrap64 (x14_1 - 1))).f1) ((rd_T128 l0_0 (wrap64 (x14_1 - 1))).f2) ((rd_T128 l0_0 (wrap64 (x14_1 - 1))).f3) ((rd_T128 l0_0 x14_1).f0) ((rd_T128 l0_0 x14_1).f1) ((rd_T128 l0_0 x14_1).f2) ((rd_T128 l0_0 x14_1).f3)).bind fun t161 => (impl_RunFault.j2 kj12 x3_1 l0_0 (l0_0.length : Int) x14_1 (decide (t161 ≥ 0)) l0_0 ((rd_T128 l0_0 x14_1).f0) ((rd_T128 l0_0 x14_1).f1) ((rd_T128 l0_0 x14_1).f2) ((rd_T128 l0_0 x14_1).f3))) else (none)) else (none)) else (impl_RunFault.j2 kj12 x3_1 l0_0 (l0_0.length : Int) x14_1 false l0_0 ((rd_T128 l0_0 x14_1).f0) ((rd_T128 l0_0 x14_1).f1) ((rd_T128 l0_0 x14_1).f2) ((rd_T128 l0_0 x14_1).f3))) = some r := by rw [if_neg (show ¬ (false = true) by decide)] at H; exact H
                    clear H
                    have H := H1
                    clear H1
                    have HC46 := Aside0.mk H
                    clear H
                    go_upto_region 9 with (fail)
                    go_cut [67] (fun v67 wc => ∃ (kq : Nat) (x67_45 : Bool), v67 = .bool x67_45 ∧ Aside0 (impl_RunFault.j2 kq x3_1 l0_0 (l0_0.length : Int) x14_1 x67_45 l0_0 ((rd_T128 l0_0 x14_1).f0) ((rd_T128 l0_0 x14_1).f1) ((rd_T128 l0_0 x14_1).f2) ((rd_T128 l0_0 x14_1).f3) = some r) ∧ Aside0 (kq ≤ kj12) ∧ Aside0 (MR.R wc w.heap.size (fun _ => True) v154 x3_1) ∧ Aside0 (wc.heap[gb152]? = some (.cells #[(.slice (some ad156) l0_0.length c0_0)] 48 (0, 0))) ∧ Aside0 (wc.heap[gb157]? = some (.cells #[.string ((rd_T128 l0_0 x14_1).f0), .int .i64 ((rd_T128 l0_0 x14_1).f1), .bool ((rd_T128 l0_0 x14_1).f2), .string ((rd_T128 l0_0 x14_1).f3)] 128 (0, 0))) ∧ Aside0 (Below w.heap.size w wc))
                    case first =>
                      have H := HC46.out
                      clear HC46
                      by_cases c47 : x14_1 > 0
                      · rw [if_pos c47] at H
                        have c47b0 : decide (0 < x14_1) = true := decide_eq_true c47
                        clear c47
                        (first | rw [c47b0] | (simp only [i64_w, i32_w]; rw [c47b0]) | skip)
                        obtain ⟨ji48, hji48⟩ : ∃ j_ : Int, (wrap64 (x14_1 - 1)) = j_ := ⟨_, rfl⟩
                        replace H : (if 0 ≤ (ji48) then (if (ji48) < (l0_0.length : Int) then ((impl_entryOrder.f ((rd_T128 l0_0 (ji48)).f0) ((rd_T128 l0_0 (ji48)).f1) ((rd_T128 l0_0 (ji48)).f2) ((rd_T128 l0_0 (ji48)).f3) ((rd_T128 l0_0 x14_1).f0) ((rd_T128 l0_0 x14_1).f1) ((rd_T128 l0_0 x14_1).f2) ((rd_T128 l0_0 x14_1).f3)).bind fun t161 => (impl_RunFault.j2 kj12 x3_1 l0_0 (l0_0.length : Int) x14_1 (decide (t161 ≥ 0)) l0_0 ((rd_T128 l0_0 x14_1).f0) ((rd_T128 l0_0 x14_1).f1) ((rd_T128 l0_0 x14_1).f2) ((rd_T128 l0_0 x14_1).f3))) else (none)) else (none)) = some r := by first | (rw [hji48] at H; exact H) | (simp only [hji48] at H ⊢; exact H)
                        have hji48w : (IntKind.i64.wrap (x14_1 - 1)) = ji48 := (i64_w _).trans hji48
                        by_cases c49 : 0 ≤ (ji48)
                        · rw [if_pos c49] at H
                          have c49b0 : decide (0 ≤ (ji48)) = true := decide_eq_true c49
                          clear c49
                          by_cases c50 : (ji48) < (l0_0.length : Int)
                          · rw [if_pos c50] at H
                            have c50b0 : decide ((ji48) < (l0_0.length : Int)) = true := decide_eq_true c50
                            clear c50
                            replace H := Option.bind_eq_some_iff.mp H
                            obtain ⟨t161, A510, H⟩ := H
                            replace H : (impl_RunFault.j2 kj12 x3_1 l0_0 (l0_0.length : Int) x14_1 (decide (t161 ≥ 0)) l0_0 ((rd_T128 l0_0 x14_1).f0) ((rd_T128 l0_0 x14_1).f1) ((rd_T128 l0_0 x14_1).f2) ((rd_T128 l0_0 x14_1).f3)) = some r := H
                            have A51 := Aside0.mk A510
                            clear A510
                            have H' := Aside0.mk H
                            clear H
                            try go_wp2
                            have n0_ := Aside0.mk (MR.R_drew HO_3.out)
                            have n1_ := Aside0.mk (blk_drew BK152.out)
                            have n2_ := Aside0.mk (blk_drew BK157.out)
                            have n3_ := Aside0.mk (below_drew1 HB.out)
                            clear HO_3
                            clear BK152
                            clear BK157
                            clear HB
                            have HO_3 := n0_
                            have BK152 := n1_
                            have BK157 := n2_
                            have HB := n3_
                            clear n0_ n1_ n2_ n3_
                            have p160 : 0 ≤ ((ji48) : Int) := of_decide_eq_true (by first | (with_reducible assumption) | assumption)
                            have q160 : (ji48) < (l0_0.length : Int) := of_decide_eq_true (by first | (with_reducible assumption) | assumption)
                            obtain ⟨ad160, e160, hx160_0, hx160_1, hx160_2, hx160_3⟩ := at_T128 HR0_0.out (ji48) p160 q160
                            have hw160_3 := hx160_3
                            have hw160_2 := hx160_2
                            have hw160_1 := hx160_1
                            have hw160_0 := hx160_0
                            obtain rfl : ad156 = ad160 := (by injection e160)
                            replace hx160_0 := (HB.out.cell (World.block_lt_of_cell? w _ hx160_0)).trans hx160_0
                            replace hx160_1 := (HB.out.cell (World.block_lt_of_cell? w _ hx160_1)).trans hx160_1
                            replace hx160_2 := (HB.out.cell (World.block_lt_of_cell? w _ hx160_2)).trans hx160_2
                            replace hx160_3 := (HB.out.cell (World.block_lt_of_cell? w _ hx160_3)).trans hx160_3
                            replace p160 := eq_true p160
                            replace q160 := eq_true q160
                            refine start_ (n := 13) (S := fun w' => w'.cell? ⟨gb152, 0, none⟩ = some (.slice (some ad156) l0_0.length c0_0) ∧ w'.cell? ⟨gb157, 0, none⟩ = some (.string ((rd_T128 l0_0 x14_1).f0)) ∧ w'.cell? ⟨gb157, 1, none⟩ = some (.int .i64 ((rd_T128 l0_0 x14_1).f1)) ∧ w'.cell? ⟨gb157, 2, none⟩ = some (.bool ((rd_T128 l0_0 x14_1).f2)) ∧ w'.cell? ⟨gb157, 3, none⟩ = some (.string ((rd_T128 l0_0 x14_1).f3)) ∧ w'.cell? (ad156.add (((ji48)).toNat * 4)) = some (.string ((rd_T128 l0_0 (ji48)).f0)) ∧ w'.cell? ⟨(ad156.add (((ji48)).toNat * 4)).block, (ad156.add (((ji48)).toNat * 4)).off + 1, none⟩ = some (.int .i64 ((rd_T128 l0_0 (ji48)).f1)) ∧ w'.cell? ⟨(ad156.add (((ji48)).toNat * 4)).block, (ad156.add (((ji48)).toNat * 4)).off + 2, none⟩ = some (.bool ((rd_T128 l0_0 (ji48)).f2)) ∧ w'.cell? ⟨(ad156.add (((ji48)).toNat * 4)).block, (ad156.add (((ji48)).toNat * 4)).off + 3, none⟩ = some (.string ((rd_T128 l0_0 (ji48)).f3))) (ds := []) zf54 (by kernel_rfl) rfl rfl ⟨(blk_cell BK152.out 0).trans rfl, (blk_cell BK157.out 0).trans rfl, (blk_cell BK157.out 1).trans rfl, (blk_cell BK157.out 2).trans rfl, (blk_cell BK157.out 3).trans rfl, ((HB.out.cell (World.block_lt_of_cell? w _ hw160_0)).trans hw160_0), ((HB.out.cell (World.block_lt_of_cell? w _ hw160_1)).trans hw160_1), ((HB.out.cell (World.block_lt_of_cell? w _ hw160_2)).trans hw160_2), ((HB.out.cell (World.block_lt_of_cell? w _ hw160_3)).trans hw160_3)⟩ (fun hHeld => ?_); refine with_tabW impl_RunFault.tab9 impl_RunFault.bits9 (fun HT_ HW_ => ?_)
                            generalize wc.drew = w52 at HO_3 BK152 BK157 HB hx160_0 hx160_1 hx160_2 hx160_3 hHeld ⊢
                            refine Cap.pu (v := ?_) (a' := ?_) 0 (some 55) zf55 HT_ rfl rfl (by kernel_rfl) (fun _ _ _ h => h) (Or.inl ⟨by rfl, ?_⟩) ?_ ?_; rotate_left; intro w'; go_simp; with_reducible rfl; rotate_left; simp only [Cap.pz]; rfl
                            refine Cap.pu (v := ?_) (a' := ?_) 1 (some 56) zf56 HT_ rfl rfl (by kernel_rfl) (fun _ _ _ h => h) (Or.inl ⟨by rfl, ?_⟩) ?_ ?_; rotate_left; intro w'; go_simp; with_reducible rfl; rotate_left; simp only [Cap.pz]; rfl
                            refine Cap.pu (v := ?_) (a' := ?_) 2 (some 57) zf57 HT_ rfl rfl (by kernel_rfl) (fun _ _ _ h => h) (Or.inl ⟨by rfl, ?_⟩) ?_ ?_; rotate_left; intro w'; go_simp; with_reducible rfl; rotate_left; simp only [Cap.pz]; rfl
                            refine Cap.pu (v := ?_) (a' := ?_) 3 (some 58) zf58 HT_ rfl rfl (by kernel_rfl) (fun _ _ _ h => h) (Or.inl ⟨by rfl, ?_⟩) ?_ ?_; rotate_left; intro w'; go_simp; with_reducible rfl; rotate_left; simp only [Cap.pz]; rfl
                            refine Cap.pu (v := ?_) (a' := ?_) 5 (some 60) zf59 HT_ rfl rfl (by kernel_rfl) (fun _ _ _ h => h) (Or.inl ⟨by rfl, ?_⟩) ?_ ?_; rotate_left; intro w'; go_simp; with_reducible rfl; rotate_left; simp only [Cap.pz]; rfl
                            refine Cap.pu (v := ?_) (a' := ?_) 6 (some 61) zf60 HT_ rfl rfl (by kernel_rfl) (fun _ _ _ h => h) (Or.inl ⟨by rfl, ?_⟩) ?_ ?_; rotate_left; intro w'; go_simp; with_reducible rfl; rotate_left; simp only [Cap.pz]; rfl
                            refine take_ (i := 4) (N := some 59) (v := ?_) (a' := ?_) zf61 rfl rfl (take_ofW HT_.out HW_.out (by kernel_rfl)) (fun _ _ _ h => h) (Or.inl ⟨by rfl, ?_⟩) hHeld ?_ ?_; rotate_left; rintro w' ⟨s0, s1, s2, s3, s4, s5, s6, s7, s8⟩; go_simp; with_reducible rfl; rotate_left; simp only [Cap.pz]; rfl
                            refine Cap.pu (v := ?_) (a' := ?_) 7 (some 62) zf62 HT_ rfl rfl (by kernel_rfl) (fun _ _ _ h => h) (Or.inl ⟨by rfl, ?_⟩) ?_ ?_; rotate_left; intro w'; go_simp; with_reducible rfl; rotate_left; simp only [Cap.pz]; rfl
                            refine take_ (i := 8) (N := some 63) (v := ?_) (a' := ?_) zf63 rfl rfl (take_ofW HT_.out HW_.out (by kernel_rfl)) (fun _ _ _ h => h) (Or.inl ⟨by rfl, ?_⟩) hHeld ?_ ?_; rotate_left; rintro w' ⟨s0, s1, s2, s3, s4, s5, s6, s7, s8⟩; go_simp; with_reducible rfl; rotate_left; simp only [Cap.pz]; rfl
                            refine take_ (i := 9) (N := some 64) (v := ?_) (a' := ?_) zf64 rfl rfl (take_ofW HT_.out HW_.out (by kernel_rfl)) (fun _ _ _ h => h) (Or.inl ⟨by rfl, ?_⟩) hHeld ?_ ?_; rotate_left; rintro w' ⟨s0, s1, s2, s3, s4, s5, s6, s7, s8⟩; go_simp; with_reducible rfl; rotate_left; simp only [Cap.pz]; rfl
                            refine one_ (i := 10) (N := some 65) zf65 rfl rfl (one_of HT_.out (by kernel_rfl)) (by decide) (fun K hK => ?_)
                            refine goes_ Try.func99 (by kernel_rfl) rfl #[.agg #[.string ((rd_T128 l0_0 (ji48)).f0), .int .i64 ((rd_T128 l0_0 (ji48)).f1), .bool ((rd_T128 l0_0 (ji48)).f2), .string ((rd_T128 l0_0 (ji48)).f3)], .agg #[.string ((rd_T128 l0_0 x14_1).f0), .int .i64 ((rd_T128 l0_0 x14_1).f1), .bool ((rd_T128 l0_0 x14_1).f2), .string ((rd_T128 l0_0 x14_1).f3)]] (by rfl) rfl rfl (by (try simp only [List.map_toArray, List.map_cons, List.map_nil]); first | done | (simp only [hji48]; rfl) | rfl | (simp only [List.length_drop, List.length_take]; rfl)) ?_
                            with_reducible refine (impl_entryOrder.calls ((rd_T128 l0_0 (ji48)).f0) ((rd_T128 l0_0 (ji48)).f1) ((rd_T128 l0_0 (ji48)).f2) ((rd_T128 l0_0 (ji48)).f3) ((rd_T128 l0_0 x14_1).f0) ((rd_T128 l0_0 x14_1).f1) ((rd_T128 l0_0 x14_1).f2) ((rd_T128 l0_0 x14_1).f3) t161 _ A51.out).mono ?_
                            rintro e w53 ⟨rfl, hb⟩
                            refine ⟨_, rfl, ?_⟩
                            have n0_ := Aside0.mk (MR.R_below (by (with_reducible repeat (first | apply MR.R_alloc | apply MR.R_drewN | apply MR.R_drew)); exact HO_3.out) hb)
                            have n1_ := Aside0.mk (blk_below (g := gb152) (o := .cells #[.slice (some ad156) l0_0.length c0_0] 48 (0, 0)) (by (with_reducible repeat (first | refine blk_drewN ?_ _ | refine blk_drew ?_ | refine blk_alloc ?_ _)); exact BK152.out) hb)
                            have n2_ := Aside0.mk (blk_below (g := gb157) (o := .cells #[.string ((rd_T128 l0_0 x14_1).f0), .int .i64 ((rd_T128 l0_0 x14_1).f1), .bool ((rd_T128 l0_0 x14_1).f2), .string ((rd_T128 l0_0 x14_1).f3)] 128 (0, 0)) (by (with_reducible repeat (first | refine blk_drewN ?_ _ | refine blk_drew ?_ | refine blk_alloc ?_ _)); exact BK157.out) hb)
                            have n3_ := Aside0.mk (below_step (by repeat (first | (with_reducible first | exact HB.out | apply below_alloc | apply pw_below_drewN | apply below_drew1 | refine below_set ?_ GE152.out | refine below_set ?_ GE157.out) | exact HB.out)) hb)
                            clear HO_3
                            clear BK152
                            clear BK157
                            clear HB
                            have HO_3 := n0_
                            have BK152 := n1_
                            have BK157 := n2_
                            have HB := n3_
                            clear n0_ n1_ n2_ n3_
                            (try clear hb)
                            (try clear hb2)
                            (try clear hk)
                            (try clear hi)
                            refine hK.out _ _ ⟨(blk_cell BK152.out 0).trans rfl, (blk_cell BK157.out 0).trans rfl, (blk_cell BK157.out 1).trans rfl, (blk_cell BK157.out 2).trans rfl, (blk_cell BK157.out 3).trans rfl, ((HB.out.cell (World.block_lt_of_cell? w _ hw160_0)).trans hw160_0), ((HB.out.cell (World.block_lt_of_cell? w _ hw160_1)).trans hw160_1), ((HB.out.cell (World.block_lt_of_cell? w _ hw160_2)).trans hw160_2), ((HB.out.cell (World.block_lt_of_cell? w _ hw160_3)).trans hw160_3)⟩ (fun hHeld => ?_)
                            clear hK K
                            refine norm_ (a' := ?_) ?_ ?_; rotate_left; show Act.put _ (some 65) _ = _; simp only [Cap.pz]; rfl
                            refine Cap.pu (v := ?_) (a' := ?_) 11 (some 66) zf66 HT_ rfl rfl (by kernel_rfl) (fun _ _ _ h => h) (Or.inl ⟨by rfl, ?_⟩) ?_ ?_; rotate_left; intro w'; go_simp; with_reducible rfl; rotate_left; simp only [Cap.pz]; rfl
                            refine Cap.pu (v := ?_) (a' := ?_) 12 (some 67) zf67 HT_ rfl rfl (by kernel_rfl) (fun _ _ _ h => h) (Or.inl ⟨by rfl, ?_⟩) ?_ ?_; rotate_left; intro w'; go_simp; with_reducible rfl; rotate_left; simp only [Cap.pz]; rfl
                            refine done_ (done_of HT_.out (by kernel_rfl)) ?_
                            try go_wp2
                            go_meet
                            case rel => exact ⟨_, (decide (t161 ≥ 0)), (by first | rfl | (simp; done) | (simp [*]; done)), H', ⟨by have := HK1.out; have := HJ12.out; first | omega | exact Nat.le_refl _⟩, ⟨by (with_reducible repeat (first | apply MR.R_alloc | apply MR.R_drewN | apply MR.R_drew)); exact HO_3.out⟩, ⟨by (with_reducible repeat (first | refine blk_drewN ?_ _ | refine blk_drew ?_ | refine blk_alloc ?_ _)); exact BK152.out⟩, ⟨by (with_reducible repeat (first | refine blk_drewN ?_ _ | refine blk_drew ?_ | refine blk_alloc ?_ _)); exact BK157.out⟩, ⟨by repeat (first | (with_reducible first | exact HB.out | apply below_alloc | apply pw_below_drewN | apply below_drew1 | refine below_set ?_ GE152.out | refine below_set ?_ GE157.out) | exact HB.out)⟩⟩
                          · rw [if_neg c50] at H
                            exact absurd H (by simp)
                        · rw [if_neg c49] at H
                          exact absurd H (by simp)
                      · rw [if_neg c47] at H
                        have c47b0 : decide (0 < x14_1) = false := decide_eq_false c47
                        clear c47
                        (first | rw [c47b0] | (simp only [i64_w, i32_w]; rw [c47b0]) | skip)
                        have H' := Aside0.mk H
                        clear H
                        try go_wp2
                        have n0_ := Aside0.mk (MR.R_drew HO_3.out)
                        have n1_ := Aside0.mk (blk_drew BK152.out)
                        have n2_ := Aside0.mk (blk_drew BK157.out)
                        have n3_ := Aside0.mk (below_drew1 HB.out)
                        clear HO_3
                        clear BK152
                        clear BK157
                        clear HB
                        have HO_3 := n0_
                        have BK152 := n1_
                        have BK157 := n2_
                        have HB := n3_
                        clear n0_ n1_ n2_ n3_
                        refine start_ (n := 13) (S := fun w' => True) (ds := []) zf54 (by kernel_rfl) rfl rfl trivial (fun hHeld => ?_); refine with_tabW impl_RunFault.tab9 impl_RunFault.bits9 (fun HT_ HW_ => ?_)
                        generalize wc.drew = w54 at HO_3 BK152 BK157 HB hHeld ⊢
                        refine Cap.pu (v := ?_) (a' := ?_) 0 (some 55) zf55 HT_ rfl rfl (by kernel_rfl) (fun _ _ _ h => h) (Or.inl ⟨by rfl, ?_⟩) ?_ ?_; rotate_left; intro w'; go_simp; with_reducible rfl; rotate_left; simp only [Cap.pz]; rfl
                        refine Cap.pu (v := ?_) (a' := ?_) 1 (some 56) zf56 HT_ rfl rfl (by kernel_rfl) (fun _ _ _ h => h) (Or.inl ⟨by rfl, ?_⟩) ?_ ?_; rotate_left; intro w'; go_simp; with_reducible rfl; rotate_left; simp only [Cap.pz]; rfl
                        refine Cap.pu (v := ?_) (a' := ?_) 2 (some 57) zf57 HT_ rfl rfl (by kernel_rfl) (fun _ _ _ h => h) (Or.inl ⟨by rfl, ?_⟩) ?_ ?_; rotate_left; intro w'; go_simp; with_reducible rfl; rotate_left; simp only [Cap.pz]; rfl
                        refine Cap.pu (v := undef) (a' := ?_) 3 (some 58) zf58 HT_ rfl rfl (by kernel_rfl) (fun _ _ _ h => h) (Or.inr ⟨by rfl, rfl⟩) ?_ ?_; rotate_left; simp only [Cap.pz]; rfl
                        refine Cap.pu (v := undef) (a' := ?_) 4 (some 59) zf68 HT_ rfl rfl (by kernel_rfl) (fun _ _ _ h => h) (Or.inr ⟨by rfl, rfl⟩) ?_ ?_; rotate_left; simp only [Cap.pz]; rfl
                        refine Cap.pu (v := undef) (a' := ?_) 5 (some 60) zf69 HT_ rfl rfl (by kernel_rfl) (fun _ _ _ h => h) (Or.inr ⟨by rfl, rfl⟩) ?_ ?_; rotate_left; simp only [Cap.pz]; rfl
                        refine Cap.pu (v := undef) (a' := ?_) 6 (some 61) zf61 HT_ rfl rfl (by kernel_rfl) (fun _ _ _ h => h) (Or.inr ⟨by rfl, rfl⟩) ?_ ?_; rotate_left; simp only [Cap.pz]; rfl
                        refine Cap.pu (v := undef) (a' := ?_) 7 (some 62) zf62 HT_ rfl rfl (by kernel_rfl) (fun _ _ _ h => h) (Or.inr ⟨by rfl, rfl⟩) ?_ ?_; rotate_left; simp only [Cap.pz]; rfl
                        refine Cap.pu (v := undef) (a' := ?_) 8 (some 63) zf63 HT_ rfl rfl (by kernel_rfl) (fun _ _ _ h => h) (Or.inr ⟨by rfl, rfl⟩) ?_ ?_; rotate_left; simp only [Cap.pz]; rfl
                        refine Cap.pu (v := undef) (a' := ?_) 9 (some 64) zf64 HT_ rfl rfl (by kernel_rfl) (fun _ _ _ h => h) (Or.inr ⟨by rfl, rfl⟩) ?_ ?_; rotate_left; simp only [Cap.pz]; rfl
                        refine Cap.pu (v := undef) (a' := ?_) 10 (some 65) zf65 HT_ rfl rfl (by kernel_rfl) (fun _ _ _ h => h) (Or.inr ⟨by rfl, rfl⟩) ?_ ?_; rotate_left; simp only [Cap.pz]; rfl
                        refine Cap.pu (v := undef) (a' := ?_) 11 (some 66) zf66 HT_ rfl rfl (by kernel_rfl) (fun _ _ _ h => h) (Or.inr ⟨by rfl, rfl⟩) ?_ ?_; rotate_left; simp only [Cap.pz]; rfl
                        refine Cap.pu (v := ?_) (a' := ?_) 12 (some 67) zf67 HT_ rfl rfl (by kernel_rfl) (fun _ _ _ h => h) (Or.inl ⟨by rfl, ?_⟩) ?_ ?_; rotate_left; intro w'; go_simp; with_reducible rfl; rotate_left; simp only [Cap.pz]; rfl
                        refine done_ (done_of HT_.out (by kernel_rfl)) ?_
                        try go_wp2
                        go_meet
                        case rel => exact ⟨_, (false), (by first | rfl | (simp; done) | (simp [*]; done)), H', ⟨by have := HK1.out; have := HJ12.out; first | omega | exact Nat.le_refl _⟩, ⟨by (with_reducible repeat (first | apply MR.R_alloc | apply MR.R_drewN | apply MR.R_drew)); exact HO_3.out⟩, ⟨by (with_reducible repeat (first | refine blk_drewN ?_ _ | refine blk_drew ?_ | refine blk_alloc ?_ _)); exact BK152.out⟩, ⟨by (with_reducible repeat (first | refine blk_drewN ?_ _ | refine blk_drew ?_ | refine blk_alloc ?_ _)); exact BK157.out⟩, ⟨by repeat (first | (with_reducible first | exact HB.out | apply below_alloc | apply pw_below_drewN | apply below_drew1 | refine below_set ?_ GE152.out | refine below_set ?_ GE157.out) | exact HB.out)⟩⟩
                    case rest =>
                      clear HC46
                      try clear c1
                      try clear p1
                      try clear q1
                      try clear hx1
                      try clear c2
                      try clear c2b0
                      try clear c2b1
                      try clear p2
                      try clear q2
                      try clear c3
                      try clear c4
                      try clear c5
                      try clear p6
                      try clear c9
                      try clear c10
                      try clear c10b0
                      try clear c11
                      try clear c11b0
                      try clear c12
                      try clear c12b0
                      try clear c15
                      try clear p15
                      try clear q15
                      try clear hx15
                      try clear p16
                      try clear q16
                      try clear hx16
                      try clear c17
                      try clear c17b0
                      try clear c17b1
                      try clear c18
                      try clear c20
                      try clear c20b0
                      try clear c20b1
                      try clear c21
                      try clear c23
                      try clear c23b0
                      try clear c24
                      try clear q26
                      try clear c27
                      try clear c28
                      try clear c28b0
                      try clear c28b1
                      try clear c29
                      try clear c29b0
                      try clear c29b1
                      try clear c30
                      try clear c33
                      try clear c36
                      try clear c38
                      try clear c38b0
                      try clear c38b1
                      try clear c39
                      try clear c42
                      try clear c45
                      try clear c47
                      try clear c47b0
                      try clear c49
                      try clear c49b0
                      try clear c50
                      try clear c50b0
                      try clear hcz16_0
                      try clear hcz16_1
                      try clear hcz16_2
                      try clear hcz16_3
                      try clear hcz19_0
                      try clear hcz19_1
                      try clear hcz19_2
                      try clear hcz19_3
                      try clear hcz22_0
                      try clear hcz22_1
                      try clear hcz22_2
                      try clear hcz22_3
                      try clear hcz25_0
                      try clear hcz25_1
                      try clear hcz25_2
                      try clear hcz25_3
                      try clear hcz31_0
                      try clear hcz31_1
                      try clear hcz31_2
                      try clear hcz31_3
                      try clear hcz34_0
                      try clear hcz34_1
                      try clear hcz34_2
                      try clear hcz34_3
                      try clear hcz37_0
                      try clear hcz37_1
                      try clear hcz37_2
                      try clear hcz37_3
                      try clear hcz40_0
                      try clear hcz40_1
                      try clear hcz40_2
                      try clear hcz40_3
                      try clear hcz43_0
                      try clear hcz43_1
                      try clear hcz43_2
                      try clear hcz43_3
                      try clear hcz4_0
                      try clear hcz6_0
                      try clear hcz9_0
                      try clear hfz16_0
                      try clear hfz16_1
                      try clear hfz16_2
                      try clear hfz16_3
                      try clear hfz19_0
                      try clear hfz19_1
                      try clear hfz19_2
                      try clear hfz19_3
                      try clear hfz22_0
                      try clear hfz22_1
                      try clear hfz22_2
                      try clear hfz22_3
                      try clear hfz25_0
                      try clear hfz25_1
                      try clear hfz25_2
                      try clear hfz25_3
                      try clear hfz31_0
                      try clear hfz31_1
                      try clear hfz31_2
                      try clear hfz31_3
                      try clear hfz34_0
                      try clear hfz34_1
                      try clear hfz34_2
                      try clear hfz34_3
                      try clear hfz37_0
                      try clear hfz37_1
                      try clear hfz37_2
                      try clear hfz37_3
                      try clear hfz40_0
                      try clear hfz40_1
                      try clear hfz40_2
                      try clear hfz40_3
                      try clear hfz43_0
                      try clear hfz43_1
                      try clear hfz43_2
                      try clear hfz43_3
                      try clear hfz4_0
                      try clear hfz6_0
                      try clear hfz9_0
                      try clear hx156_0
                      try clear hx156_1
                      try clear hx156_2
                      try clear hx156_3
                      try clear hx160_0
                      try clear hx160_1
                      try clear hx160_2
                      try clear hx160_3
                      try clear p1
                      try clear p15
                      try clear p156
                      try clear p160
                      try clear p2
                      try clear q1
                      try clear q15
                      try clear q156
                      try clear q160
                      try clear q2
                      try clear q26
                      obtain ⟨kq, x67_45, rfl, HA, HJ45, HO_3, BK152, BK157, HB⟩ := hcut
                      cases kq with
                      | zero => exact absurd HA.out (by simp [impl_RunFault.j2])
                      | succ kj45 =>
                        have H := HA.out
                        clear HA
                        simp only [impl_RunFault.j2] at H
                        by_cases c55 : x67_45 = true
                        · subst c55
                          have H1 : (some 1) = some r := by rw [if_pos rfl] at H; exact H
                          clear H
                          have H := H1
                          clear H1
                          obtain rfl := Option.some.inj H
                          go_wp2
                          go_ret
                          exact ⟨by first | rfl | (simp [errW_none, errW_some] <;> rfl) | (simp [*, errW_none, errW_some] <;> rfl), by repeat (first | (with_reducible first | exact HB.out | apply below_alloc | apply pw_below_drewN | apply below_drew1 | refine below_set ?_ GE152.out | refine below_set ?_ GE157.out) | exact HB.out)⟩
                        · replace c55 := Bool.eq_false_iff.mpr c55
                          subst c55
                          have H1 : ((keyIn.f ((rd_T128 l0_0 x14_1).f1)).bind fun t162 => (if x3_1.length < 17592186044416 then (impl_RunFault.l0 kj45 (x3_1 ++ [t162]) l0_0 (l0_0.length : Int) (wrap64 (x14_1 + 1)) l0_0) else (none))) = some r := by rw [if_neg (show ¬ (false = true) by decide)] at H; exact H
                          clear H
                          have H := H1
                          clear H1
                          replace H := Option.bind_eq_some_iff.mp H
                          obtain ⟨t162, A560, H⟩ := H
                          replace H : (if x3_1.length < 17592186044416 then (impl_RunFault.l0 kj45 (x3_1 ++ [t162]) l0_0 (l0_0.length : Int) (wrap64 (x14_1 + 1)) l0_0) else (none)) = some r := H
                          have A56 := Aside0.mk A560
                          clear A560
                          by_cases c57 : x3_1.length < 17592186044416
                          · rw [if_pos c57] at H
                            have LMc57 := Aside0.mk c57
                            clear c57
                            obtain ⟨y163, hy163⟩ : ∃ y_ : List Int, y_ = (x3_1 ++ [t162]) := ⟨_, rfl⟩
                            replace H : (impl_RunFault.l0 kj45 y163 l0_0 (l0_0.length : Int) (wrap64 (x14_1 + 1)) l0_0) = some r := by first | (rw [hy163]; with_reducible exact H) | (have H2_ := (Option.bind_some _ _).symm.trans H; rw [hy163]; with_reducible exact H2_) | (have H2_ := (Option.bind_some _ _).symm.trans H; with_reducible exact H2_) | with_reducible exact H | (rw [hy163]; exact H) | exact H
                            have Ny163 := Aside0.mk hy163
                            clear hy163
                            have H' := Aside0.mk H
                            clear H
                            have hnb58 := NB157_152.out
                            have hnc58 := NB152_157.out
                            have hcz59_0 : wc.cell? ⟨gb157, 0, none⟩ = some (.string ((rd_T128 l0_0 x14_1).f0)) := (blk_cell BK157.out 0).trans rfl
                            have hcz59_1 : wc.cell? ⟨gb157, 1, none⟩ = some (.int .i64 ((rd_T128 l0_0 x14_1).f1)) := (blk_cell BK157.out 1).trans rfl
                            have hcz59_2 : wc.cell? ⟨gb157, 2, none⟩ = some (.bool ((rd_T128 l0_0 x14_1).f2)) := (blk_cell BK157.out 2).trans rfl
                            have hcz59_3 : wc.cell? ⟨gb157, 3, none⟩ = some (.string ((rd_T128 l0_0 x14_1).f3)) := (blk_cell BK157.out 3).trans rfl
                            have hfz59_0 := blk_frozen BK157.out 0
                            have hfz59_1 := blk_frozen BK157.out 1
                            have hfz59_2 := blk_frozen BK157.out 2
                            have hfz59_3 := blk_frozen BK157.out 3
                            go_wp2_with (first | (at_mapUpdate; refine MR.R_put (w0 := w) (base := w.heap.size) (ok := fun _ => True) rfl rfl rfl rfl rfl (by (with_reducible repeat (first | apply MR.R_alloc | apply MR.R_drewN | apply MR.R_drew)); exact HO_3.out) (keyIn.of A56.out).1 (by have := LMc57.out; simp only [maxLen]; omega) (by repeat (first | (with_reducible first | exact HB.out | apply below_alloc | apply pw_below_drewN | apply below_drew1 | refine below_set ?_ GE152.out | refine below_set ?_ GE157.out) | exact HB.out)) ?_; intro w60 ho hb hg; rw [(keyIn.of A56.out).2] at ho; rw [← Ny163.out] at ho; have n0_ := Aside0.mk (blk_grown (g := gb152) (o := .cells #[.slice (some ad156) l0_0.length c0_0] 48 (0, 0)) (by (with_reducible repeat (first | refine blk_drewN ?_ _ | refine blk_drew ?_ | refine blk_alloc ?_ _)); exact BK152.out) hg (MR.R_ne HO_3.out BK152.out (by decide))); have n1_ := Aside0.mk (blk_grown (g := gb157) (o := .cells #[.string ((rd_T128 l0_0 x14_1).f0), .int .i64 ((rd_T128 l0_0 x14_1).f1), .bool ((rd_T128 l0_0 x14_1).f2), .string ((rd_T128 l0_0 x14_1).f3)] 128 (0, 0)) (by (with_reducible repeat (first | refine blk_drewN ?_ _ | refine blk_drew ?_ | refine blk_alloc ?_ _)); exact BK157.out) hg (MR.R_ne HO_3.out BK157.out (by decide))); have n2_ := Aside0.mk (hb); have n3_ := Aside0.mk (ho); clear BK152; clear BK157; clear HB; clear HO_3; have BK152 := n0_; have BK157 := n1_; have HB := n2_; have HO165 := n3_; clear n0_ n1_ n2_ n3_; clear ho hb hg))
                            go_roundg kj45
                            case measure => have := HK1.out; have := HJ12.out; have := HJ45.out; omega
                            case rel => exact ⟨(y163), (wrap64 (x14_1 + 1)), (by first | rfl | (simp; done) | (simp [*]; done)), H', ⟨by have := HK1.out; have := HJ12.out; have := HJ45.out; omega⟩, ⟨by (with_reducible repeat (first | apply MR.R_alloc | apply MR.R_drewN | apply MR.R_drew)); exact HO165.out⟩, ⟨by (with_reducible repeat (first | refine blk_drewN ?_ _ | refine blk_drew ?_ | refine blk_alloc ?_ _)); exact BK152.out⟩, ⟨by repeat (first | (with_reducible first | exact HB.out | apply below_alloc | apply pw_below_drewN | apply below_drew1 | refine below_set ?_ GE152.out | refine below_set ?_ GE157.out) | exact HB.out)⟩⟩
                          · rw [if_neg c57] at H
                            exact absurd H (by simp)
            · exact absurd (of_decide_eq_true c10b0) c12
          · rw [if_neg c11] at H
            exact absurd H (by simp)
        · rw [if_neg c10] at H
          have c10b0 : decide (x14_1 < (l0_0.length : Int)) = false := decide_eq_false c10
          clear c10
          obtain rfl := Option.some.inj H
          go_wp2
          go_ret
          exact ⟨by first | rfl | (simp [errW_none, errW_some] <;> rfl) | (simp [*, errW_none, errW_some] <;> rfl), by repeat (first | (with_reducible first | exact HB.out | apply below_alloc | apply pw_below_drewN | apply below_drew1 | refine below_set ?_ GE152.out) | exact HB.out)⟩

end Go.Proofs.Ytimfdodgecehgaa.QFnExactRunFault
