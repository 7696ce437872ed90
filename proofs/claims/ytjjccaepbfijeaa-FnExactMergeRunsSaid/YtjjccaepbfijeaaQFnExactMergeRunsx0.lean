-- A text of this session, printed by a program of its own (wip/tools: xpatch.py, xprint.sh, mkq.py). No condition.
import Derived.Test.YtjjccaepbfijeaaGrow
import Derived.Test.YtjjccaepbfijeaaProg
import Derived.Test.YtjjccaepbfijeaaCap
import Derived.Test.YtjjccaepbfijeaaV0
import Derived.Laws.CopyOwn
import Derived.Below
import Derived.Deep.Draws
import Derived.Deep.AppendLies
import Derived.Maps.AppendAt
import Derived.OwnWalk
import Derived.Laws.BytesArg
import Derived.Laws.MakeOwn
import Derived.Laws.OwnMore
import Derived.Deep.OwnRows
import Derived.Tactics
import Derived.Lib.ConvBytes
import Derived.Laws.Slices
import Derived.WalkKit
import Derived.KernelRfl
import Derived.RowKit3
import Derived.Deep.LoopGhost
import Derived.Deep.QuietTactic
import Derived.BigQuiet
import Derived.WideLaws
import Derived.Deep.DeepCutAuto
import Derived.Deep.CutBlock
import Derived.Deep.RegionHeld3
import Derived.Laws.Rows
import Derived.Lib.AppendStr
import Derived.ArgAppend
import Derived.Laws.IdiomCopy
import Derived.OrdersHeld
import Derived.Laws.BitsLemmas
import Derived.RowKit
import Derived.Maps.Own
import Derived.Maps.OwnSet
import Derived.Maps.Views
namespace Go.Proofs.Ytjjccaepbfijeaa.QFnExactMergeRuns
open Go.RowKit Go.Proofs.YtjjccaepbfijeaaW.PrintWords Go.Proofs.YtjjccaepbfijeaaW.PrintLast Go.Proofs.YtjjccaepbfijeaaW.PrintMore
attribute [local go_sem] max2_int min2_int max_two min_two max_three min_three max_four min_four   -- for this text's walks alone
set_option linter.unusedVariables false
set_option linter.unusedSimpArgs false
def errW : Option Int → Value
  | none => .nilIface
  | some c => .iface 0 (.int .i64 c)
theorem errW_none : errW none = .nilIface := rfl
theorem errW_some (c : Int) : errW (some c) = .iface 0 (.int .i64 c) := rfl
theorem info2 : (Try.prog.info? 2).map (fun i => (i.zero, i.size, i.bytes)) = some (some (.int .i64 0), 1, 8) := by kernel_rfl
theorem info26 : (Try.prog.info? 26).map (fun i => (i.zero, i.size, i.bytes)) = some (some (.agg #[(.slice none 0 0)]), 1, 24) := by kernel_rfl
theorem info43 : (Try.prog.info? 43).map (fun i => (i.zero, i.size, i.bytes)) = some (some (.agg #[(.string ⟨#[]⟩), (.int .i64 0), (.bool false), (.string ⟨#[]⟩)]), 4, 48) := by kernel_rfl
-- the values' own types
/-! #### struct type 66 -/
structure S66 where
  f0 : ByteArray
  f1 : Int
  f2 : Bool
  f3 : ByteArray
def z66 : S66 := ⟨(⟨#[]⟩ : ByteArray), (0 : Int), false, (⟨#[]⟩ : ByteArray)⟩
def k66 : Kd S66 := Kd.iso (Kd.pair Kd.string (Kd.pair (Kd.int .i64) (Kd.pair Kd.bool Kd.string))) (fun x : S66 => (x.f0, x.f1, x.f2, x.f3))
theorem k66_open {w : World} {x : S66} {cs : List Value} (h : k66.K w x cs) : cs = [.string x.f0, .int .i64 x.f1, .bool x.f2, .string x.f3] := by
  obtain ⟨_, _, rfl, rfl, ⟨_, _, rfl, rfl, ⟨_, _, rfl, rfl, rfl⟩⟩⟩ := h
  exact rfl
def rd_T66 (xs : List S66) (i : Int) : S66 := xs.getD i.toNat z66
theorem at_T66 {w : World} {A : Option Addr} {n : Nat} {xs : List S66} (h : Kd.C k66 w A n xs) (i : Int) (h0 : 0 ≤ i) (h1 : i < n) : ∃ ad , A = some ad ∧ w.cell? (ad.add (i.toNat * 4)) = some (.string (rd_T66 xs i).f0) ∧ w.cell? ⟨(ad.add (i.toNat * 4)).block, (ad.add (i.toNat * 4)).off + 1, none⟩ = some (.int .i64 (rd_T66 xs i).f1) ∧ w.cell? ⟨(ad.add (i.toNat * 4)).block, (ad.add (i.toNat * 4)).off + 2, none⟩ = some (.bool (rd_T66 xs i).f2) ∧ w.cell? ⟨(ad.add (i.toNat * 4)).block, (ad.add (i.toNat * 4)).off + 3, none⟩ = some (.string (rd_T66 xs i).f3) := by
  obtain ⟨ad, c, e, _, hK, hc0⟩ := Kd.C_get h z66 i h0 h1
  have hc : ∀ j u, c[j]? = some u → w.cell? (ad.add (i.toNat * 4 + j)) = some u := hc0
  obtain rfl := k66_open hK
  exact ⟨ad, e, hc 0 _ rfl, by rw [← add_field _ _ 1 (by omega)]; exact hc 1 _ rfl, by rw [← add_field _ _ 2 (by omega)]; exact hc 2 _ rfl, by rw [← add_field _ _ 3 (by omega)]; exact hc 3 _ rfl⟩
/-! #### struct type 38 -/
structure S38 where
  f0 : (List S66)
def z38 : S38 := ⟨([] : List S66)⟩
def k38 : Kd S38 := Kd.iso (Kd.slice 66 k66) (fun x : S38 => x.f0)
theorem k38_open {w : World} {x : S38} {cs : List Value} (h : k38.K w x cs) : ∃ A0 c0, cs = [.slice A0 x.f0.length c0] ∧ x.f0.length ≤ c0 ∧ k66.C w A0 x.f0.length x.f0 := by
  obtain ⟨A0, c0, rfl, l0, g0⟩ := h
  exact ⟨A0, c0, rfl, l0, g0⟩
def rd_T38 (xs : List S38) (i : Int) : S38 := xs.getD i.toNat z38
theorem at_T38 {w : World} {A : Option Addr} {n : Nat} {xs : List S38} (h : Kd.C k38 w A n xs) (i : Int) (h0 : 0 ≤ i) (h1 : i < n) : ∃ ad A0 c0, A = some ad ∧ w.cell? (ad.add i.toNat) = some (.slice A0 (rd_T38 xs i).f0.length c0) ∧ (rd_T38 xs i).f0.length ≤ c0 ∧ k66.C w A0 (rd_T38 xs i).f0.length (rd_T38 xs i).f0 := by
  obtain ⟨ad, c, e, _, hK, hc0⟩ := Kd.C_get h z38 i h0 h1
  have hc : ∀ j u, c[j]? = some u → w.cell? (ad.add (i.toNat * 1 + j)) = some u := hc0
  obtain ⟨A0, c0, rfl, l0, g0⟩ := k38_open hK
  exact ⟨ad, A0, c0, e, by have hq := hc 0 _ rfl; rwa [Nat.mul_one, Nat.add_zero] at hq, l0, g0⟩
/-! #### struct type 43 -/
structure S43 where
  f0 : ByteArray
  f1 : Int
  f2 : Bool
  f3 : ByteArray
def z43 : S43 := ⟨(⟨#[]⟩ : ByteArray), (0 : Int), false, (⟨#[]⟩ : ByteArray)⟩
def k43 : Kd S43 := Kd.iso (Kd.pair Kd.string (Kd.pair (Kd.int .i64) (Kd.pair Kd.bool Kd.string))) (fun x : S43 => (x.f0, x.f1, x.f2, x.f3))
theorem k43_open {w : World} {x : S43} {cs : List Value} (h : k43.K w x cs) : cs = [.string x.f0, .int .i64 x.f1, .bool x.f2, .string x.f3] := by
  obtain ⟨_, _, rfl, rfl, ⟨_, _, rfl, rfl, ⟨_, _, rfl, rfl, rfl⟩⟩⟩ := h
  exact rfl
theorem k43_openM {w : World} {base : Nat} {ok : Nat → Prop} {x : S43} {cs : List Value} (h : k43.M w base ok x cs) : cs = [.string x.f0, .int .i64 x.f1, .bool x.f2, .string x.f3] := by
  obtain ⟨_, _, rfl, rfl, ⟨_, _, rfl, rfl, ⟨_, _, rfl, rfl, rfl⟩⟩⟩ := h
  exact rfl
theorem k43_mkM (w : World) (base : Nat) (ok : Nat → Prop) (x : S43)  : k43.M w base ok x [.string x.f0, .int .i64 x.f1, .bool x.f2, .string x.f3] := ⟨[.string x.f0], [.int .i64 x.f1, .bool x.f2, .string x.f3], rfl, rfl, ⟨[.int .i64 x.f1], [.bool x.f2, .string x.f3], rfl, rfl, ⟨[.bool x.f2], [.string x.f3], rfl, rfl, rfl⟩⟩⟩
def rd_T43 (xs : List S43) (i : Int) : S43 := xs.getD i.toNat z43
theorem at_T43 {w : World} {A : Option Addr} {n : Nat} {xs : List S43} (h : Kd.C k43 w A n xs) (i : Int) (h0 : 0 ≤ i) (h1 : i < n) : ∃ ad , A = some ad ∧ w.cell? (ad.add (i.toNat * 4)) = some (.string (rd_T43 xs i).f0) ∧ w.cell? ⟨(ad.add (i.toNat * 4)).block, (ad.add (i.toNat * 4)).off + 1, none⟩ = some (.int .i64 (rd_T43 xs i).f1) ∧ w.cell? ⟨(ad.add (i.toNat * 4)).block, (ad.add (i.toNat * 4)).off + 2, none⟩ = some (.bool (rd_T43 xs i).f2) ∧ w.cell? ⟨(ad.add (i.toNat * 4)).block, (ad.add (i.toNat * 4)).off + 3, none⟩ = some (.string (rd_T43 xs i).f3) := by
  obtain ⟨ad, c, e, _, hK, hc0⟩ := Kd.C_get h z43 i h0 h1
  have hc : ∀ j u, c[j]? = some u → w.cell? (ad.add (i.toNat * 4 + j)) = some u := hc0
  obtain rfl := k43_open hK
  exact ⟨ad, e, hc 0 _ rfl, by rw [← add_field _ _ 1 (by omega)]; exact hc 1 _ rfl, by rw [← add_field _ _ 2 (by omega)]; exact hc 2 _ rfl, by rw [← add_field _ _ 3 (by omega)]; exact hc 3 _ rfl⟩
/-! #### struct type 26 -/
structure S26 where
  f0 : (List S43)
def z26 : S26 := ⟨([] : List S43)⟩
def k26 : Kd S26 := Kd.iso (Kd.slice 43 k43) (fun x : S26 => x.f0)
theorem k26_open {w : World} {x : S26} {cs : List Value} (h : k26.K w x cs) : ∃ A0 c0, cs = [.slice A0 x.f0.length c0] ∧ x.f0.length ≤ c0 ∧ k43.C w A0 x.f0.length x.f0 := by
  obtain ⟨A0, c0, rfl, l0, g0⟩ := h
  exact ⟨A0, c0, rfl, l0, g0⟩
theorem k26_openM {w : World} {base : Nat} {ok : Nat → Prop} {x : S26} {cs : List Value} (h : k26.M w base ok x cs) : ∃ v0, cs = [v0] ∧ k43.R 43 w base ok v0 x.f0 := by
  obtain ⟨v0, rfl, g0⟩ := h
  exact ⟨v0, rfl, g0⟩
theorem k26_mkM (w : World) (base : Nat) (ok : Nat → Prop) (x : S26) {v0 : Value} (g0 : k43.R 43 w base ok v0 x.f0) : k26.M w base ok x [v0] := ⟨v0, rfl, g0⟩
def rd_T26 (xs : List S26) (i : Int) : S26 := xs.getD i.toNat z26
theorem at_T26 {w : World} {A : Option Addr} {n : Nat} {xs : List S26} (h : Kd.C k26 w A n xs) (i : Int) (h0 : 0 ≤ i) (h1 : i < n) : ∃ ad A0 c0, A = some ad ∧ w.cell? (ad.add i.toNat) = some (.slice A0 (rd_T26 xs i).f0.length c0) ∧ (rd_T26 xs i).f0.length ≤ c0 ∧ k43.C w A0 (rd_T26 xs i).f0.length (rd_T26 xs i).f0 := by
  obtain ⟨ad, c, e, _, hK, hc0⟩ := Kd.C_get h z26 i h0 h1
  have hc : ∀ j u, c[j]? = some u → w.cell? (ad.add (i.toNat * 1 + j)) = some u := hc0
  obtain ⟨A0, c0, rfl, l0, g0⟩ := k26_open hK
  exact ⟨ad, A0, c0, e, by have hq := hc 0 _ rfl; rwa [Nat.mul_one, Nat.add_zero] at hq, l0, g0⟩
/-! #### struct type 60 -/
structure S60 where
  f0 : (List S43)
  f1 : Int
def k60 : Kd S60 := Kd.iso (Kd.pair (Kd.slice 43 k43) (Kd.int .i64)) (fun x : S60 => (x.f0, x.f1))
/-! A set of numbers, kept as a map to bools: what the walk carries of it. -/
namespace MR
/-- The value is a map of the call's own; true stands at just the numbers of a list. -/
def R (w : World) (base : Nat) (ok : Nat → Prop) (v : Value) (xs : List Int) : Prop :=
  ∃ (b n : Nat) (D : DataW Unit), v = .map (some b) ∧ base ≤ b ∧ ok b ∧ n ≤ xs.length ∧ w.ownsMap Try.prog 2 (plainElem Try.prog 4) b n D ∧
    ((∀ x : Int, D.atKey (.int .i64 x) (.lit (.bool false)) = .lit (.bool (decide (x ∈ xs)))) ∧ (∀ x : Int, Maps.has D (.int .i64 x) = decide (x ∈ xs)) ∧ (xs.Nodup → Maps.size D = xs.length))
def blockOf : Value → Option Nat
  | .map b => b
  | _ => none
variable {w w1 : World} {base : Nat} {ok ok' : Nat → Prop} {v : Value} {xs : List Int}
theorem R_mono (h : R w base ok v xs) (hok : ∀ k, ok k → ok' k) : R w base ok' v xs := by
  obtain ⟨b, n, D, h1, h2, h3, h4⟩ := h
  exact ⟨b, n, D, h1, h2, hok b h3, h4⟩
theorem R_lower {base' : Nat} (h : R w base ok v xs) (hb : base' ≤ base) : R w base' ok v xs := by
  obtain ⟨b, n, D, h1, h2, h3⟩ := h
  exact ⟨b, n, D, h1, Nat.le_trans hb h2, h3⟩
theorem R_grown (h : R w base ok v xs) {row : Option Nat} (hg : w.grownBy w1 row) (hne : ∀ k, ok k → some k ≠ row) : R w1 base ok v xs := by
  obtain ⟨b, n, D, h1, h2, h3, h4, h5, h6⟩ := h
  exact ⟨b, n, D, h1, h2, h3, h4, h5.kept hg (hne b h3), h6⟩
theorem R_below (h : R w base ok v xs) (hb : Below w.heap.size w w1) : R w1 base ok v xs := R_grown h (grown_of_below hb none) (fun _ _ => by simp)
theorem R_alloc (h : R w base ok v xs) (o : Obj) : R (w.alloc o) base ok v xs := R_below h (below_alloc (Below.refl _ _) o)
theorem R_drew (h : R w base ok v xs) : R w.drew base ok v xs := R_below h (below_drew (Below.refl _ _))
theorem R_drewN (h : R w base ok v xs) (m : Nat) : R (w.drewN m) base ok v xs := R_below h (pw_below_drewN (Below.refl _ _) m)
theorem R_far (h : R w base ok v xs) {p : Addr} (hok : ∀ k, ok k → k ≠ p.block) (u : Value) : R (w.setCell p u) base ok v xs := by
  obtain ⟨b, n, D, h1, h2, h3, h4, h5, h6⟩ := h
  exact ⟨b, n, D, h1, h2, h3, h4, h5.setCell (hok b h3) u, h6⟩
theorem R_types (h : R w base ok v xs) {g t : Nat} {cells : Array Value} (hb : w.heap[g]? = some (.cells cells t (0, 0))) (_ : True) : R w base (fun k => ok k ∧ k ≠ g) v xs := by
  obtain ⟨b, n, D, h1, h2, h3, h4, h5, h6⟩ := h
  refine ⟨b, n, D, h1, h2, ⟨h3, ?_⟩, h4, h5, h6⟩
  rintro rfl
  obtain ⟨es, clock, hh, _⟩ := h5
  rw [hh] at hb
  cases hb
theorem R_ne (h : R w base ok v xs) {g t : Nat} {cells : Array Value} (hb : w.heap[g]? = some (.cells cells t (0, 0))) (_ : True) : some g ≠ blockOf v := by
  obtain ⟨b, n, D, rfl, h2, h3, h4, h5, h6⟩ := h
  intro e
  have e2 : g = b := Option.some.inj e
  subst e2
  obtain ⟨es, clock, hh, _⟩ := h5
  rw [hh] at hb
  cases hb
theorem R_map (h : R w base ok v xs) : ∃ b, v = .map (some b) := by
  obtain ⟨b, n, D, h1, _⟩ := h
  exact ⟨b, h1⟩
theorem zeroE (w : World) : (zeroValue 4).run Try.prog w = .ok (.bool false) w := by kernel_rfl
theorem elem_inv {P : Program} {e : TypeId} (he : P.underlying e = some .bool) {u : Value} {c : Bool} {ps : List MemPlace} (h : plainElem (H := Unit) P e u = some (.lit (.bool c), ps)) : u = .bool c := by
  unfold plainElem at h
  rw [he] at h
  cases u <;> simp at h
  rw [h.1]
theorem look (h : R w base ok v xs) (x : Int) (hx : (Lit.int .i64 x).wf = true) : (Instr.lookup 52 v (.int .i64 x) false).run Try.prog w = .ok (.bool (decide (x ∈ xs))) w := by
  obtain ⟨b, n, D, rfl, h2, h3, h4, h5, h6⟩ := h
  obtain ⟨u, ps, hrun, hu⟩ := h5.lookup (Maps.int_keyed Try.underlying2) Try.underlying52 (zeroE w) (plainElem_bool Try.underlying4 false) (Maps.keyOf_int_mk Try.underlying2 hx)
  rw [h6.1 x] at hu
  rw [elem_inv Try.underlying4 hu] at hrun
  exact hrun
theorem put (h : R w base ok v xs) (x : Int) (hx : (Lit.int .i64 x).wf = true) (hl : xs.length < maxLen) :
    ∃ w', (Instr.mapUpdate 52 v (.int .i64 x) (.bool true)).run Try.prog w = .ok () w' ∧ R w' base ok v (xs ++ [x]) ∧ w.grownBy w' (blockOf v) := by
  obtain ⟨b, n, D, rfl, h2, h3, h4, h5, h6⟩ := h
  obtain ⟨w', hrun, ho, hg⟩ := h5.update (Maps.int_keyed Try.underlying2) Try.underlying52 (Nat.lt_of_le_of_lt h4 hl) (Maps.keyOf_int_mk Try.underlying2 hx) (plainElem_bool Try.underlying4 true)
  refine ⟨w', hrun, ⟨b, n + 1, _, rfl, h2, h3, by simp; omega, ho, ⟨fun y => ?_, fun y => ?_, fun hnd => ?_⟩⟩, hg⟩
  · by_cases e : y = x
    · subst e
      rw [Maps.atKey_put_same h5.isMap (show WideAt.IsKeyLit (.int .i64 y) from trivial)]
      simp
    · rw [Maps.atKey_put_other (fun e2 => e (by injection e2)), h6.1 y]
      simp [e]
  · by_cases e : y = x
    · subst e
      rw [Maps.has_put_same h5.isMap (show WideAt.IsKeyLit (.int .i64 y) from trivial)]
      simp
    · rw [Maps.has_put_other (fun e2 => e (by injection e2)), h6.2.1 y]
      simp [e]
  · rw [Maps.size_put (h5.tidy (Maps.int_keyed Try.underlying2)), h6.2.1 x]
    have h7 := List.nodup_append.1 hnd
    have h8 : ¬ x ∈ xs := fun hm => h7.2.2 x hm x (by simp) rfl
    rw [decide_eq_false h8, if_neg (by decide), h6.2.2 h7.1]
    simp
theorem made (w : World) {ok : Nat → Prop} (hok : ok w.heap.size) : R (w.alloc (.map #[] 0)) w.heap.size ok (.map (some w.heap.size)) [] :=
  ⟨w.heap.size, 0, _, rfl, Nat.le_refl _, hok, Nat.le_refl _, World.ownsMap_made w Try.prog 2 _, fun x => by simp [DataW.atKey], fun x => by simp [Maps.has], fun _ => rfl⟩
section
variable {ops : Array Oper} {rest : List Oper} {o : Oper} {a : Act} {Q : Exit → Act → World → Prop}
theorem R_make {W : World} (hgd : o.guard = none) {N : Tmp} (_hd : o.dst = some N) (ho : o.op = .makeMap 52 none)
    (h : ∀ v1 w1, R w1 W.heap.size (fun _ => True) v1 ([] : List Int) → Below W.heap.size W w1 → True → True → wpList Try.prog ops Q rest (a.put o.dst v1) w1) : wpList Try.prog ops Q (o :: rest) a W := by
  refine Kd.event_run (v := .map (some W.heap.size)) (w1 := W.alloc (.map #[] 0)) hgd ?_ (h _ _ (made W trivial) (below_alloc (Below.refl _ _) _) trivial trivial)
  have hr : (Instr.makeMap 52 none).run Try.prog W = .ok (.map (some W.heap.size)) (W.alloc (.map #[] 0)) := rfl
  simp [execOp, ho, hr, Result.andThen]
theorem R_look {W : World} (hgd : o.guard = none) {m x : Operand} (ho : o.op = .lookup 52 m x false) (hm : a.eval m = v) {y : Int} (hx : a.eval x = .int .i64 y) (hR : R W base ok v xs) (hy : (Lit.int .i64 y).wf = true) {t : Bool} (ht : decide (y ∈ xs) = t)
    (h : wpList Try.prog ops Q rest (a.put o.dst (.bool t)) W) : wpList Try.prog ops Q (o :: rest) a W := by
  subst ht
  refine Kd.event_run (v := .bool (decide (y ∈ xs))) (w1 := W) hgd ?_ h
  simp [execOp, ho, hm, hx, look hR y hy]
theorem R_put {w0 W : World} (hgd : o.guard = none) {m x c : Operand} (ho : o.op = .mapUpdate 52 m x c) (hm : a.eval m = v) {y : Int} (hx : a.eval x = .int .i64 y) (hc : a.eval c = .bool true) (hR : R W base ok v xs) (hy : (Lit.int .i64 y).wf = true) (hl : xs.length < maxLen) (hB : Below base w0 W)
    (h : ∀ w1, R w1 base ok v (xs ++ [y]) → Below base w0 w1 → W.grownBy w1 (blockOf v) → wpList Try.prog ops Q rest (a.put o.dst undef) w1) : wpList Try.prog ops Q (o :: rest) a W := by
  obtain ⟨w', hrun, h1, h2⟩ := put hR y hy hl
  have hb : ∀ k, blockOf v = some k → base ≤ k := by
    obtain ⟨b, n, D, rfl, h3, _⟩ := hR
    intro k hk
    obtain rfl := Option.some.inj hk
    exact h3
  refine wpList_plain hgd fun K' hK' => ?_
  unfold Oper.wp
  simp [execOp, ho, hm, hx, hc, hrun, Result.andThen]
  exact hK' _ _ (h w' h1 (hB.grown h2 (by have hle := h1; obtain ⟨b, n, D, e1, h3, _, _, h5, _⟩ := hR; exact Nat.le_trans h3 (Nat.le_of_lt h5.lt)) hb) h2)
end
end MR
/-- Does the set hold the number? -/
def mapHas.f (l : List Int) (x : Int) : Option (Bool) := if (Lit.int .i64 x).wf = true then (some (decide (x ∈ l))) else (none)
def keyIn.f (x : Int) : Option (Int) := if (Lit.int .i64 x).wf = true then (some x) else (none)
theorem mapHas.of {l : List Int} {x : Int} {t : Bool} (h : mapHas.f l x = some t) : (Lit.int .i64 x).wf = true ∧ decide (x ∈ l) = t := by
  unfold mapHas.f at h
  split at h
  · exact ⟨by assumption, Option.some.inj h⟩
  · cases h
theorem keyIn.of {x t : Int} (h : keyIn.f x = some t) : (Lit.int .i64 x).wf = true ∧ x = t := by
  unfold keyIn.f at h
  split at h
  · exact ⟨by assumption, Option.some.inj h⟩
  · cases h
def mapLen.f (l : List Int) : Option (Int) := if l.Nodup then (some (l.length : Int)) else (none)
theorem mapLen.of {l : List Int} {t : Int} (h : mapLen.f l = some t) : l.Nodup ∧ (l.length : Int) = t := by
  unfold mapLen.f at h
  split at h
  · exact ⟨by assumption, Option.some.inj h⟩
  · cases h
/-! The flags of a region's operations. -/
def zb : Nat → Nat → List Bool
  | 0, _ => []
  | n + 1, m => (m % 2 == 1) :: zb n (m / 2)
def zf0 : Array Bool := #[false, false, false, false, false, false, false, false, false, false]
def zf1 : Array Bool := ⟨zb 10 1⟩
def zf2 : Array Bool := ⟨zb 10 3⟩
def zf3 : Array Bool := ⟨zb 10 7⟩
def zf4 : Array Bool := ⟨zb 10 23⟩
def zf5 : Array Bool := ⟨zb 10 55⟩
def zf6 : Array Bool := ⟨zb 10 119⟩
def zf7 : Array Bool := ⟨zb 10 127⟩
def zf8 : Array Bool := ⟨zb 10 255⟩
def zf9 : Array Bool := ⟨zb 10 511⟩
def zf10 : Array Bool := ⟨zb 10 1023⟩
def zf11 : Array Bool := #[false, false, false, false, false, false, false, false]
def zf12 : Array Bool := #[true, false, false, false, false, false, false, false]
def zf13 : Array Bool := #[true, true, false, false, false, false, false, false]
def zf14 : Array Bool := #[true, true, true, false, false, false, false, false]
def zf15 : Array Bool := #[true, true, true, true, false, false, false, false]
def zf16 : Array Bool := #[true, true, true, true, false, true, false, false]
def zf17 : Array Bool := #[true, true, true, true, true, true, false, false]
def zf18 : Array Bool := #[true, true, true, true, true, true, true, false]
def zf19 : Array Bool := #[true, true, true, true, true, true, true, true]
def zf20 : Array Bool := #[false, false, false, false, false, false, false, false, false, false, false, false, false, false, false, false, false, false, false, false, false, false, false, false, false, false, false, false, false, false, false, false, false, false, false, false, false, false, false, false, false, false, false, false, false, false, false, false, false, false, false]
def zf21 : Array Bool := ⟨zb 51 1⟩
def zf22 : Array Bool := ⟨zb 51 3⟩
def zf23 : Array Bool := ⟨zb 51 7⟩
def zf24 : Array Bool := ⟨zb 51 15⟩
def zf25 : Array Bool := ⟨zb 51 31⟩
def zf26 : Array Bool := ⟨zb 51 63⟩
def zf27 : Array Bool := ⟨zb 51 127⟩
def zf28 : Array Bool := ⟨zb 51 255⟩
def zf29 : Array Bool := ⟨zb 51 511⟩
def zf30 : Array Bool := ⟨zb 51 1023⟩
def zf31 : Array Bool := ⟨zb 51 2047⟩
def zf32 : Array Bool := ⟨zb 51 4095⟩
def zf33 : Array Bool := ⟨zb 51 8191⟩
def zf34 : Array Bool := ⟨zb 51 16383⟩
def zf35 : Array Bool := ⟨zb 51 32767⟩
def zf36 : Array Bool := ⟨zb 51 65535⟩
def zf37 : Array Bool := ⟨zb 51 131071⟩
def zf38 : Array Bool := ⟨zb 51 262143⟩
def zf39 : Array Bool := ⟨zb 51 524287⟩
def zf40 : Array Bool := ⟨zb 51 1048575⟩
def zf41 : Array Bool := ⟨zb 51 2097151⟩
def zf42 : Array Bool := ⟨zb 51 4194303⟩
def zf43 : Array Bool := ⟨zb 51 8388607⟩
def zf44 : Array Bool := ⟨zb 51 16777215⟩
def zf45 : Array Bool := ⟨zb 51 33554431⟩
def zf46 : Array Bool := ⟨zb 51 67108863⟩
def zf47 : Array Bool := ⟨zb 51 134217727⟩
def zf48 : Array Bool := ⟨zb 51 268435455⟩
def zf49 : Array Bool := ⟨zb 51 536870911⟩
def zf50 : Array Bool := ⟨zb 51 1073741823⟩
def zf51 : Array Bool := ⟨zb 51 2147483647⟩
def zf52 : Array Bool := ⟨zb 51 4294967295⟩
def zf53 : Array Bool := ⟨zb 51 8589934591⟩
def zf54 : Array Bool := ⟨zb 51 17179869183⟩
def zf55 : Array Bool := ⟨zb 51 34359738367⟩
def zf56 : Array Bool := ⟨zb 51 68719476735⟩
def zf57 : Array Bool := ⟨zb 51 137438953471⟩
def zf58 : Array Bool := ⟨zb 51 274877906943⟩
def zf59 : Array Bool := ⟨zb 51 549755813887⟩
def zf60 : Array Bool := ⟨zb 51 1099511627775⟩
def zf61 : Array Bool := ⟨zb 51 2199023255551⟩
def zf62 : Array Bool := ⟨zb 51 4398046511103⟩
def zf63 : Array Bool := ⟨zb 51 8796093022207⟩
def zf64 : Array Bool := ⟨zb 51 17592186044415⟩
def zf65 : Array Bool := ⟨zb 51 35184372088831⟩
def zf66 : Array Bool := ⟨zb 51 70368744177663⟩
def zf67 : Array Bool := ⟨zb 51 140737488355327⟩
def zf68 : Array Bool := ⟨zb 51 281474976710655⟩
def zf69 : Array Bool := ⟨zb 51 562949953421311⟩
def zf70 : Array Bool := ⟨zb 51 1125899906842623⟩
def zf71 : Array Bool := ⟨zb 51 2251799813685247⟩
def zf72 : Array Bool := ⟨zb 51 103079215103⟩
def zf73 : Array Bool := ⟨zb 51 240518168575⟩
def zf74 : Array Bool := #[false, false, false, false, false, false, false, false, false, false, false, false, false, false]
def zf75 : Array Bool := ⟨zb 14 1⟩
def zf76 : Array Bool := ⟨zb 14 3⟩
def zf77 : Array Bool := ⟨zb 14 7⟩
def zf78 : Array Bool := ⟨zb 14 15⟩
def zf79 : Array Bool := ⟨zb 14 31⟩
def zf80 : Array Bool := ⟨zb 14 63⟩
def zf81 : Array Bool := ⟨zb 14 127⟩
def zf82 : Array Bool := ⟨zb 14 255⟩
def zf83 : Array Bool := ⟨zb 14 511⟩
def zf84 : Array Bool := ⟨zb 14 1023⟩
def zf85 : Array Bool := ⟨zb 14 2047⟩
def zf86 : Array Bool := ⟨zb 14 4095⟩
def zf87 : Array Bool := ⟨zb 14 8191⟩
def zf88 : Array Bool := ⟨zb 14 16383⟩
def zf89 : Array Bool := ⟨zb 14 191⟩
def zf90 : Array Bool := ⟨zb 14 447⟩
def zf91 : Array Bool := ⟨zb 14 959⟩
def zf92 : Array Bool := ⟨zb 14 1983⟩
def zf93 : Array Bool := #[false, false, false, false, false, false, false, false, false, false, false, false, false]
def zf94 : Array Bool := ⟨zb 13 1⟩
def zf95 : Array Bool := ⟨zb 13 3⟩
def zf96 : Array Bool := ⟨zb 13 7⟩
def zf97 : Array Bool := ⟨zb 13 15⟩
def zf98 : Array Bool := ⟨zb 13 31⟩
def zf99 : Array Bool := ⟨zb 13 63⟩
def zf100 : Array Bool := ⟨zb 13 127⟩
def zf101 : Array Bool := ⟨zb 13 255⟩
def zf102 : Array Bool := ⟨zb 13 511⟩
def zf103 : Array Bool := ⟨zb 13 1023⟩
def zf104 : Array Bool := ⟨zb 13 2047⟩
def zf105 : Array Bool := ⟨zb 13 4095⟩
def zf106 : Array Bool := ⟨zb 13 8191⟩
def zf107 : Array Bool := ⟨zb 13 47⟩
def zf108 : Array Bool := ⟨zb 13 111⟩
def zf109 : Array Bool := #[false, false, false, false, false, false, false, false, false, false, false, false, false, false, false, false, false, false, false, false, false, false, false, false, false, false, false, false]
def zf110 : Array Bool := ⟨zb 28 1⟩
def zf111 : Array Bool := ⟨zb 28 3⟩
def zf112 : Array Bool := ⟨zb 28 7⟩
def zf113 : Array Bool := ⟨zb 28 15⟩
def zf114 : Array Bool := ⟨zb 28 31⟩
def zf115 : Array Bool := ⟨zb 28 63⟩
def zf116 : Array Bool := ⟨zb 28 127⟩
def zf117 : Array Bool := ⟨zb 28 255⟩
def zf118 : Array Bool := ⟨zb 28 511⟩
def zf119 : Array Bool := ⟨zb 28 1023⟩
def zf120 : Array Bool := ⟨zb 28 2047⟩
def zf121 : Array Bool := ⟨zb 28 4095⟩
def zf122 : Array Bool := ⟨zb 28 8191⟩
def zf123 : Array Bool := ⟨zb 28 16383⟩
def zf124 : Array Bool := ⟨zb 28 32767⟩
def zf125 : Array Bool := ⟨zb 28 65535⟩
def zf126 : Array Bool := ⟨zb 28 131071⟩
def zf127 : Array Bool := ⟨zb 28 262143⟩
def zf128 : Array Bool := ⟨zb 28 524287⟩
def zf129 : Array Bool := ⟨zb 28 1048575⟩
def zf130 : Array Bool := ⟨zb 28 2097151⟩
def zf131 : Array Bool := ⟨zb 28 4194303⟩
def zf132 : Array Bool := ⟨zb 28 8388607⟩
def zf133 : Array Bool := ⟨zb 28 16777215⟩
def zf134 : Array Bool := ⟨zb 28 33554431⟩
def zf135 : Array Bool := ⟨zb 28 67108863⟩
def zf136 : Array Bool := ⟨zb 28 134217727⟩
def zf137 : Array Bool := ⟨zb 28 268435455⟩
def zf138 : Array Bool := #[false, false, false, false, false, false, false, false, false, false, false, false, false, false, false, false, false, false, false, false, false, false]
def zf139 : Array Bool := ⟨zb 22 1⟩
def zf140 : Array Bool := ⟨zb 22 3⟩
def zf141 : Array Bool := ⟨zb 22 7⟩
def zf142 : Array Bool := ⟨zb 22 15⟩
def zf143 : Array Bool := ⟨zb 22 31⟩
def zf144 : Array Bool := ⟨zb 22 63⟩
def zf145 : Array Bool := ⟨zb 22 127⟩
def zf146 : Array Bool := ⟨zb 22 255⟩
def zf147 : Array Bool := ⟨zb 22 511⟩
def zf148 : Array Bool := ⟨zb 22 1023⟩
def zf149 : Array Bool := ⟨zb 22 2047⟩
def zf150 : Array Bool := ⟨zb 22 4095⟩
def zf151 : Array Bool := ⟨zb 22 8191⟩
def zf152 : Array Bool := ⟨zb 22 16383⟩
def zf153 : Array Bool := ⟨zb 22 32767⟩
def zf154 : Array Bool := ⟨zb 22 65535⟩
def zf155 : Array Bool := ⟨zb 22 131071⟩
def zf156 : Array Bool := ⟨zb 22 262143⟩
def zf157 : Array Bool := ⟨zb 22 524287⟩
def zf158 : Array Bool := ⟨zb 22 1048575⟩
def zf159 : Array Bool := ⟨zb 22 2097151⟩
def zf160 : Array Bool := ⟨zb 22 4194303⟩
def zf161 : Array Bool := #[false, false, false, false, false, false, false, false, false, false, false, false, false, false, false, false, false, false]
def zf162 : Array Bool := ⟨zb 18 1⟩
def zf163 : Array Bool := ⟨zb 18 3⟩
def zf164 : Array Bool := ⟨zb 18 7⟩
def zf165 : Array Bool := ⟨zb 18 15⟩
def zf166 : Array Bool := ⟨zb 18 31⟩
def zf167 : Array Bool := ⟨zb 18 63⟩
def zf168 : Array Bool := ⟨zb 18 127⟩
def zf169 : Array Bool := ⟨zb 18 255⟩
def zf170 : Array Bool := ⟨zb 18 511⟩
def zf171 : Array Bool := ⟨zb 18 1023⟩
def zf172 : Array Bool := ⟨zb 18 2047⟩
def zf173 : Array Bool := ⟨zb 18 4095⟩
def zf174 : Array Bool := ⟨zb 18 8191⟩
def zf175 : Array Bool := ⟨zb 18 16383⟩
def zf176 : Array Bool := ⟨zb 18 32767⟩
def zf177 : Array Bool := ⟨zb 18 65535⟩
def zf178 : Array Bool := ⟨zb 18 131071⟩
def zf179 : Array Bool := ⟨zb 18 262143⟩
def zf180 : Array Bool := #[false, false, false, false, false, false, false, false, false, false, false, false]
def zf181 : Array Bool := ⟨zb 12 1⟩
def zf182 : Array Bool := ⟨zb 12 3⟩
def zf183 : Array Bool := ⟨zb 12 7⟩
def zf184 : Array Bool := ⟨zb 12 15⟩
def zf185 : Array Bool := ⟨zb 12 31⟩
def zf186 : Array Bool := ⟨zb 12 63⟩
def zf187 : Array Bool := ⟨zb 12 127⟩
def zf188 : Array Bool := ⟨zb 12 255⟩
def zf189 : Array Bool := ⟨zb 12 511⟩
def zf190 : Array Bool := ⟨zb 12 1023⟩
def zf191 : Array Bool := ⟨zb 12 2047⟩
def zf192 : Array Bool := ⟨zb 12 4095⟩
def zf193 : Array Bool := #[false, false, false, false, false, false, false, false, false, false, false, false, false, false, false]
def zf194 : Array Bool := ⟨zb 15 1⟩
def zf195 : Array Bool := ⟨zb 15 3⟩
def zf196 : Array Bool := ⟨zb 15 7⟩
def zf197 : Array Bool := ⟨zb 15 15⟩
def zf198 : Array Bool := ⟨zb 15 31⟩
def zf199 : Array Bool := ⟨zb 15 63⟩
def zf200 : Array Bool := ⟨zb 15 127⟩
def zf201 : Array Bool := ⟨zb 15 255⟩
def zf202 : Array Bool := ⟨zb 15 511⟩
def zf203 : Array Bool := ⟨zb 15 1023⟩
def zf204 : Array Bool := ⟨zb 15 2047⟩
def zf205 : Array Bool := ⟨zb 15 4095⟩
def zf206 : Array Bool := ⟨zb 15 8191⟩
def zf207 : Array Bool := ⟨zb 15 16383⟩
def zf208 : Array Bool := ⟨zb 15 32767⟩
end Go.Proofs.Ytjjccaepbfijeaa.QFnExactMergeRuns
