-- A text of this session, printed by a program of its own (wip/tools: xpatch.py, xprint.sh, mkq.py). No condition.
import Derived.Test.YtflpkbegdmihdaaVFnExactTableFaultGrow
import Derived.Test.YtflpkbegdmihdaaProg
import Derived.Test.YtflpkbegdmihdaaVFnExactTableFaultCap
import Derived.Below
import Derived.Deep.Draws
import Derived.Deep.AppendLies
import Derived.Maps.AppendAt
import Derived.OwnWalk
import Derived.Laws.BytesArg
import Derived.Laws.MakeOwn
import Derived.Laws.OwnMore
import Derived.Deep.OwnRows
import Derived.Tactics
import Derived.Lib.ConvBytes
import Derived.Laws.Slices
import Derived.WalkKit
import Derived.KernelRfl
import Derived.RowKit3
import Derived.Deep.LoopGhost
import Derived.Deep.QuietTactic
import Derived.BigQuiet
import Derived.WideLaws
import Derived.Deep.DeepCutAuto
import Derived.Deep.CutBlock
import Derived.Deep.RegionHeld3
import Derived.Laws.Rows
import Derived.Lib.AppendStr
import Derived.ArgAppend
import Derived.Laws.IdiomCopy
import Derived.OrdersHeld
import Derived.Laws.BitsLemmas
import Derived.RowKit
import Derived.Test.YtflpkbegdmihdaaVFnExactTableFaultWWords
import Derived.Test.YtflpkbegdmihdaaVFnExactTableFaultWLast
import Derived.Test.YtflpkbegdmihdaaVFnExactTableFaultWTab
import Derived.Test.YtflpkbegdmihdaaVFnExactTableFaultWApart
import Derived.Test.YtflpkbegdmihdaaVFnExactTableFaultWFoot
import Derived.Test.YtflpkbegdmihdaaVFnExactTableFaultWKept
import Derived.Test.YtflpkbegdmihdaaVFnExactTableFaultWShare
import Derived.Test.YtflpkbegdmihdaaVFnExactTableFaultWN
import Derived.Laws.StructEq
import Derived.Test.YtflpkbegdmihdaaVFnExactTableFaultWRepsOne
import Derived.Test.YtflpkbegdmihdaaVFnExactTableFaultWGuard
import Derived.Test.YtflpkbegdmihdaaVFnExactTableFaultWMore
import Derived.Maps.Own
import Derived.Maps.OwnSet
import Derived.Maps.Views
namespace Go.Proofs.Ytflpkbegdmihdaa.QFnExactTableFault
open Go.RowKit Go.Proofs.YtflpkbegdmihdaaW.PrintWords Go.Proofs.YtflpkbegdmihdaaW.PrintLast Go.Proofs.YtflpkbegdmihdaaW.PrintMore
attribute [local go_sem] max2_int min2_int max_two min_two max_three min_three max_four min_four
set_option linter.unusedVariables false
set_option linter.unusedSimpArgs false
def errW : Option Int → Value
  | none => .nilIface
  | some c => .iface 0 (.int .i64 c)
theorem errW_none : errW none = .nilIface := rfl
theorem errW_some (c : Int) : errW (some c) = .iface 0 (.int .i64 c) := rfl
theorem info2 : (Try.prog.info? 2).map (fun i => (i.zero, i.size, i.bytes)) = some (some (.int .i64 0), 1, 8) := by kernel_rfl
theorem info53 : (Try.prog.info? 53).map (fun i => (i.zero, i.size, i.bytes)) = some (some (.agg #[(.slice none 0 0)]), 1, 24) := by kernel_rfl
theorem info118 : (Try.prog.info? 118).map (fun i => (i.zero, i.size, i.bytes)) = some (some (.agg #[(.string ⟨#[]⟩), (.int .i64 0), (.bool false), (.string ⟨#[]⟩)]), 4, 48) := by kernel_rfl
structure S211 where
  f0 : ByteArray
  f1 : Int
  f2 : Bool
  f3 : ByteArray
def z211 : S211 := ⟨(⟨#[]⟩ : ByteArray), (0 : Int), false, (⟨#[]⟩ : ByteArray)⟩
def k211 : Kd S211 := Kd.iso (Kd.pair Kd.string (Kd.pair (Kd.int .i64) (Kd.pair Kd.bool Kd.string))) (fun x : S211 => (x.f0, x.f1, x.f2, x.f3))
theorem k211_open {w : World} {x : S211} {cs : List Value} (h : k211.K w x cs) : cs = [.string x.f0, .int .i64 x.f1, .bool x.f2, .string x.f3] := by
  obtain ⟨_, _, rfl, rfl, ⟨_, _, rfl, rfl, ⟨_, _, rfl, rfl, rfl⟩⟩⟩ := h
  exact rfl
def rd_T211 (xs : List S211) (i : Int) : S211 := xs.getD i.toNat z211
theorem at_T211 {w : World} {A : Option Addr} {n : Nat} {xs : List S211} (h : Kd.C k211 w A n xs) (i : Int) (h0 : 0 ≤ i) (h1 : i < n) : ∃ ad , A = some ad ∧ w.cell? (ad.add (i.toNat * 4)) = some (.string (rd_T211 xs i).f0) ∧ w.cell? ⟨(ad.add (i.toNat * 4)).block, (ad.add (i.toNat * 4)).off + 1, none⟩ = some (.int .i64 (rd_T211 xs i).f1) ∧ w.cell? ⟨(ad.add (i.toNat * 4)).block, (ad.add (i.toNat * 4)).off + 2, none⟩ = some (.bool (rd_T211 xs i).f2) ∧ w.cell? ⟨(ad.add (i.toNat * 4)).block, (ad.add (i.toNat * 4)).off + 3, none⟩ = some (.string (rd_T211 xs i).f3) := by
  obtain ⟨ad, c, e, _, hK, hc0⟩ := Kd.C_get h z211 i h0 h1
  have hc : ∀ j u, c[j]? = some u → w.cell? (ad.add (i.toNat * 4 + j)) = some u := hc0
  obtain rfl := k211_open hK
  exact ⟨ad, e, hc 0 _ rfl, by rw [← add_field _ _ 1 (by omega)]; exact hc 1 _ rfl, by rw [← add_field _ _ 2 (by omega)]; exact hc 2 _ rfl, by rw [← add_field _ _ 3 (by omega)]; exact hc 3 _ rfl⟩
structure S45 where
  f0 : (List S211)
def z45 : S45 := ⟨([] : List S211)⟩
def k45 : Kd S45 := Kd.iso (Kd.slice 211 k211) (fun x : S45 => x.f0)
theorem k45_open {w : World} {x : S45} {cs : List Value} (h : k45.K w x cs) : ∃ A0 c0, cs = [.slice A0 x.f0.length c0] ∧ x.f0.length ≤ c0 ∧ k211.C w A0 x.f0.length x.f0 := by
  obtain ⟨A0, c0, rfl, l0, g0⟩ := h
  exact ⟨A0, c0, rfl, l0, g0⟩
def rd_T45 (xs : List S45) (i : Int) : S45 := xs.getD i.toNat z45
theorem at_T45 {w : World} {A : Option Addr} {n : Nat} {xs : List S45} (h : Kd.C k45 w A n xs) (i : Int) (h0 : 0 ≤ i) (h1 : i < n) : ∃ ad A0 c0, A = some ad ∧ w.cell? (ad.add i.toNat) = some (.slice A0 (rd_T45 xs i).f0.length c0) ∧ (rd_T45 xs i).f0.length ≤ c0 ∧ k211.C w A0 (rd_T45 xs i).f0.length (rd_T45 xs i).f0 := by
  obtain ⟨ad, c, e, _, hK, hc0⟩ := Kd.C_get h z45 i h0 h1
  have hc : ∀ j u, c[j]? = some u → w.cell? (ad.add (i.toNat * 1 + j)) = some u := hc0
  obtain ⟨A0, c0, rfl, l0, g0⟩ := k45_open hK
  exact ⟨ad, A0, c0, e, by have hq := hc 0 _ rfl; rwa [Nat.mul_one, Nat.add_zero] at hq, l0, g0⟩
structure S118 where
  f0 : ByteArray
  f1 : Int
  f2 : Bool
  f3 : ByteArray
def z118 : S118 := ⟨(⟨#[]⟩ : ByteArray), (0 : Int), false, (⟨#[]⟩ : ByteArray)⟩
def k118 : Kd S118 := Kd.iso (Kd.pair Kd.string (Kd.pair (Kd.int .i64) (Kd.pair Kd.bool Kd.string))) (fun x : S118 => (x.f0, x.f1, x.f2, x.f3))
theorem k118_open {w : World} {x : S118} {cs : List Value} (h : k118.K w x cs) : cs = [.string x.f0, .int .i64 x.f1, .bool x.f2, .string x.f3] := by
  obtain ⟨_, _, rfl, rfl, ⟨_, _, rfl, rfl, ⟨_, _, rfl, rfl, rfl⟩⟩⟩ := h
  exact rfl
theorem k118_openM {w : World} {base : Nat} {ok : Nat → Prop} {x : S118} {cs : List Value} (h : k118.M w base ok x cs) : cs = [.string x.f0, .int .i64 x.f1, .bool x.f2, .string x.f3] := by
  obtain ⟨_, _, rfl, rfl, ⟨_, _, rfl, rfl, ⟨_, _, rfl, rfl, rfl⟩⟩⟩ := h
  exact rfl
theorem k118_mkM (w : World) (base : Nat) (ok : Nat → Prop) (x : S118)  : k118.M w base ok x [.string x.f0, .int .i64 x.f1, .bool x.f2, .string x.f3] := ⟨[.string x.f0], [.int .i64 x.f1, .bool x.f2, .string x.f3], rfl, rfl, ⟨[.int .i64 x.f1], [.bool x.f2, .string x.f3], rfl, rfl, ⟨[.bool x.f2], [.string x.f3], rfl, rfl, rfl⟩⟩⟩
def rd_T118 (xs : List S118) (i : Int) : S118 := xs.getD i.toNat z118
theorem at_T118 {w : World} {A : Option Addr} {n : Nat} {xs : List S118} (h : Kd.C k118 w A n xs) (i : Int) (h0 : 0 ≤ i) (h1 : i < n) : ∃ ad , A = some ad ∧ w.cell? (ad.add (i.toNat * 4)) = some (.string (rd_T118 xs i).f0) ∧ w.cell? ⟨(ad.add (i.toNat * 4)).block, (ad.add (i.toNat * 4)).off + 1, none⟩ = some (.int .i64 (rd_T118 xs i).f1) ∧ w.cell? ⟨(ad.add (i.toNat * 4)).block, (ad.add (i.toNat * 4)).off + 2, none⟩ = some (.bool (rd_T118 xs i).f2) ∧ w.cell? ⟨(ad.add (i.toNat * 4)).block, (ad.add (i.toNat * 4)).off + 3, none⟩ = some (.string (rd_T118 xs i).f3) := by
  obtain ⟨ad, c, e, _, hK, hc0⟩ := Kd.C_get h z118 i h0 h1
  have hc : ∀ j u, c[j]? = some u → w.cell? (ad.add (i.toNat * 4 + j)) = some u := hc0
  obtain rfl := k118_open hK
  exact ⟨ad, e, hc 0 _ rfl, by rw [← add_field _ _ 1 (by omega)]; exact hc 1 _ rfl, by rw [← add_field _ _ 2 (by omega)]; exact hc 2 _ rfl, by rw [← add_field _ _ 3 (by omega)]; exact hc 3 _ rfl⟩
structure S53 where
  f0 : (List S118)
def z53 : S53 := ⟨([] : List S118)⟩
def k53 : Kd S53 := Kd.iso (Kd.slice 118 k118) (fun x : S53 => x.f0)
theorem k53_open {w : World} {x : S53} {cs : List Value} (h : k53.K w x cs) : ∃ A0 c0, cs = [.slice A0 x.f0.length c0] ∧ x.f0.length ≤ c0 ∧ k118.C w A0 x.f0.length x.f0 := by
  obtain ⟨A0, c0, rfl, l0, g0⟩ := h
  exact ⟨A0, c0, rfl, l0, g0⟩
theorem k53_openM {w : World} {base : Nat} {ok : Nat → Prop} {x : S53} {cs : List Value} (h : k53.M w base ok x cs) : ∃ v0, cs = [v0] ∧ k118.R 118 w base ok v0 x.f0 := by
  obtain ⟨v0, rfl, g0⟩ := h
  exact ⟨v0, rfl, g0⟩
theorem k53_mkM (w : World) (base : Nat) (ok : Nat → Prop) (x : S53) {v0 : Value} (g0 : k118.R 118 w base ok v0 x.f0) : k53.M w base ok x [v0] := ⟨v0, rfl, g0⟩
def rd_T53 (xs : List S53) (i : Int) : S53 := xs.getD i.toNat z53
theorem at_T53 {w : World} {A : Option Addr} {n : Nat} {xs : List S53} (h : Kd.C k53 w A n xs) (i : Int) (h0 : 0 ≤ i) (h1 : i < n) : ∃ ad A0 c0, A = some ad ∧ w.cell? (ad.add i.toNat) = some (.slice A0 (rd_T53 xs i).f0.length c0) ∧ (rd_T53 xs i).f0.length ≤ c0 ∧ k118.C w A0 (rd_T53 xs i).f0.length (rd_T53 xs i).f0 := by
  obtain ⟨ad, c, e, _, hK, hc0⟩ := Kd.C_get h z53 i h0 h1
  have hc : ∀ j u, c[j]? = some u → w.cell? (ad.add (i.toNat * 1 + j)) = some u := hc0
  obtain ⟨A0, c0, rfl, l0, g0⟩ := k53_open hK
  exact ⟨ad, A0, c0, e, by have hq := hc 0 _ rfl; rwa [Nat.mul_one, Nat.add_zero] at hq, l0, g0⟩
namespace MR
def R (w : World) (base : Nat) (ok : Nat → Prop) (v : Value) (xs : List Int) : Prop :=
  ∃ (b n : Nat) (D : DataW Unit), v = .map (some b) ∧ base ≤ b ∧ ok b ∧ n ≤ xs.length ∧ w.ownsMap Try.prog 2 (plainElem Try.prog 4) b n D ∧
    ((∀ x : Int, D.atKey (.int .i64 x) (.lit (.bool false)) = .lit (.bool (decide (x ∈ xs)))) ∧ (∀ x : Int, Maps.has D (.int .i64 x) = decide (x ∈ xs)) ∧ (xs.Nodup → Maps.size D = xs.length))
def blockOf : Value → Option Nat
  | .map b => b
  | _ => none
variable {w w1 : World} {base : Nat} {ok ok' : Nat → Prop} {v : Value} {xs : List Int}
theorem R_mono (h : R w base ok v xs) (hok : ∀ k, ok k → ok' k) : R w base ok' v xs := by
  obtain ⟨b, n, D, h1, h2, h3, h4⟩ := h
  exact ⟨b, n, D, h1, h2, hok b h3, h4⟩
theorem R_lower {base' : Nat} (h : R w base ok v xs) (hb : base' ≤ base) : R w base' ok v xs := by
  obtain ⟨b, n, D, h1, h2, h3⟩ := h
  exact ⟨b, n, D, h1, Nat.le_trans hb h2, h3⟩
theorem R_grown (h : R w base ok v xs) {row : Option Nat} (hg : w.grownBy w1 row) (hne : ∀ k, ok k → some k ≠ row) : R w1 base ok v xs := by
  obtain ⟨b, n, D, h1, h2, h3, h4, h5, h6⟩ := h
  exact ⟨b, n, D, h1, h2, h3, h4, h5.kept hg (hne b h3), h6⟩
theorem R_below (h : R w base ok v xs) (hb : Below w.heap.size w w1) : R w1 base ok v xs := R_grown h (grown_of_below hb none) (fun _ _ => by simp)
theorem R_alloc (h : R w base ok v xs) (o : Obj) : R (w.alloc o) base ok v xs := R_below h (below_alloc (Below.refl _ _) o)
theorem R_drew (h : R w base ok v xs) : R w.drew base ok v xs := R_below h (below_drew (Below.refl _ _))
theorem R_drewN (h : R w base ok v xs) (m : Nat) : R (w.drewN m) base ok v xs := R_below h (pw_below_drewN (Below.refl _ _) m)
theorem R_far (h : R w base ok v xs) {p : Addr} (hok : ∀ k, ok k → k ≠ p.block) (u : Value) : R (w.setCell p u) base ok v xs := by
  obtain ⟨b, n, D, h1, h2, h3, h4, h5, h6⟩ := h
  exact ⟨b, n, D, h1, h2, h3, h4, h5.setCell (hok b h3) u, h6⟩
theorem R_types (h : R w base ok v xs) {g t : Nat} {cells : Array Value} (hb : w.heap[g]? = some (.cells cells t (0, 0))) (_ : True) : R w base (fun k => ok k ∧ k ≠ g) v xs := by
  obtain ⟨b, n, D, h1, h2, h3, h4, h5, h6⟩ := h
  refine ⟨b, n, D, h1, h2, ⟨h3, ?_⟩, h4, h5, h6⟩
  rintro rfl
  obtain ⟨es, clock, hh, _⟩ := h5
  rw [hh] at hb
  cases hb
theorem R_ne (h : R w base ok v xs) {g t : Nat} {cells : Array Value} (hb : w.heap[g]? = some (.cells cells t (0, 0))) (_ : True) : some g ≠ blockOf v := by
  obtain ⟨b, n, D, rfl, h2, h3, h4, h5, h6⟩ := h
  intro e
  have e2 : g = b := Option.some.inj e
  subst e2
  obtain ⟨es, clock, hh, _⟩ := h5
  rw [hh] at hb
  cases hb
theorem R_map (h : R w base ok v xs) : ∃ b, v = .map (some b) := by
  obtain ⟨b, n, D, h1, _⟩ := h
  exact ⟨b, h1⟩
theorem zeroE (w : World) : (zeroValue 4).run Try.prog w = .ok (.bool false) w := by kernel_rfl
theorem elem_inv {P : Program} {e : TypeId} (he : P.underlying e = some .bool) {u : Value} {c : Bool} {ps : List MemPlace} (h : plainElem (H := Unit) P e u = some (.lit (.bool c), ps)) : u = .bool c := by
  unfold plainElem at h
  rw [he] at h
  cases u <;> simp at h
  rw [h.1]
theorem look (h : R w base ok v xs) (x : Int) (hx : (Lit.int .i64 x).wf = true) : (Instr.lookup 122 v (.int .i64 x) false).run Try.prog w = .ok (.bool (decide (x ∈ xs))) w := by
  obtain ⟨b, n, D, rfl, h2, h3, h4, h5, h6⟩ := h
  obtain ⟨u, ps, hrun, hu⟩ := h5.lookup (Maps.int_keyed Try.underlying2) Try.underlying122 (zeroE w) (plainElem_bool Try.underlying4 false) (Maps.keyOf_int_mk Try.underlying2 hx)
  rw [h6.1 x] at hu
  rw [elem_inv Try.underlying4 hu] at hrun
  exact hrun
theorem put (h : R w base ok v xs) (x : Int) (hx : (Lit.int .i64 x).wf = true) (hl : xs.length < maxLen) :
    ∃ w', (Instr.mapUpdate 122 v (.int .i64 x) (.bool true)).run Try.prog w = .ok () w' ∧ R w' base ok v (xs ++ [x]) ∧ w.grownBy w' (blockOf v) := by
  obtain ⟨b, n, D, rfl, h2, h3, h4, h5, h6⟩ := h
  obtain ⟨w', hrun, ho, hg⟩ := h5.update (Maps.int_keyed Try.underlying2) Try.underlying122 (Nat.lt_of_le_of_lt h4 hl) (Maps.keyOf_int_mk Try.underlying2 hx) (plainElem_bool Try.underlying4 true)
  refine ⟨w', hrun, ⟨b, n + 1, _, rfl, h2, h3, by simp; omega, ho, ⟨fun y => ?_, fun y => ?_, fun hnd => ?_⟩⟩, hg⟩
  · by_cases e : y = x
    · subst e
      rw [Maps.atKey_put_same h5.isMap (show WideAt.IsKeyLit (.int .i64 y) from trivial)]
      simp
    · rw [Maps.atKey_put_other (fun e2 => e (by injection e2)), h6.1 y]
      simp [e]
  · by_cases e : y = x
    · subst e
      rw [Maps.has_put_same h5.isMap (show WideAt.IsKeyLit (.int .i64 y) from trivial)]
      simp
    · rw [Maps.has_put_other (fun e2 => e (by injection e2)), h6.2.1 y]
      simp [e]
  · rw [Maps.size_put (h5.tidy (Maps.int_keyed Try.underlying2)), h6.2.1 x]
    have h7 := List.nodup_append.1 hnd
    have h8 : ¬ x ∈ xs := fun hm => h7.2.2 x hm x (by simp) rfl
    rw [decide_eq_false h8, if_neg (by decide), h6.2.2 h7.1]
    simp
theorem made (w : World) {ok : Nat → Prop} (hok : ok w.heap.size) : R (w.alloc (.map #[] 0)) w.heap.size ok (.map (some w.heap.size)) [] :=
  ⟨w.heap.size, 0, _, rfl, Nat.le_refl _, hok, Nat.le_refl _, World.ownsMap_made w Try.prog 2 _, fun x => by simp [DataW.atKey], fun x => by simp [Maps.has], fun _ => rfl⟩
section
variable {ops : Array Oper} {rest : List Oper} {o : Oper} {a : Act} {Q : Exit → Act → World → Prop}
theorem R_make {W : World} (hgd : o.guard = none) {N : Tmp} (_hd : o.dst = some N) (ho : o.op = .makeMap 122 none)
    (h : ∀ v1 w1, R w1 W.heap.size (fun _ => True) v1 ([] : List Int) → Below W.heap.size W w1 → True → True → wpList Try.prog ops Q rest (a.put o.dst v1) w1) : wpList Try.prog ops Q (o :: rest) a W := by
  refine Kd.event_run (v := .map (some W.heap.size)) (w1 := W.alloc (.map #[] 0)) hgd ?_ (h _ _ (made W trivial) (below_alloc (Below.refl _ _) _) trivial trivial)
  have hr : (Instr.makeMap 122 none).run Try.prog W = .ok (.map (some W.heap.size)) (W.alloc (.map #[] 0)) := rfl
  simp [execOp, ho, hr, Result.andThen]
theorem R_look {W : World} (hgd : o.guard = none) {m x : Operand} (ho : o.op = .lookup 122 m x false) (hm : a.eval m = v) {y : Int} (hx : a.eval x = .int .i64 y) (hR : R W base ok v xs) (hy : (Lit.int .i64 y).wf = true) {t : Bool} (ht : decide (y ∈ xs) = t)
    (h : wpList Try.prog ops Q rest (a.put o.dst (.bool t)) W) : wpList Try.prog ops Q (o :: rest) a W := by
  subst ht
  refine Kd.event_run (v := .bool (decide (y ∈ xs))) (w1 := W) hgd ?_ h
  simp [execOp, ho, hm, hx, look hR y hy]
theorem R_put {w0 W : World} (hgd : o.guard = none) {m x c : Operand} (ho : o.op = .mapUpdate 122 m x c) (hm : a.eval m = v) {y : Int} (hx : a.eval x = .int .i64 y) (hc : a.eval c = .bool true) (hR : R W base ok v xs) (hy : (Lit.int .i64 y).wf = true) (hl : xs.length < maxLen) (hB : Below base w0 W)
    (h : ∀ w1, R w1 base ok v (xs ++ [y]) → Below base w0 w1 → W.grownBy w1 (blockOf v) → wpList Try.prog ops Q rest (a.put o.dst undef) w1) : wpList Try.prog ops Q (o :: rest) a W := by
  obtain ⟨w', hrun, h1, h2⟩ := put hR y hy hl
  have hb : ∀ k, blockOf v = some k → base ≤ k := by
    obtain ⟨b, n, D, rfl, h3, _⟩ := hR
    intro k hk
    obtain rfl := Option.some.inj hk
    exact h3
  refine wpList_plain hgd fun K' hK' => ?_
  unfold Oper.wp
  simp [execOp, ho, hm, hx, hc, hrun, Result.andThen]
  exact hK' _ _ (h w' h1 (hB.grown h2 (by have hle := h1; obtain ⟨b, n, D, e1, h3, _, _, h5, _⟩ := hR; exact Nat.le_trans h3 (Nat.le_of_lt h5.lt)) hb) h2)
theorem R_len {W : World} (hgd : o.guard = none) {m : Operand} (ho : o.op = .call { callee := .builtin .len, args := #[m], argTypes := #[122] }) (hm : a.eval m = v) (hR : R W base ok v xs) (hn : xs.Nodup)
    (h : wpList Try.prog ops Q rest (a.put o.dst (.int .i64 (xs.length : Int))) W) : wpList Try.prog ops Q (o :: rest) a W := by
  obtain ⟨b, n, D, rfl, h2, h3, h4, h5, h6⟩ := hR
  refine wpList_len_own W hgd m 122 ho 2 4 Try.underlying122 _ b n D hm h5 ?_
  rw [h6.2.2 hn]
  exact h
end
end MR
def mapHas.f (l : List Int) (x : Int) : Option (Bool) := if (Lit.int .i64 x).wf = true then (some (decide (x ∈ l))) else (none)
def keyIn.f (x : Int) : Option (Int) := if (Lit.int .i64 x).wf = true then (some x) else (none)
theorem mapHas.of {l : List Int} {x : Int} {t : Bool} (h : mapHas.f l x = some t) : (Lit.int .i64 x).wf = true ∧ decide (x ∈ l) = t := by
  unfold mapHas.f at h
  split at h
  · exact ⟨by assumption, Option.some.inj h⟩
  · cases h
theorem keyIn.of {x t : Int} (h : keyIn.f x = some t) : (Lit.int .i64 x).wf = true ∧ x = t := by
  unfold keyIn.f at h
  split at h
  · exact ⟨by assumption, Option.some.inj h⟩
  · cases h
def mapLen.f (l : List Int) : Option (Int) := if l.Nodup then (some (l.length : Int)) else (none)
theorem mapLen.of {l : List Int} {t : Int} (h : mapLen.f l = some t) : l.Nodup ∧ (l.length : Int) = t := by
  unfold mapLen.f at h
  split at h
  · exact ⟨by assumption, Option.some.inj h⟩
  · cases h
def zf0 : Array Bool := #[false, false, false, false, false, false, false, false, false, false, false, false, false, false, false, false, false, false, false, false, false, false, false, false, false, false, false, false, false, false, false, false, false, false, false, false, false, false, false, false, false, false, false, false, false, false, false, false, false, false, false]
def zf1 : Array Bool := #[true, false, false, false, false, false, false, false, false, false, false, false, false, false, false, false, false, false, false, false, false, false, false, false, false, false, false, false, false, false, false, false, false, false, false, false, false, false, false, false, false, false, false, false, false, false, false, false, false, false, false]
def zf2 : Array Bool := #[true, true, false, false, false, false, false, false, false, false, false, false, false, false, false, false, false, false, false, false, false, false, false, false, false, false, false, false, false, false, false, false, false, false, false, false, false, false, false, false, false, false, false, false, false, false, false, false, false, false, false]
def zf3 : Array Bool := #[true, true, true, false, false, false, false, false, false, false, false, false, false, false, false, false, false, false, false, false, false, false, false, false, false, false, false, false, false, false, false, false, false, false, false, false, false, false, false, false, false, false, false, false, false, false, false, false, false, false, false]
def zf4 : Array Bool := #[true, true, true, true, false, false, false, false, false, false, false, false, false, false, false, false, false, false, false, false, false, false, false, false, false, false, false, false, false, false, false, false, false, false, false, false, false, false, false, false, false, false, false, false, false, false, false, false, false, false, false]
def zf5 : Array Bool := #[true, true, true, true, true, false, false, false, false, false, false, false, false, false, false, false, false, false, false, false, false, false, false, false, false, false, false, false, false, false, false, false, false, false, false, false, false, false, false, false, false, false, false, false, false, false, false, false, false, false, false]
def zf6 : Array Bool := #[true, true, true, true, true, true, false, false, false, false, false, false, false, false, false, false, false, false, false, false, false, false, false, false, false, false, false, false, false, false, false, false, false, false, false, false, false, false, false, false, false, false, false, false, false, false, false, false, false, false, false]
def zf7 : Array Bool := #[true, true, true, true, true, true, true, false, false, false, false, false, false, false, false, false, false, false, false, false, false, false, false, false, false, false, false, false, false, false, false, false, false, false, false, false, false, false, false, false, false, false, false, false, false, false, false, false, false, false, false]
def zf8 : Array Bool := #[true, true, true, true, true, true, true, true, false, false, false, false, false, false, false, false, false, false, false, false, false, false, false, false, false, false, false, false, false, false, false, false, false, false, false, false, false, false, false, false, false, false, false, false, false, false, false, false, false, false, false]
def zf9 : Array Bool := #[true, true, true, true, true, true, true, true, true, false, false, false, false, false, false, false, false, false, false, false, false, false, false, false, false, false, false, false, false, false, false, false, false, false, false, false, false, false, false, false, false, false, false, false, false, false, false, false, false, false, false]
def zf10 : Array Bool := #[true, true, true, true, true, true, true, true, true, true, false, false, false, false, false, false, false, false, false, false, false, false, false, false, false, false, false, false, false, false, false, false, false, false, false, false, false, false, false, false, false, false, false, false, false, false, false, false, false, false, false]
def zf11 : Array Bool := #[true, true, true, true, true, true, true, true, true, true, true, false, false, false, false, false, false, false, false, false, false, false, false, false, false, false, false, false, false, false, false, false, false, false, false, false, false, false, false, false, false, false, false, false, false, false, false, false, false, false, false]
def zf12 : Array Bool := #[true, true, true, true, true, true, true, true, true, true, true, true, false, false, false, false, false, false, false, false, false, false, false, false, false, false, false, false, false, false, false, false, false, false, false, false, false, false, false, false, false, false, false, false, false, false, false, false, false, false, false]
def zf13 : Array Bool := #[true, true, true, true, true, true, true, true, true, true, true, true, true, false, false, false, false, false, false, false, false, false, false, false, false, false, false, false, false, false, false, false, false, false, false, false, false, false, false, false, false, false, false, false, false, false, false, false, false, false, false]
def zf14 : Array Bool := #[true, true, true, true, true, true, true, true, true, true, true, true, true, true, false, false, false, false, false, false, false, false, false, false, false, false, false, false, false, false, false, false, false, false, false, false, false, false, false, false, false, false, false, false, false, false, false, false, false, false, false]
def zf15 : Array Bool := #[true, true, true, true, true, true, true, true, true, true, true, true, true, true, true, false, false, false, false, false, false, false, false, false, false, false, false, false, false, false, false, false, false, false, false, false, false, false, false, false, false, false, false, false, false, false, false, false, false, false, false]
def zf16 : Array Bool := #[true, true, true, true, true, true, true, true, true, true, true, true, true, true, true, true, false, false, false, false, false, false, false, false, false, false, false, false, false, false, false, false, false, false, false, false, false, false, false, false, false, false, false, false, false, false, false, false, false, false, false]
def zf17 : Array Bool := #[true, true, true, true, true, true, true, true, true, true, true, true, true, true, true, true, true, false, false, false, false, false, false, false, false, false, false, false, false, false, false, false, false, false, false, false, false, false, false, false, false, false, false, false, false, false, false, false, false, false, false]
def zf18 : Array Bool := #[true, true, true, true, true, true, true, true, true, true, true, true, true, true, true, true, true, true, false, false, false, false, false, false, false, false, false, false, false, false, false, false, false, false, false, false, false, false, false, false, false, false, false, false, false, false, false, false, false, false, false]
def zf19 : Array Bool := #[true, true, true, true, true, true, true, true, true, true, true, true, true, true, true, true, true, true, true, false, false, false, false, false, false, false, false, false, false, false, false, false, false, false, false, false, false, false, false, false, false, false, false, false, false, false, false, false, false, false, false]
def zf20 : Array Bool := #[true, true, true, true, true, true, true, true, true, true, true, true, true, true, true, true, true, true, true, true, false, false, false, false, false, false, false, false, false, false, false, false, false, false, false, false, false, false, false, false, false, false, false, false, false, false, false, false, false, false, false]
def zf21 : Array Bool := #[true, true, true, true, true, true, true, true, true, true, true, true, true, true, true, true, true, true, true, true, true, false, false, false, false, false, false, false, false, false, false, false, false, false, false, false, false, false, false, false, false, false, false, false, false, false, false, false, false, false, false]
def zf22 : Array Bool := #[true, true, true, true, true, true, true, true, true, true, true, true, true, true, true, true, true, true, true, true, true, true, false, false, false, false, false, false, false, false, false, false, false, false, false, false, false, false, false, false, false, false, false, false, false, false, false, false, false, false, false]
def zf23 : Array Bool := #[true, true, true, true, true, true, true, true, true, true, true, true, true, true, true, true, true, true, true, true, true, true, true, false, false, false, false, false, false, false, false, false, false, false, false, false, false, false, false, false, false, false, false, false, false, false, false, false, false, false, false]
def zf24 : Array Bool := #[true, true, true, true, true, true, true, true, true, true, true, true, true, true, true, true, true, true, true, true, true, true, true, true, false, false, false, false, false, false, false, false, false, false, false, false, false, false, false, false, false, false, false, false, false, false, false, false, false, false, false]
def zf25 : Array Bool := #[true, true, true, true, true, true, true, true, true, true, true, true, true, true, true, true, true, true, true, true, true, true, true, true, true, false, false, false, false, false, false, false, false, false, false, false, false, false, false, false, false, false, false, false, false, false, false, false, false, false, false]
def zf26 : Array Bool := #[true, true, true, true, true, true, true, true, true, true, true, true, true, true, true, true, true, true, true, true, true, true, true, true, true, true, false, false, false, false, false, false, false, false, false, false, false, false, false, false, false, false, false, false, false, false, false, false, false, false, false]
def zf27 : Array Bool := #[true, true, true, true, true, true, true, true, true, true, true, true, true, true, true, true, true, true, true, true, true, true, true, true, true, true, true, false, false, false, false, false, false, false, false, false, false, false, false, false, false, false, false, false, false, false, false, false, false, false, false]
def zf28 : Array Bool := #[true, true, true, true, true, true, true, true, true, true, true, true, true, true, true, true, true, true, true, true, true, true, true, true, true, true, true, true, false, false, false, false, false, false, false, false, false, false, false, false, false, false, false, false, false, false, false, false, false, false, false]
def zf29 : Array Bool := #[true, true, true, true, true, true, true, true, true, true, true, true, true, true, true, true, true, true, true, true, true, true, true, true, true, true, true, true, true, false, false, false, false, false, false, false, false, false, false, false, false, false, false, false, false, false, false, false, false, false, false]
def zf30 : Array Bool := #[true, true, true, true, true, true, true, true, true, true, true, true, true, true, true, true, true, true, true, true, true, true, true, true, true, true, true, true, true, true, false, false, false, false, false, false, false, false, false, false, false, false, false, false, false, false, false, false, false, false, false]
def zf31 : Array Bool := #[true, true, true, true, true, true, true, true, true, true, true, true, true, true, true, true, true, true, true, true, true, true, true, true, true, true, true, true, true, true, true, false, false, false, false, false, false, false, false, false, false, false, false, false, false, false, false, false, false, false, false]
def zf32 : Array Bool := #[true, true, true, true, true, true, true, true, true, true, true, true, true, true, true, true, true, true, true, true, true, true, true, true, true, true, true, true, true, true, true, true, false, false, false, false, false, false, false, false, false, false, false, false, false, false, false, false, false, false, false]
def zf33 : Array Bool := #[true, true, true, true, true, true, true, true, true, true, true, true, true, true, true, true, true, true, true, true, true, true, true, true, true, true, true, true, true, true, true, true, true, false, false, false, false, false, false, false, false, false, false, false, false, false, false, false, false, false, false]
def zf34 : Array Bool := #[true, true, true, true, true, true, true, true, true, true, true, true, true, true, true, true, true, true, true, true, true, true, true, true, true, true, true, true, true, true, true, true, true, true, false, false, false, false, false, false, false, false, false, false, false, false, false, false, false, false, false]
def zf35 : Array Bool := #[true, true, true, true, true, true, true, true, true, true, true, true, true, true, true, true, true, true, true, true, true, true, true, true, true, true, true, true, true, true, true, true, true, true, true, false, false, false, false, false, false, false, false, false, false, false, false, false, false, false, false]
def zf36 : Array Bool := #[true, true, true, true, true, true, true, true, true, true, true, true, true, true, true, true, true, true, true, true, true, true, true, true, true, true, true, true, true, true, true, true, true, true, true, true, false, false, false, false, false, false, false, false, false, false, false, false, false, false, false]
def zf37 : Array Bool := #[true, true, true, true, true, true, true, true, true, true, true, true, true, true, true, true, true, true, true, true, true, true, true, true, true, true, true, true, true, true, true, true, true, true, true, true, true, false, false, false, false, false, false, false, false, false, false, false, false, false, false]
def zf38 : Array Bool := #[true, true, true, true, true, true, true, true, true, true, true, true, true, true, true, true, true, true, true, true, true, true, true, true, true, true, true, true, true, true, true, true, true, true, true, true, true, true, false, false, false, false, false, false, false, false, false, false, false, false, false]
def zf39 : Array Bool := #[true, true, true, true, true, true, true, true, true, true, true, true, true, true, true, true, true, true, true, true, true, true, true, true, true, true, true, true, true, true, true, true, true, true, true, true, true, true, true, false, false, false, false, false, false, false, false, false, false, false, false]
def zf40 : Array Bool := #[true, true, true, true, true, true, true, true, true, true, true, true, true, true, true, true, true, true, true, true, true, true, true, true, true, true, true, true, true, true, true, true, true, true, true, true, true, true, true, true, false, false, false, false, false, false, false, false, false, false, false]
def zf41 : Array Bool := #[true, true, true, true, true, true, true, true, true, true, true, true, true, true, true, true, true, true, true, true, true, true, true, true, true, true, true, true, true, true, true, true, true, true, true, true, true, true, true, true, true, false, false, false, false, false, false, false, false, false, false]
def zf42 : Array Bool := #[true, true, true, true, true, true, true, true, true, true, true, true, true, true, true, true, true, true, true, true, true, true, true, true, true, true, true, true, true, true, true, true, true, true, true, true, true, true, true, true, true, true, false, false, false, false, false, false, false, false, false]
def zf43 : Array Bool := #[true, true, true, true, true, true, true, true, true, true, true, true, true, true, true, true, true, true, true, true, true, true, true, true, true, true, true, true, true, true, true, true, true, true, true, true, true, true, true, true, true, true, true, false, false, false, false, false, false, false, false]
def zf44 : Array Bool := #[true, true, true, true, true, true, true, true, true, true, true, true, true, true, true, true, true, true, true, true, true, true, true, true, true, true, true, true, true, true, true, true, true, true, true, true, true, true, true, true, true, true, true, true, false, false, false, false, false, false, false]
def zf45 : Array Bool := #[true, true, true, true, true, true, true, true, true, true, true, true, true, true, true, true, true, true, true, true, true, true, true, true, true, true, true, true, true, true, true, true, true, true, true, true, true, true, true, true, true, true, true, true, true, false, false, false, false, false, false]
def zf46 : Array Bool := #[true, true, true, true, true, true, true, true, true, true, true, true, true, true, true, true, true, true, true, true, true, true, true, true, true, true, true, true, true, true, true, true, true, true, true, true, true, true, true, true, true, true, true, true, true, true, false, false, false, false, false]
def zf47 : Array Bool := #[true, true, true, true, true, true, true, true, true, true, true, true, true, true, true, true, true, true, true, true, true, true, true, true, true, true, true, true, true, true, true, true, true, true, true, true, true, true, true, true, true, true, true, true, true, true, true, false, false, false, false]
def zf48 : Array Bool := #[true, true, true, true, true, true, true, true, true, true, true, true, true, true, true, true, true, true, true, true, true, true, true, true, true, true, true, true, true, true, true, true, true, true, true, true, true, true, true, true, true, true, true, true, true, true, true, true, false, false, false]
def zf49 : Array Bool := #[true, true, true, true, true, true, true, true, true, true, true, true, true, true, true, true, true, true, true, true, true, true, true, true, true, true, true, true, true, true, true, true, true, true, true, true, true, true, true, true, true, true, true, true, true, true, true, true, true, false, false]
def zf50 : Array Bool := #[true, true, true, true, true, true, true, true, true, true, true, true, true, true, true, true, true, true, true, true, true, true, true, true, true, true, true, true, true, true, true, true, true, true, true, true, true, true, true, true, true, true, true, true, true, true, true, true, true, true, false]
def zf51 : Array Bool := #[true, true, true, true, true, true, true, true, true, true, true, true, true, true, true, true, true, true, true, true, true, true, true, true, true, true, true, true, true, true, true, true, true, true, true, true, true, true, true, true, true, true, true, true, true, true, true, true, true, true, true]
def zf52 : Array Bool := #[true, true, true, true, true, true, true, true, true, true, true, true, true, true, true, true, true, true, true, true, true, true, true, true, true, true, true, true, true, true, true, true, true, true, true, false, true, false, false, false, false, false, false, false, false, false, false, false, false, false, false]
def zf53 : Array Bool := #[true, true, true, true, true, true, true, true, true, true, true, true, true, true, true, true, true, true, true, true, true, true, true, true, true, true, true, true, true, true, true, true, true, true, true, false, true, true, false, false, false, false, false, false, false, false, false, false, false, false, false]
def zf54 : Array Bool := #[false, false, false, false, false, false, false, false, false, false, false, false, false]
def zf55 : Array Bool := #[true, false, false, false, false, false, false, false, false, false, false, false, false]
def zf56 : Array Bool := #[true, true, false, false, false, false, false, false, false, false, false, false, false]
def zf57 : Array Bool := #[true, true, true, false, false, false, false, false, false, false, false, false, false]
def zf58 : Array Bool := #[true, true, true, true, false, false, false, false, false, false, false, false, false]
def zf59 : Array Bool := #[true, true, true, true, false, true, false, false, false, false, false, false, false]
def zf60 : Array Bool := #[true, true, true, true, false, true, true, false, false, false, false, false, false]
def zf61 : Array Bool := #[true, true, true, true, true, true, true, false, false, false, false, false, false]
def zf62 : Array Bool := #[true, true, true, true, true, true, true, true, false, false, false, false, false]
def zf63 : Array Bool := #[true, true, true, true, true, true, true, true, true, false, false, false, false]
def zf64 : Array Bool := #[true, true, true, true, true, true, true, true, true, true, false, false, false]
def zf65 : Array Bool := #[true, true, true, true, true, true, true, true, true, true, true, false, false]
def zf66 : Array Bool := #[true, true, true, true, true, true, true, true, true, true, true, true, false]
def zf67 : Array Bool := #[true, true, true, true, true, true, true, true, true, true, true, true, true]
def zf68 : Array Bool := #[true, true, true, true, true, false, false, false, false, false, false, false, false]
def zf69 : Array Bool := #[true, true, true, true, true, true, false, false, false, false, false, false, false]
def zf70 : Array Bool := #[false, false, false, false, false, false, false, false, false, false]
def zf71 : Array Bool := #[true, false, false, false, false, false, false, false, false, false]
def zf72 : Array Bool := #[true, true, false, false, false, false, false, false, false, false]
def zf73 : Array Bool := #[true, true, true, false, false, false, false, false, false, false]
def zf74 : Array Bool := #[true, true, true, false, true, false, false, false, false, false]
def zf75 : Array Bool := #[true, true, true, false, true, true, false, false, false, false]
def zf76 : Array Bool := #[true, true, true, false, true, true, true, false, false, false]
def zf77 : Array Bool := #[true, true, true, true, true, true, true, false, false, false]
def zf78 : Array Bool := #[true, true, true, true, true, true, true, true, false, false]
def zf79 : Array Bool := #[true, true, true, true, true, true, true, true, true, false]
def zf80 : Array Bool := #[true, true, true, true, true, true, true, true, true, true]
end Go.Proofs.Ytflpkbegdmihdaa.QFnExactTableFault
