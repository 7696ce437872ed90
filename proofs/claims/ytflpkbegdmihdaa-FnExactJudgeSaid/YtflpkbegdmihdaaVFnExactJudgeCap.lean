/- make([]T, 0, n): an empty row with room. A law over the print's words. No condition. -/
import Derived.Test.YtflpkbegdmihdaaVFnExactJudgeWWords
import Derived.Test.YtflpkbegdmihdaaVFnExactJudgeWLast
import Derived.Test.YtflpkbegdmihdaaVFnExactJudgeWTab
set_option linter.all false
namespace Go.Proofs.Ytflpkbegdmihdaa.Cap
open Go.RowKit Go.Proofs.YtflpkbegdmihdaaW.PrintWords Go.Proofs.YtflpkbegdmihdaaW.PrintWords.Kd
theorem pz : (∀ (a : Act) (v : Value), a.put none v = a) ∧ (∀ (a : Act) (n : Tmp) (v : Value), a.put (some n) v = { a with tmps := a.tmps.setIfInBounds n v }) ∧ (∀ (l : List Value) (i : Nat) (v : Value), l.toArray.setIfInBounds i v = (l.set i v).toArray) ∧
    (∀ (x : Value) (l : List Value) (v : Value), (x :: l).set 0 v = v :: l) ∧ (∀ (x : Value) (l : List Value) (n : Nat) (v : Value), (x :: l).set (n + 1) v = x :: l.set n v) ∧ (∀ n : Int, IntKind.i64.wrap n = wrap64 n) ∧ (∀ n : Int, IntKind.i32.wrap n = wrap32 n) :=
  ⟨fun _ _ => rfl, fun _ _ _ => rfl, fun _ _ _ => by simp, fun _ _ _ => rfl, fun _ _ _ _ => rfl, Go.Proofs.YtflpkbegdmihdaaW.PrintLast.i64_w, Go.Proofs.YtflpkbegdmihdaaW.PrintLast.i32_w⟩
open Go.Proofs.YtflpkbegdmihdaaW.PrintLast in
theorem pu {P : Program} {ops : Array Oper} {Q : Exit → Act → World → Prop} {md : Region.Mode} {S : World → Prop} {ds : List Nat} {T : Bool × List (List Nat × List Nat)} (i : Nat) (N : Option Tmp) {oi : Oper} {v : Value} {fuel : Nat} {l : Array Bool} {a : Act} {w : World} (l' : Array Bool)
    (HT : Aside0 (rtab md ops = T)) (hi : ops[i]? = some oi) (hN : oi.dst = N) (hc : anyT T l.toList l'.toList i = true) (hQ : ∀ c a w, Q (.panic c) (a.put oi.dst v) w → Q (.panic c) a w) (hy : Yields P ops oi v a) {a' : Act} (ha : a.put N v = a')
    (h : wpAnyLast P md ops Q S ds fuel l' a' w) : wpAnyLast P md ops Q S ds (fuel + 1) l a w := pure_ l' hi hN (any_of HT.out hc) hQ hy ha h
end Go.Proofs.Ytflpkbegdmihdaa.Cap
