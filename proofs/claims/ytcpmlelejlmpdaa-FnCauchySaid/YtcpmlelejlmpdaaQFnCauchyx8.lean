-- A text of this session, printed by a program of its own (wip/tools: xpatch.py, xprint.sh, mkq.py). No condition.
import Derived.Test.YtcpmlelejlmpdaaQFnCauchyx0
import Derived.Test.YtcpmlelejlmpdaaQFnCauchyx1
import Derived.Test.YtcpmlelejlmpdaaQFnCauchyx2
import Derived.Test.YtcpmlelejlmpdaaQFnCauchyx3
import Derived.Test.YtcpmlelejlmpdaaQFnCauchyx6
import Derived.Test.YtcpmlelejlmpdaaQFnCauchyx7
namespace Go.Proofs.Ytcpmlelejlmpdaa.QFnCauchy
open Go.RowKit Go.Proofs.YtcpmlelejlmpdaaW.PrintWords Go.Proofs.YtcpmlelejlmpdaaW.PrintLast Go.Proofs.YtcpmlelejlmpdaaW.PrintMore
attribute [local go_sem] max2_int min2_int max_two min_two max_three min_three max_four min_four   -- for this text's walks alone
set_option linter.unusedVariables false
set_option linter.unusedSimpArgs false

/-! ### laws_FnCauchy: function 10 -/
mutual
def laws_FnCauchy.j0 : Nat → List Int → List Int → Bool → Option (Bool)
  | 0, _, _, _ => none
  | k + 1, x0, x1, x25 => if x25 = true then (some true) else ((laws_lwAt.f x0 0).bind fun t138 => ((laws_lwAt.f x0 1).bind fun t139 => ((impl_Cauchy.f k (wrap64 (1 + (Int.tmod t138 12))) (wrap64 (1 + (Int.tmod t139 12)))).bind fun bt140 => (if bt140.1 = 0 then ((spec_Cauchy.f k (wrap64 (1 + (Int.tmod t138 12))) (wrap64 (1 + (Int.tmod t139 12)))).bind fun bt147 => ((laws_lwMatrix.f k bt140.2.1 bt140.2.2.1 bt140.2.2.2 bt147.2.1 bt147.2.2.1 bt147.2.2.2).bind fun t153 => (laws_FnCauchy.j1 k x1 (wrap64 (1 + (Int.tmod t138 12))) (wrap64 (1 + (Int.tmod t139 12))) (!t153) bt140.1 bt140.2.1 bt140.2.2.1 bt140.2.2.2))) else (laws_FnCauchy.j1 k x1 (wrap64 (1 + (Int.tmod t138 12))) (wrap64 (1 + (Int.tmod t139 12))) true bt140.1 bt140.2.1 bt140.2.2.1 bt140.2.2.2)))))
def laws_FnCauchy.j1 : Nat → List Int → Int → Int → Bool → Int → Int → Int → List Int → Option (Bool)
  | 0, _, _, _, _, _, _, _, _ => none
  | k + 1, x1, x5, x6, x49, x147000, x147001, x147002, x147003 => if x49 = true then (some false) else (laws_FnCauchy.l0 k x1 x5 x6 (([] : List Int)) 0 x147000 x147001 x147002 x147003)
def laws_FnCauchy.l0 : Nat → List Int → Int → Int → List Int → Int → Int → Int → Int → List Int → Option (Bool)
  | 0, _, _, _, _, _, _, _, _, _ => none
  | k + 1, x1, x5, x6, x8, x9, x147000, x147001, x147002, x147003 => if x9 < 20 then (laws_FnCauchy.j3 k x1 x5 x6 x8 x9 (decide ((x8.length : Int) < 6)) x147000 x147001 x147002 x147003) else (laws_FnCauchy.j3 k x1 x5 x6 x8 x9 false x147000 x147001 x147002 x147003)
def laws_FnCauchy.j3 : Nat → List Int → Int → Int → List Int → Int → Bool → Int → Int → Int → List Int → Option (Bool)
  | 0, _, _, _, _, _, _, _, _, _, _ => none
  | k + 1, x1, x5, x6, x8, x9, x57, x147000, x147001, x147002, x147003 => if x57 = true then ((laws_lwAt.f x1 x9).bind fun t157 => (if x5 = 0 then (none) else ((laws_lwHas.f k x8 (Int.tmod t157 x5)).bind fun t158 => (if t158 = true then (laws_FnCauchy.l0 k x1 x5 x6 x8 (wrap64 (x9 + 1)) x147000 x147001 x147002 x147003) else (if x8.length < 17592186044416 then (laws_FnCauchy.l0 k x1 x5 x6 (x8 ++ [Int.tmod t157 x5]) (wrap64 (x9 + 1)) x147000 x147001 x147002 x147003) else (none)))))) else (laws_FnCauchy.l1 k x1 x6 x8 (([] : List Int)) 0 x147000 x147001 x147002 x147003)
def laws_FnCauchy.l1 : Nat → List Int → Int → List Int → List Int → Int → Int → Int → Int → List Int → Option (Bool)
  | 0, _, _, _, _, _, _, _, _, _ => none
  | k + 1, x1, x6, x8, x11, x12, x147000, x147001, x147002, x147003 => if x12 < 40 then (laws_FnCauchy.j5 k x1 x6 x8 x11 x12 (decide ((x11.length : Int) < (x8.length : Int))) x147000 x147001 x147002 x147003) else (laws_FnCauchy.j5 k x1 x6 x8 x11 x12 false x147000 x147001 x147002 x147003)
def laws_FnCauchy.j5 : Nat → List Int → Int → List Int → List Int → Int → Bool → Int → Int → Int → List Int → Option (Bool)
  | 0, _, _, _, _, _, _, _, _, _, _ => none
  | k + 1, x1, x6, x8, x11, x12, x82, x147000, x147001, x147002, x147003 => if x82 = true then ((laws_lwAt.f x1 (wrap64 (20 + x12))).bind fun t165 => (if x6 = 0 then (none) else ((laws_lwHas.f k x11 (Int.tmod t165 x6)).bind fun t166 => (if t166 = true then (laws_FnCauchy.l1 k x1 x6 x8 x11 (wrap64 (x12 + 1)) x147000 x147001 x147002 x147003) else (if x11.length < 17592186044416 then (laws_FnCauchy.l1 k x1 x6 x8 (x11 ++ [Int.tmod t165 x6]) (wrap64 (x12 + 1)) x147000 x147001 x147002 x147003) else (none)))))) else (laws_FnCauchy.l2 k x6 x8 x11 (x11.length : Int) 0 x147000 x147001 x147002 x147003 (x11.length : Int) (x11.length : Int) ([] : List Int))
def laws_FnCauchy.l2 : Nat → Int → List Int → List Int → Int → Int → Int → Int → Int → List Int → Int → Int → List Int → Option (Bool)
  | 0, _, _, _, _, _, _, _, _, _, _, _, _ => none
  | k + 1, x6, x8, x11, x14, x16, x147000, x147001, x147002, x147003, x171000, x171001, x171002 => if x16 < x14 then (laws_FnCauchy.l3 k x6 x8 x11 x14 x16 0 x147000 x147001 x147002 x147003 x171000 x171001 x171002) else ((impl_MatRank.f k x171000 x171001 x171002).bind fun t171 => (if t171 = x14 then ((impl_MatInv.f k x171000 x171001 x171002).bind fun bt172 => (some (bt172.1 == 0))) else (some false)))
def laws_FnCauchy.l3 : Nat → Int → List Int → List Int → Int → Int → Int → Int → Int → Int → List Int → Int → Int → List Int → Option (Bool)
  | 0, _, _, _, _, _, _, _, _, _, _, _, _, _ => none
  | k + 1, x6, x8, x11, x14, x16, x17, x147000, x147001, x147002, x147003, x171000, x171001, x171002 => if x17 < x14 then (if 0 ≤ x16 then (if x16 < (x8.length : Int) then (if 0 ≤ x17 then (if x17 < (x11.length : Int) then (if 0 ≤ (wrap64 ((wrap64 ((rd x8 x16) * x6)) + (rd x11 x17))) then (if (wrap64 ((wrap64 ((rd x8 x16) * x6)) + (rd x11 x17))) < (x147003.length : Int) then (if x171002.length < 17592186044416 then (laws_FnCauchy.l3 k x6 x8 x11 x14 x16 (wrap64 (x17 + 1)) x147000 x147001 x147002 x147003 x171000 x171001 (x171002 ++ [rd x147003 (wrap64 ((wrap64 ((rd x8 x16) * x6)) + (rd x11 x17)))])) else (none)) else (none)) else (none)) else (none)) else (none)) else (none)) else (none)) else (laws_FnCauchy.l2 k x6 x8 x11 x14 (wrap64 (x16 + 1)) x147000 x147001 x147002 x147003 x171000 x171001 x171002)
end
def laws_FnCauchy.f (k : Nat) (l0 : List Int) (l1 : List Int) : Option (Bool) := if (l0.length : Int) > 1048576 then (laws_FnCauchy.j0 k l0 l1 true) else (laws_FnCauchy.j0 k l0 l1 (decide ((l1.length : Int) > 1048576)))
theorem laws_FnCauchy.mono_l : ∀ k, (∀ y0 y1 y2, LeO (laws_FnCauchy.j0 k y0 y1 y2) (laws_FnCauchy.j0 (k + 1) y0 y1 y2)) ∧ (∀ y0 y1 y2 y3 y4 y5 y6 y7, LeO (laws_FnCauchy.j1 k y0 y1 y2 y3 y4 y5 y6 y7) (laws_FnCauchy.j1 (k + 1) y0 y1 y2 y3 y4 y5 y6 y7)) ∧ (∀ y0 y1 y2 y3 y4 y5 y6 y7 y8, LeO (laws_FnCauchy.l0 k y0 y1 y2 y3 y4 y5 y6 y7 y8) (laws_FnCauchy.l0 (k + 1) y0 y1 y2 y3 y4 y5 y6 y7 y8)) ∧ (∀ y0 y1 y2 y3 y4 y5 y6 y7 y8 y9, LeO (laws_FnCauchy.j3 k y0 y1 y2 y3 y4 y5 y6 y7 y8 y9) (laws_FnCauchy.j3 (k + 1) y0 y1 y2 y3 y4 y5 y6 y7 y8 y9)) ∧ (∀ y0 y1 y2 y3 y4 y5 y6 y7 y8, LeO (laws_FnCauchy.l1 k y0 y1 y2 y3 y4 y5 y6 y7 y8) (laws_FnCauchy.l1 (k + 1) y0 y1 y2 y3 y4 y5 y6 y7 y8)) ∧ (∀ y0 y1 y2 y3 y4 y5 y6 y7 y8 y9, LeO (laws_FnCauchy.j5 k y0 y1 y2 y3 y4 y5 y6 y7 y8 y9) (laws_FnCauchy.j5 (k + 1) y0 y1 y2 y3 y4 y5 y6 y7 y8 y9)) ∧ (∀ y0 y1 y2 y3 y4 y5 y6 y7 y8 y9 y10 y11, LeO (laws_FnCauchy.l2 k y0 y1 y2 y3 y4 y5 y6 y7 y8 y9 y10 y11) (laws_FnCauchy.l2 (k + 1) y0 y1 y2 y3 y4 y5 y6 y7 y8 y9 y10 y11)) ∧ (∀ y0 y1 y2 y3 y4 y5 y6 y7 y8 y9 y10 y11 y12, LeO (laws_FnCauchy.l3 k y0 y1 y2 y3 y4 y5 y6 y7 y8 y9 y10 y11 y12) (laws_FnCauchy.l3 (k + 1) y0 y1 y2 y3 y4 y5 y6 y7 y8 y9 y10 y11 y12))
  | 0 => ⟨fun _ _ _ r h => by simp [laws_FnCauchy.j0] at h, fun _ _ _ _ _ _ _ _ r h => by simp [laws_FnCauchy.j1] at h, fun _ _ _ _ _ _ _ _ _ r h => by simp [laws_FnCauchy.l0] at h, fun _ _ _ _ _ _ _ _ _ _ r h => by simp [laws_FnCauchy.j3] at h, fun _ _ _ _ _ _ _ _ _ r h => by simp [laws_FnCauchy.l1] at h, fun _ _ _ _ _ _ _ _ _ _ r h => by simp [laws_FnCauchy.j5] at h, fun _ _ _ _ _ _ _ _ _ _ _ _ r h => by simp [laws_FnCauchy.l2] at h, fun _ _ _ _ _ _ _ _ _ _ _ _ _ r h => by simp [laws_FnCauchy.l3] at h⟩
  | k + 1 => by
    obtain ⟨ih0, ih1, ih2, ih3, ih4, ih5, ih6, ih7⟩ := laws_FnCauchy.mono_l k
    refine ⟨?_, ?_, ?_, ?_, ?_, ?_, ?_, ?_⟩
    · intro y0 y1 y2
      unfold laws_FnCauchy.j0
      repeat' first
      | (with_reducible exact ih0 _ _ _)
      | (with_reducible exact ih1 _ _ _ _ _ _ _ _)
      | (with_reducible exact ih2 _ _ _ _ _ _ _ _ _)
      | (with_reducible exact ih3 _ _ _ _ _ _ _ _ _ _)
      | (with_reducible exact ih4 _ _ _ _ _ _ _ _ _)
      | (with_reducible exact ih5 _ _ _ _ _ _ _ _ _ _)
      | (with_reducible exact ih6 _ _ _ _ _ _ _ _ _ _ _ _)
      | (with_reducible exact ih7 _ _ _ _ _ _ _ _ _ _ _ _ _)
      | (with_reducible exact impl_Cauchy.mono _ _ _)
      | (with_reducible exact impl_MatInv.mono _ _ _ _)
      | (with_reducible exact impl_MatRank.mono _ _ _ _)
      | (with_reducible exact laws_lwHas.mono _ _ _)
      | (with_reducible exact laws_lwMatrix.mono _ _ _ _ _ _ _)
      | (with_reducible exact spec_Cauchy.mono _ _ _)
      | (with_reducible exact LeO.refl _)
      | (with_reducible exact LeO.none _)
      | (with_reducible refine LeO.ite ?_ ?_)
      | (with_reducible refine LeO.bind ?_ (fun _ => ?_))
      | exact ih0 _ _ _
      | exact ih1 _ _ _ _ _ _ _ _
      | exact ih2 _ _ _ _ _ _ _ _ _
      | exact ih3 _ _ _ _ _ _ _ _ _ _
      | exact ih4 _ _ _ _ _ _ _ _ _
      | exact ih5 _ _ _ _ _ _ _ _ _ _
      | exact ih6 _ _ _ _ _ _ _ _ _ _ _ _
      | exact ih7 _ _ _ _ _ _ _ _ _ _ _ _ _
      | exact impl_Cauchy.mono _ _ _
      | exact impl_MatInv.mono _ _ _ _
      | exact impl_MatRank.mono _ _ _ _
      | exact laws_lwHas.mono _ _ _
      | exact laws_lwMatrix.mono _ _ _ _ _ _ _
      | exact spec_Cauchy.mono _ _ _
      | exact LeO.none _
      | refine LeO.ite ?_ ?_
      | refine LeO.bind ?_ (fun _ => ?_)
    · intro y0 y1 y2 y3 y4 y5 y6 y7
      unfold laws_FnCauchy.j1
      repeat' first
      | (with_reducible exact ih0 _ _ _)
      | (with_reducible exact ih1 _ _ _ _ _ _ _ _)
      | (with_reducible exact ih2 _ _ _ _ _ _ _ _ _)
      | (with_reducible exact ih3 _ _ _ _ _ _ _ _ _ _)
      | (with_reducible exact ih4 _ _ _ _ _ _ _ _ _)
      | (with_reducible exact ih5 _ _ _ _ _ _ _ _ _ _)
      | (with_reducible exact ih6 _ _ _ _ _ _ _ _ _ _ _ _)
      | (with_reducible exact ih7 _ _ _ _ _ _ _ _ _ _ _ _ _)
      | (with_reducible exact impl_Cauchy.mono _ _ _)
      | (with_reducible exact impl_MatInv.mono _ _ _ _)
      | (with_reducible exact impl_MatRank.mono _ _ _ _)
      | (with_reducible exact laws_lwHas.mono _ _ _)
      | (with_reducible exact laws_lwMatrix.mono _ _ _ _ _ _ _)
      | (with_reducible exact spec_Cauchy.mono _ _ _)
      | (with_reducible exact LeO.refl _)
      | (with_reducible exact LeO.none _)
      | (with_reducible refine LeO.ite ?_ ?_)
      | (with_reducible refine LeO.bind ?_ (fun _ => ?_))
      | exact ih0 _ _ _
      | exact ih1 _ _ _ _ _ _ _ _
      | exact ih2 _ _ _ _ _ _ _ _ _
      | exact ih3 _ _ _ _ _ _ _ _ _ _
      | exact ih4 _ _ _ _ _ _ _ _ _
      | exact ih5 _ _ _ _ _ _ _ _ _ _
      | exact ih6 _ _ _ _ _ _ _ _ _ _ _ _
      | exact ih7 _ _ _ _ _ _ _ _ _ _ _ _ _
      | exact impl_Cauchy.mono _ _ _
      | exact impl_MatInv.mono _ _ _ _
      | exact impl_MatRank.mono _ _ _ _
      | exact laws_lwHas.mono _ _ _
      | exact laws_lwMatrix.mono _ _ _ _ _ _ _
      | exact spec_Cauchy.mono _ _ _
      | exact LeO.none _
      | refine LeO.ite ?_ ?_
      | refine LeO.bind ?_ (fun _ => ?_)
    · intro y0 y1 y2 y3 y4 y5 y6 y7 y8
      unfold laws_FnCauchy.l0
      repeat' first
      | (with_reducible exact ih0 _ _ _)
      | (with_reducible exact ih1 _ _ _ _ _ _ _ _)
      | (with_reducible exact ih2 _ _ _ _ _ _ _ _ _)
      | (with_reducible exact ih3 _ _ _ _ _ _ _ _ _ _)
      | (with_reducible exact ih4 _ _ _ _ _ _ _ _ _)
      | (with_reducible exact ih5 _ _ _ _ _ _ _ _ _ _)
      | (with_reducible exact ih6 _ _ _ _ _ _ _ _ _ _ _ _)
      | (with_reducible exact ih7 _ _ _ _ _ _ _ _ _ _ _ _ _)
      | (with_reducible exact impl_Cauchy.mono _ _ _)
      | (with_reducible exact impl_MatInv.mono _ _ _ _)
      | (with_reducible exact impl_MatRank.mono _ _ _ _)
      | (with_reducible exact laws_lwHas.mono _ _ _)
      | (with_reducible exact laws_lwMatrix.mono _ _ _ _ _ _ _)
      | (with_reducible exact spec_Cauchy.mono _ _ _)
      | (with_reducible exact LeO.refl _)
      | (with_reducible exact LeO.none _)
      | (with_reducible refine LeO.ite ?_ ?_)
      | (with_reducible refine LeO.bind ?_ (fun _ => ?_))
      | exact ih0 _ _ _
      | exact ih1 _ _ _ _ _ _ _ _
      | exact ih2 _ _ _ _ _ _ _ _ _
      | exact ih3 _ _ _ _ _ _ _ _ _ _
      | exact ih4 _ _ _ _ _ _ _ _ _
      | exact ih5 _ _ _ _ _ _ _ _ _ _
      | exact ih6 _ _ _ _ _ _ _ _ _ _ _ _
      | exact ih7 _ _ _ _ _ _ _ _ _ _ _ _ _
      | exact impl_Cauchy.mono _ _ _
      | exact impl_MatInv.mono _ _ _ _
      | exact impl_MatRank.mono _ _ _ _
      | exact laws_lwHas.mono _ _ _
      | exact laws_lwMatrix.mono _ _ _ _ _ _ _
      | exact spec_Cauchy.mono _ _ _
      | exact LeO.none _
      | refine LeO.ite ?_ ?_
      | refine LeO.bind ?_ (fun _ => ?_)
    · intro y0 y1 y2 y3 y4 y5 y6 y7 y8 y9
      unfold laws_FnCauchy.j3
      repeat' first
      | (with_reducible exact ih0 _ _ _)
      | (with_reducible exact ih1 _ _ _ _ _ _ _ _)
      | (with_reducible exact ih2 _ _ _ _ _ _ _ _ _)
      | (with_reducible exact ih3 _ _ _ _ _ _ _ _ _ _)
      | (with_reducible exact ih4 _ _ _ _ _ _ _ _ _)
      | (with_reducible exact ih5 _ _ _ _ _ _ _ _ _ _)
      | (with_reducible exact ih6 _ _ _ _ _ _ _ _ _ _ _ _)
      | (with_reducible exact ih7 _ _ _ _ _ _ _ _ _ _ _ _ _)
      | (with_reducible exact impl_Cauchy.mono _ _ _)
      | (with_reducible exact impl_MatInv.mono _ _ _ _)
      | (with_reducible exact impl_MatRank.mono _ _ _ _)
      | (with_reducible exact laws_lwHas.mono _ _ _)
      | (with_reducible exact laws_lwMatrix.mono _ _ _ _ _ _ _)
      | (with_reducible exact spec_Cauchy.mono _ _ _)
      | (with_reducible exact LeO.refl _)
      | (with_reducible exact LeO.none _)
      | (with_reducible refine LeO.ite ?_ ?_)
      | (with_reducible refine LeO.bind ?_ (fun _ => ?_))
      | exact ih0 _ _ _
      | exact ih1 _ _ _ _ _ _ _ _
      | exact ih2 _ _ _ _ _ _ _ _ _
      | exact ih3 _ _ _ _ _ _ _ _ _ _
      | exact ih4 _ _ _ _ _ _ _ _ _
      | exact ih5 _ _ _ _ _ _ _ _ _ _
      | exact ih6 _ _ _ _ _ _ _ _ _ _ _ _
      | exact ih7 _ _ _ _ _ _ _ _ _ _ _ _ _
      | exact impl_Cauchy.mono _ _ _
      | exact impl_MatInv.mono _ _ _ _
      | exact impl_MatRank.mono _ _ _ _
      | exact laws_lwHas.mono _ _ _
      | exact laws_lwMatrix.mono _ _ _ _ _ _ _
      | exact spec_Cauchy.mono _ _ _
      | exact LeO.none _
      | refine LeO.ite ?_ ?_
      | refine LeO.bind ?_ (fun _ => ?_)
    · intro y0 y1 y2 y3 y4 y5 y6 y7 y8
      unfold laws_FnCauchy.l1
      repeat' first
      | (with_reducible exact ih0 _ _ _)
      | (with_reducible exact ih1 _ _ _ _ _ _ _ _)
      | (with_reducible exact ih2 _ _ _ _ _ _ _ _ _)
      | (with_reducible exact ih3 _ _ _ _ _ _ _ _ _ _)
      | (with_reducible exact ih4 _ _ _ _ _ _ _ _ _)
      | (with_reducible exact ih5 _ _ _ _ _ _ _ _ _ _)
      | (with_reducible exact ih6 _ _ _ _ _ _ _ _ _ _ _ _)
      | (with_reducible exact ih7 _ _ _ _ _ _ _ _ _ _ _ _ _)
      | (with_reducible exact impl_Cauchy.mono _ _ _)
      | (with_reducible exact impl_MatInv.mono _ _ _ _)
      | (with_reducible exact impl_MatRank.mono _ _ _ _)
      | (with_reducible exact laws_lwHas.mono _ _ _)
      | (with_reducible exact laws_lwMatrix.mono _ _ _ _ _ _ _)
      | (with_reducible exact spec_Cauchy.mono _ _ _)
      | (with_reducible exact LeO.refl _)
      | (with_reducible exact LeO.none _)
      | (with_reducible refine LeO.ite ?_ ?_)
      | (with_reducible refine LeO.bind ?_ (fun _ => ?_))
      | exact ih0 _ _ _
      | exact ih1 _ _ _ _ _ _ _ _
      | exact ih2 _ _ _ _ _ _ _ _ _
      | exact ih3 _ _ _ _ _ _ _ _ _ _
      | exact ih4 _ _ _ _ _ _ _ _ _
      | exact ih5 _ _ _ _ _ _ _ _ _ _
      | exact ih6 _ _ _ _ _ _ _ _ _ _ _ _
      | exact ih7 _ _ _ _ _ _ _ _ _ _ _ _ _
      | exact impl_Cauchy.mono _ _ _
      | exact impl_MatInv.mono _ _ _ _
      | exact impl_MatRank.mono _ _ _ _
      | exact laws_lwHas.mono _ _ _
      | exact laws_lwMatrix.mono _ _ _ _ _ _ _
      | exact spec_Cauchy.mono _ _ _
      | exact LeO.none _
      | refine LeO.ite ?_ ?_
      | refine LeO.bind ?_ (fun _ => ?_)
    · intro y0 y1 y2 y3 y4 y5 y6 y7 y8 y9
      unfold laws_FnCauchy.j5
      repeat' first
      | (with_reducible exact ih0 _ _ _)
      | (with_reducible exact ih1 _ _ _ _ _ _ _ _)
      | (with_reducible exact ih2 _ _ _ _ _ _ _ _ _)
      | (with_reducible exact ih3 _ _ _ _ _ _ _ _ _ _)
      | (with_reducible exact ih4 _ _ _ _ _ _ _ _ _)
      | (with_reducible exact ih5 _ _ _ _ _ _ _ _ _ _)
      | (with_reducible exact ih6 _ _ _ _ _ _ _ _ _ _ _ _)
      | (with_reducible exact ih7 _ _ _ _ _ _ _ _ _ _ _ _ _)
      | (with_reducible exact impl_Cauchy.mono _ _ _)
      | (with_reducible exact impl_MatInv.mono _ _ _ _)
      | (with_reducible exact impl_MatRank.mono _ _ _ _)
      | (with_reducible exact laws_lwHas.mono _ _ _)
      | (with_reducible exact laws_lwMatrix.mono _ _ _ _ _ _ _)
      | (with_reducible exact spec_Cauchy.mono _ _ _)
      | (with_reducible exact LeO.refl _)
      | (with_reducible exact LeO.none _)
      | (with_reducible refine LeO.ite ?_ ?_)
      | (with_reducible refine LeO.bind ?_ (fun _ => ?_))
      | exact ih0 _ _ _
      | exact ih1 _ _ _ _ _ _ _ _
      | exact ih2 _ _ _ _ _ _ _ _ _
      | exact ih3 _ _ _ _ _ _ _ _ _ _
      | exact ih4 _ _ _ _ _ _ _ _ _
      | exact ih5 _ _ _ _ _ _ _ _ _ _
      | exact ih6 _ _ _ _ _ _ _ _ _ _ _ _
      | exact ih7 _ _ _ _ _ _ _ _ _ _ _ _ _
      | exact impl_Cauchy.mono _ _ _
      | exact impl_MatInv.mono _ _ _ _
      | exact impl_MatRank.mono _ _ _ _
      | exact laws_lwHas.mono _ _ _
      | exact laws_lwMatrix.mono _ _ _ _ _ _ _
      | exact spec_Cauchy.mono _ _ _
      | exact LeO.none _
      | refine LeO.ite ?_ ?_
      | refine LeO.bind ?_ (fun _ => ?_)
    · intro y0 y1 y2 y3 y4 y5 y6 y7 y8 y9 y10 y11
      unfold laws_FnCauchy.l2
      repeat' first
      | (with_reducible exact ih0 _ _ _)
      | (with_reducible exact ih1 _ _ _ _ _ _ _ _)
      | (with_reducible exact ih2 _ _ _ _ _ _ _ _ _)
      | (with_reducible exact ih3 _ _ _ _ _ _ _ _ _ _)
      | (with_reducible exact ih4 _ _ _ _ _ _ _ _ _)
      | (with_reducible exact ih5 _ _ _ _ _ _ _ _ _ _)
      | (with_reducible exact ih6 _ _ _ _ _ _ _ _ _ _ _ _)
      | (with_reducible exact ih7 _ _ _ _ _ _ _ _ _ _ _ _ _)
      | (with_reducible exact impl_Cauchy.mono _ _ _)
      | (with_reducible exact impl_MatInv.mono _ _ _ _)
      | (with_reducible exact impl_MatRank.mono _ _ _ _)
      | (with_reducible exact laws_lwHas.mono _ _ _)
      | (with_reducible exact laws_lwMatrix.mono _ _ _ _ _ _ _)
      | (with_reducible exact spec_Cauchy.mono _ _ _)
      | (with_reducible exact LeO.refl _)
      | (with_reducible exact LeO.none _)
      | (with_reducible refine LeO.ite ?_ ?_)
      | (with_reducible refine LeO.bind ?_ (fun _ => ?_))
      | exact ih0 _ _ _
      | exact ih1 _ _ _ _ _ _ _ _
      | exact ih2 _ _ _ _ _ _ _ _ _
      | exact ih3 _ _ _ _ _ _ _ _ _ _
      | exact ih4 _ _ _ _ _ _ _ _ _
      | exact ih5 _ _ _ _ _ _ _ _ _ _
      | exact ih6 _ _ _ _ _ _ _ _ _ _ _ _
      | exact ih7 _ _ _ _ _ _ _ _ _ _ _ _ _
      | exact impl_Cauchy.mono _ _ _
      | exact impl_MatInv.mono _ _ _ _
      | exact impl_MatRank.mono _ _ _ _
      | exact laws_lwHas.mono _ _ _
      | exact laws_lwMatrix.mono _ _ _ _ _ _ _
      | exact spec_Cauchy.mono _ _ _
      | exact LeO.none _
      | refine LeO.ite ?_ ?_
      | refine LeO.bind ?_ (fun _ => ?_)
    · intro y0 y1 y2 y3 y4 y5 y6 y7 y8 y9 y10 y11 y12
      unfold laws_FnCauchy.l3
      repeat' first
      | (with_reducible exact ih0 _ _ _)
      | (with_reducible exact ih1 _ _ _ _ _ _ _ _)
      | (with_reducible exact ih2 _ _ _ _ _ _ _ _ _)
      | (with_reducible exact ih3 _ _ _ _ _ _ _ _ _ _)
      | (with_reducible exact ih4 _ _ _ _ _ _ _ _ _)
      | (with_reducible exact ih5 _ _ _ _ _ _ _ _ _ _)
      | (with_reducible exact ih6 _ _ _ _ _ _ _ _ _ _ _ _)
      | (with_reducible exact ih7 _ _ _ _ _ _ _ _ _ _ _ _ _)
      | (with_reducible exact impl_Cauchy.mono _ _ _)
      | (with_reducible exact impl_MatInv.mono _ _ _ _)
      | (with_reducible exact impl_MatRank.mono _ _ _ _)
      | (with_reducible exact laws_lwHas.mono _ _ _)
      | (with_reducible exact laws_lwMatrix.mono _ _ _ _ _ _ _)
      | (with_reducible exact spec_Cauchy.mono _ _ _)
      | (with_reducible exact LeO.refl _)
      | (with_reducible exact LeO.none _)
      | (with_reducible refine LeO.ite ?_ ?_)
      | (with_reducible refine LeO.bind ?_ (fun _ => ?_))
      | exact ih0 _ _ _
      | exact ih1 _ _ _ _ _ _ _ _
      | exact ih2 _ _ _ _ _ _ _ _ _
      | exact ih3 _ _ _ _ _ _ _ _ _ _
      | exact ih4 _ _ _ _ _ _ _ _ _
      | exact ih5 _ _ _ _ _ _ _ _ _ _
      | exact ih6 _ _ _ _ _ _ _ _ _ _ _ _
      | exact ih7 _ _ _ _ _ _ _ _ _ _ _ _ _
      | exact impl_Cauchy.mono _ _ _
      | exact impl_MatInv.mono _ _ _ _
      | exact impl_MatRank.mono _ _ _ _
      | exact laws_lwHas.mono _ _ _
      | exact laws_lwMatrix.mono _ _ _ _ _ _ _
      | exact spec_Cauchy.mono _ _ _
      | exact LeO.none _
      | refine LeO.ite ?_ ?_
      | refine LeO.bind ?_ (fun _ => ?_)
theorem laws_FnCauchy.mono : ∀ a0 a1 k, LeO (laws_FnCauchy.f k a0 a1) (laws_FnCauchy.f (k + 1) a0 a1) := by
  intro a0 a1 k
  obtain ⟨ih0, ih1, ih2, ih3, ih4, ih5, ih6, ih7⟩ := laws_FnCauchy.mono_l k
  unfold laws_FnCauchy.f
  repeat' first
      | (with_reducible exact ih0 _ _ _)
      | (with_reducible exact ih1 _ _ _ _ _ _ _ _)
      | (with_reducible exact ih2 _ _ _ _ _ _ _ _ _)
      | (with_reducible exact ih3 _ _ _ _ _ _ _ _ _ _)
      | (with_reducible exact ih4 _ _ _ _ _ _ _ _ _)
      | (with_reducible exact ih5 _ _ _ _ _ _ _ _ _ _)
      | (with_reducible exact ih6 _ _ _ _ _ _ _ _ _ _ _ _)
      | (with_reducible exact ih7 _ _ _ _ _ _ _ _ _ _ _ _ _)
      | (with_reducible exact impl_Cauchy.mono _ _ _)
      | (with_reducible exact impl_MatInv.mono _ _ _ _)
      | (with_reducible exact impl_MatRank.mono _ _ _ _)
      | (with_reducible exact laws_lwHas.mono _ _ _)
      | (with_reducible exact laws_lwMatrix.mono _ _ _ _ _ _ _)
      | (with_reducible exact spec_Cauchy.mono _ _ _)
      | (with_reducible exact LeO.refl _)
      | (with_reducible exact LeO.none _)
      | (with_reducible refine LeO.ite ?_ ?_)
      | (with_reducible refine LeO.bind ?_ (fun _ => ?_))
      | exact ih0 _ _ _
      | exact ih1 _ _ _ _ _ _ _ _
      | exact ih2 _ _ _ _ _ _ _ _ _
      | exact ih3 _ _ _ _ _ _ _ _ _ _
      | exact ih4 _ _ _ _ _ _ _ _ _
      | exact ih5 _ _ _ _ _ _ _ _ _ _
      | exact ih6 _ _ _ _ _ _ _ _ _ _ _ _
      | exact ih7 _ _ _ _ _ _ _ _ _ _ _ _ _
      | exact impl_Cauchy.mono _ _ _
      | exact impl_MatInv.mono _ _ _ _
      | exact impl_MatRank.mono _ _ _ _
      | exact laws_lwHas.mono _ _ _
      | exact laws_lwMatrix.mono _ _ _ _ _ _ _
      | exact spec_Cauchy.mono _ _ _
      | exact LeO.none _
      | refine LeO.ite ?_ ?_
      | refine LeO.bind ?_ (fun _ => ?_)
def laws_FnCauchy.T6 : Bool × List (List Nat × List Nat) := (true, [([], []), ([0], [0]), ([1], [1]), ([2], [2]), ([3], [3]), ([4, 3], [3, 4]), ([3], [3]), ([3], [3]), ([6, 7, 3, 3], [3, 6, 7]), ([8, 3], [3, 8]), ([5, 9, 8, 3], [3, 5, 9]), ([10, 3], [3, 10]), ([3, 11], [3, 11])])
def laws_FnCauchy.B6 : List Nat := [0, 1, 3, 7, 15, 31, 15, 15, 207, 463, 1023, 2047, 4095]
theorem laws_FnCauchy.tab6 : rtab .any (opsOf Try.f10 6) = laws_FnCauchy.T6 := by kernel_rfl
theorem laws_FnCauchy.bits6 : waitsOk laws_FnCauchy.T6.2 laws_FnCauchy.B6 = true := by kernel_rfl
def laws_FnCauchy.T30 : Bool × List (List Nat × List Nat) := (true, [([], []), ([0], [0]), ([], []), ([2], [2]), ([3], [3]), ([], []), ([], []), ([5, 6], [5, 6]), ([7], [7]), ([], []), ([8, 9], [8, 9]), ([], []), ([], []), ([11, 12], [11, 12]), ([13], [13]), ([10, 14], [10, 14]), ([4, 15], [4, 15]), ([16], [16]), ([17], [17]), ([1, 18], [1, 18]), ([0, 1, 2, 3, 4, 5, 6, 7, 8, 9, 10, 11, 12, 13, 14, 15, 16, 17, 18, 19], []), ([20, 19, 19, 0, 1, 2, 3, 4, 5, 6, 7, 8, 9, 10, 11, 12, 13, 14, 15, 16, 17, 18, 19], [19, 20])])
def laws_FnCauchy.B30 : List Nat := [0, 1, 0, 4, 12, 0, 0, 96, 224, 0, 992, 0, 0, 6144, 14336, 32736, 65532, 131068, 262140, 524287, 1048575, 2097151]
theorem laws_FnCauchy.tab30 : rtab .any (opsOf Try.f10 30) = laws_FnCauchy.T30 := by kernel_rfl
theorem laws_FnCauchy.bits30 : waitsOk laws_FnCauchy.T30.2 laws_FnCauchy.B30 = true := by kernel_rfl
set_option maxHeartbeats 8000000 in
set_option maxRecDepth 100000 in
theorem laws_FnCauchy.calls (k : Nat) (A0 : Option Addr) (c0 : Nat) (l0 : List Int) (A1 : Option Addr) (c1 : Nat) (l1 : List Int) (r : Bool) (w : World) (hr0 : Kd.C (Kd.int .u8) w A0 l0.length l0) (hc0 : l0.length ≤ c0) (hr1 : Kd.C (Kd.int .u8) w A1 l1.length l1) (hc1 : l1.length ≤ c1) (h : laws_FnCauchy.f k l0 l1 = some r) :
    Calls Try.prog 10 #[.slice A0 l0.length c0, .slice A1 l1.length c1] w fun e w' => e = .returned (.bool r) ∧ Below w.heap.size w w' := by
  have hfld0_ : ∀ (x0 : Int) (x1 : Int) (x2 : Int) (v3 : Value) (w : World), (Instr.field 36 (.agg #[.int .i64 x0, .int .i64 x1, .int .i64 x2, v3]) 0).run Try.prog w = .ok (.int .i64 x0) w := fun _ _ _ _ _ => by kernel_rfl
  have hfld1_ : ∀ (x0 : Int) (x1 : Int) (x2 : Int) (A3 : Option Addr) (n3 c3 : Nat) (w : World), (Instr.field 36 (.agg #[.int .i64 x0, .int .i64 x1, .int .i64 x2, .slice A3 n3 c3]) 1).run Try.prog w = .ok (.agg #[.int .i64 x1, .int .i64 x2, .slice A3 n3 c3]) w := fun _ _ _ _ _ _ _ => by kernel_rfl
  have hu36 := Try.underlying36
  have hu34 := Try.underlying34
  have HR0 := Aside0.mk hr0
  have HC0 := Aside0.mk hc0
  clear hr0 hc0
  have HR1 := Aside0.mk hr1
  have HC1 := Aside0.mk hc1
  clear hr1 hc1
  have HB := Aside0.mk (Below.refl w.heap.size w)
  have H : (if (l0.length : Int) > 1048576 then (laws_FnCauchy.j0 k l0 l1 true) else (laws_FnCauchy.j0 k l0 l1 (decide ((l1.length : Int) > 1048576)))) = some r := h
  clear h
  have HC3 := Aside0.mk H
  clear H
  go_enter Try.func10, Try.ntmps10
  go_upto_region 1 with (fail)
  go_cut [25] (fun v25 wc => ∃ (kq : Nat) (x25_2 : Bool), v25 = .bool x25_2 ∧ Aside0 (laws_FnCauchy.j0 kq l0 l1 x25_2 = some r) ∧ Aside0 (kq ≤ k) ∧ Aside0 (Below w.heap.size w wc))
  case first =>
    have H := HC3.out
    clear HC3
    by_cases c4 : (l0.length : Int) > 1048576
    · rw [if_pos c4] at H
      have c4b0 : decide (1048576 < (l0.length : Int)) = true := decide_eq_true c4
      have c4b1 : decide (1048576 < l0.length) = true := decide_eq_true (by omega)
      clear c4
      (first | rw [c4b0] | (simp only [i64_w, i32_w]; rw [c4b0]) | skip)
      have H' := Aside0.mk H
      clear H
      go_wp2
      go_meet
      case rel => exact ⟨_, (true), (by first | rfl | (simp; done) | (simp [*]; done)), H', ⟨by first | omega | exact Nat.le_refl _⟩, ⟨by repeat (first | (with_reducible first | exact HB.out | apply below_alloc | apply pw_below_drewN | apply below_drew1) | exact HB.out)⟩⟩
    · rw [if_neg c4] at H
      have c4b0 : decide (1048576 < (l0.length : Int)) = false := decide_eq_false c4
      have c4b1 : decide (1048576 < l0.length) = false := decide_eq_false (by omega)
      clear c4
      (first | rw [c4b0] | (simp only [i64_w, i32_w]; rw [c4b0]) | skip)
      have H' := Aside0.mk H
      clear H
      go_wp2
      go_meet
      case rel => exact ⟨_, (decide ((l1.length : Int) > 1048576)), (by first | rfl | (simp; done) | (simp [*]; done)), H', ⟨by first | omega | exact Nat.le_refl _⟩, ⟨by repeat (first | (with_reducible first | exact HB.out | apply below_alloc | apply pw_below_drewN | apply below_drew1) | exact HB.out)⟩⟩
  case rest =>
    clear HC3
    try clear c1
    try clear p2
    try clear c4
    try clear c4b0
    try clear c4b1
    obtain ⟨kq, x25_2, rfl, HA, HJ2, HB⟩ := hcut
    cases kq with
    | zero => exact absurd HA.out (by simp [laws_FnCauchy.j0])
    | succ kj2 =>
      have H := HA.out
      clear HA
      simp only [laws_FnCauchy.j0] at H
      by_cases c5 : x25_2 = true
      · subst c5
        have H1 : (some true) = some r := by rw [if_pos rfl] at H; exact H
        clear H
        have H := H1
        clear H1
        obtain rfl := Option.some.inj H
        go_wp2
        go_ret
        exact ⟨by first | rfl | (simp [errW_none, errW_some] <;> rfl) | (simp [*, errW_none, errW_some] <;> rfl), by repeat (first | (with_reducible first | exact HB.out | apply below_alloc | apply pw_below_drewN | apply below_drew1) | exact HB.out)⟩
      · replace c5 := Bool.eq_false_iff.mpr c5
        subst c5
        have H1 : ((laws_lwAt.f l0 0).bind fun t138 => ((laws_lwAt.f l0 1).bind fun t139 => ((impl_Cauchy.f kj2 (wrap64 (1 + (Int.tmod t138 12))) (wrap64 (1 + (Int.tmod t139 12)))).bind fun bt140 => (if bt140.1 = 0 then ((spec_Cauchy.f kj2 (wrap64 (1 + (Int.tmod t138 12))) (wrap64 (1 + (Int.tmod t139 12)))).bind fun bt147 => ((laws_lwMatrix.f kj2 bt140.2.1 bt140.2.2.1 bt140.2.2.2 bt147.2.1 bt147.2.2.1 bt147.2.2.2).bind fun t153 => (laws_FnCauchy.j1 kj2 l1 (wrap64 (1 + (Int.tmod t138 12))) (wrap64 (1 + (Int.tmod t139 12))) (!t153) bt140.1 bt140.2.1 bt140.2.2.1 bt140.2.2.2))) else (laws_FnCauchy.j1 kj2 l1 (wrap64 (1 + (Int.tmod t138 12))) (wrap64 (1 + (Int.tmod t139 12))) true bt140.1 bt140.2.1 bt140.2.2.1 bt140.2.2.2))))) = some r := by rw [if_neg (show ¬ (false = true) by decide)] at H; exact H
        clear H
        have H := H1
        clear H1
        replace H := Option.bind_eq_some_iff.mp H
        obtain ⟨t138, A60, H⟩ := H
        replace H : ((laws_lwAt.f l0 1).bind fun t139 => ((impl_Cauchy.f kj2 (wrap64 (1 + (Int.tmod t138 12))) (wrap64 (1 + (Int.tmod t139 12)))).bind fun bt140 => (if bt140.1 = 0 then ((spec_Cauchy.f kj2 (wrap64 (1 + (Int.tmod t138 12))) (wrap64 (1 + (Int.tmod t139 12)))).bind fun bt147 => ((laws_lwMatrix.f kj2 bt140.2.1 bt140.2.2.1 bt140.2.2.2 bt147.2.1 bt147.2.2.1 bt147.2.2.2).bind fun t153 => (laws_FnCauchy.j1 kj2 l1 (wrap64 (1 + (Int.tmod t138 12))) (wrap64 (1 + (Int.tmod t139 12))) (!t153) bt140.1 bt140.2.1 bt140.2.2.1 bt140.2.2.2))) else (laws_FnCauchy.j1 kj2 l1 (wrap64 (1 + (Int.tmod t138 12))) (wrap64 (1 + (Int.tmod t139 12))) true bt140.1 bt140.2.1 bt140.2.2.1 bt140.2.2.2)))) = some r := H
        have A6 := Aside0.mk A60
        clear A60
        replace H := Option.bind_eq_some_iff.mp H
        obtain ⟨t139, A70, H⟩ := H
        replace H : ((impl_Cauchy.f kj2 (wrap64 (1 + (Int.tmod t138 12))) (wrap64 (1 + (Int.tmod t139 12)))).bind fun bt140 => (if bt140.1 = 0 then ((spec_Cauchy.f kj2 (wrap64 (1 + (Int.tmod t138 12))) (wrap64 (1 + (Int.tmod t139 12)))).bind fun bt147 => ((laws_lwMatrix.f kj2 bt140.2.1 bt140.2.2.1 bt140.2.2.2 bt147.2.1 bt147.2.2.1 bt147.2.2.2).bind fun t153 => (laws_FnCauchy.j1 kj2 l1 (wrap64 (1 + (Int.tmod t138 12))) (wrap64 (1 + (Int.tmod t139 12))) (!t153) bt140.1 bt140.2.1 bt140.2.2.1 bt140.2.2.2))) else (laws_FnCauchy.j1 kj2 l1 (wrap64 (1 + (Int.tmod t138 12))) (wrap64 (1 + (Int.tmod t139 12))) true bt140.1 bt140.2.1 bt140.2.2.1 bt140.2.2.2))) = some r := H
        have A7 := Aside0.mk A70
        clear A70
        replace H := Option.bind_eq_some_iff.mp H
        obtain ⟨⟨t140, t141, t142, t143⟩, A80, H⟩ := H
        replace H : (if t140 = 0 then ((spec_Cauchy.f kj2 (wrap64 (1 + (Int.tmod t138 12))) (wrap64 (1 + (Int.tmod t139 12)))).bind fun bt147 => ((laws_lwMatrix.f kj2 t141 t142 t143 bt147.2.1 bt147.2.2.1 bt147.2.2.2).bind fun t153 => (laws_FnCauchy.j1 kj2 l1 (wrap64 (1 + (Int.tmod t138 12))) (wrap64 (1 + (Int.tmod t139 12))) (!t153) t140 t141 t142 t143))) else (laws_FnCauchy.j1 kj2 l1 (wrap64 (1 + (Int.tmod t138 12))) (wrap64 (1 + (Int.tmod t139 12))) true t140 t141 t142 t143)) = some r := H
        have A8 := Aside0.mk A80
        clear A80
        have HC9 := Aside0.mk H
        clear H
        go_upto_region 6 with (first | ((with_reducible refine gate_callee (f := 55) rfl ?_); refine goesL_ (some 27) rfl rfl Try.func55 (by kernel_rfl) rfl #[.slice A0 l0.length c0, .int .i64 0] rfl (by (try simp only [List.map_toArray, List.map_cons, List.map_nil]); first | done | rfl | (simp only [List.length_drop, List.length_take]; rfl)) ?_; (with_reducible refine (laws_lwAt.calls _ _ l0 0 t138 _ ?side1 ?side2 A6.out).mono ?_); (case side1 => repeat (first | exact (Kd.C_below HR0.out HB.out) | (with_reducible refine Kd.C_alloc ?_ _) | (with_reducible refine Kd.C_drewN ?_ _) | (with_reducible refine Kd.C_drew ?_))); (case side2 => exact HC0.out); rintro e w' ⟨rfl, ⟨nd, rfl⟩⟩; refine ⟨_, rfl, ?_⟩; (try (rw [drewN_self wc]; generalize hq_ : World.drewN wc _ = wc; have n0_ : Aside0 (Below w.heap.size w wc) := ⟨by rw [← hq_]; exact (by repeat (first | (with_reducible first | exact HB.out | apply below_alloc | apply pw_below_drewN | apply below_drew1) | exact HB.out))⟩; clear HB hq_; have HB := n0_; clear n0_))) | ((with_reducible refine gate_callee (f := 55) rfl ?_); refine goesL_ (some 31) rfl rfl Try.func55 (by kernel_rfl) rfl #[.slice A0 l0.length c0, .int .i64 1] rfl (by (try simp only [List.map_toArray, List.map_cons, List.map_nil]); first | done | rfl | (simp only [List.length_drop, List.length_take]; rfl)) ?_; (with_reducible refine (laws_lwAt.calls _ _ l0 1 t139 _ ?side1 ?side2 A7.out).mono ?_); (case side1 => repeat (first | exact (Kd.C_below HR0.out HB.out) | (with_reducible refine Kd.C_alloc ?_ _) | (with_reducible refine Kd.C_drewN ?_ _) | (with_reducible refine Kd.C_drew ?_))); (case side2 => exact HC0.out); rintro e w' ⟨rfl, ⟨nd, rfl⟩⟩; refine ⟨_, rfl, ?_⟩; (try (rw [drewN_self wc]; generalize hq_ : World.drewN wc _ = wc; have n0_ : Aside0 (Below w.heap.size w wc) := ⟨by rw [← hq_]; exact (by repeat (first | (with_reducible first | exact HB.out | apply below_alloc | apply pw_below_drewN | apply below_drew1) | exact HB.out))⟩; clear HB hq_; have HB := n0_; clear n0_))) | ((with_reducible refine gate_callee (f := 56) rfl ?_); refine goesL_ (some 36) rfl rfl Try.func56 (by kernel_rfl) rfl #[.int .i64 (wrap64 (1 + (Int.tmod t138 12))), .int .i64 (wrap64 (1 + (Int.tmod t139 12)))] rfl (by (try simp only [List.map_toArray, List.map_cons, List.map_nil]); first | done | rfl | (simp only [List.length_drop, List.length_take]; rfl)) ?_; (with_reducible refine (impl_Cauchy.calls kj2 (wrap64 (1 + (Int.tmod t138 12))) (wrap64 (1 + (Int.tmod t139 12))) t140 t141 t142 t143 _ A8.out).mono ?_); rintro e w10 ⟨v144, rfl, ho0, hb⟩; refine ⟨_, rfl, ?_⟩; have n0_ := Aside0.mk (Kd.R_lower ho0 (below_size (by repeat (first | (with_reducible first | exact HB.out | apply below_alloc | apply pw_below_drewN | apply below_drew1) | exact HB.out)))); have n1_ := Aside0.mk (below_step (by repeat (first | (with_reducible first | exact HB.out | apply below_alloc | apply pw_below_drewN | apply below_drew1) | exact HB.out)) hb); clear HB; have HO145 := n0_; have HB := n1_; clear n0_ n1_; (try clear hb); (try clear hb2); (try clear hk); (try clear hi); (try clear ho0)) | ((with_reducible refine gate_dst (N := 7) rfl ?_); (try (refine gate_guard (by rfl) ?_; dsimp only)); refine box_event ?hg (N := 7) ?hd (cs := #[.int .i64 0, .int .i64 0, .int .i64 0, .slice none 0 0]) (t := 36) ?hr ?_; (case hd => rfl); (case hg => rfl); (case hr => first | (go_simp; done) | (go_simp; rfl)); intro gb146 hg w11 hbox hb; have n0_ := Aside0.mk (Kd.R_below (by (with_reducible repeat (first | apply Kd.R_alloc | apply Kd.R_drewN | apply Kd.R_drew)); exact HO145.out) hb); have n1_ := Aside0.mk (below_step (by repeat (first | (with_reducible first | exact HB.out | apply below_alloc | apply pw_below_drewN | apply below_drew1) | exact HB.out)) hb); have n2_ := Aside0.mk (hbox); have n3_ := Aside0.mk ((by rw [hg]; exact (below_size (by repeat (first | (with_reducible first | exact HB.out | apply below_alloc | apply pw_below_drewN | apply below_drew1) | exact HB.out))) : w.heap.size ≤ gb146)); have n4_ := Aside0.mk ((by rw [hg]; exact (below_size (by repeat (first | (with_reducible first | exact HB.out | apply below_alloc | apply pw_below_drewN | apply below_drew1) | exact HB.out))) : w.heap.size ≤ gb146)); clear HO145; clear HB; have HO145 := n0_; have HB := n1_; have BK146 := n2_; have GW146 := n3_; have GE146 := n4_; clear n0_ n1_ n2_ n3_ n4_; clear hb hbox hg; have hcz12_0 : w11.cell? ⟨gb146, 0, none⟩ = some (.int .i64 0) := (blk_cell BK146.out 0).trans rfl; have hcz12_1 : w11.cell? ⟨gb146, 1, none⟩ = some (.int .i64 0) := (blk_cell BK146.out 1).trans rfl; have hcz12_2 : w11.cell? ⟨gb146, 2, none⟩ = some (.int .i64 0) := (blk_cell BK146.out 2).trans rfl; have hcz12_3 : w11.cell? ⟨gb146, 3, none⟩ = some (.slice none 0 0) := (blk_cell BK146.out 3).trans rfl; have hfz12_0 := blk_frozen BK146.out 0; have hfz12_1 := blk_frozen BK146.out 1; have hfz12_2 := blk_frozen BK146.out 2; have hfz12_3 := blk_frozen BK146.out 3; obtain ⟨Ao13, co13, eo13⟩ := Kd.R_slice HO145.out; subst eo13))
        (try simp only [Act.put, List.setIfInBounds_toArray, List.set_cons_zero, List.set_cons_succ])
        go_cut [49] (fun v49 wc => ∃ (kq : Nat) (x49_8 : Bool), v49 = .bool x49_8 ∧ Aside0 (laws_FnCauchy.j1 kq l1 (wrap64 (1 + (Int.tmod t138 12))) (wrap64 (1 + (Int.tmod t139 12))) x49_8 t140 t141 t142 t143 = some r) ∧ Aside0 (kq ≤ kj2) ∧ Aside0 (Kd.R (Kd.int .i64) 2 wc w.heap.size (fun _ => True) (.slice Ao13 t143.length co13) t143) ∧ Aside0 (wc.heap[gb146]? = some (.cells #[.int .i64 t140, .int .i64 t141, .int .i64 t142, (.slice Ao13 t143.length co13)] 36 (0, 0))) ∧ Aside0 (Below w.heap.size w wc))
        case first =>
          have H := HC9.out
          clear HC9
          by_cases c14 : t140 = 0
          · rw [if_pos c14] at H
            have c14b0 : (t140 == 0) = true := beq_iff_eq.mpr c14
            have c14b1 : (t140 != 0) = false := bne_eq_false_iff_eq.mpr c14
            clear c14
            (first | rw [c14b0] | (simp only [i64_w, i32_w]; rw [c14b0]) | skip)
            replace H := Option.bind_eq_some_iff.mp H
            obtain ⟨⟨t147, t148, t149, t150⟩, A150, H⟩ := H
            replace H : ((laws_lwMatrix.f kj2 t141 t142 t143 t148 t149 t150).bind fun t153 => (laws_FnCauchy.j1 kj2 l1 (wrap64 (1 + (Int.tmod t138 12))) (wrap64 (1 + (Int.tmod t139 12))) (!t153) t140 t141 t142 t143)) = some r := H
            have A15 := Aside0.mk A150
            clear A150
            replace H := Option.bind_eq_some_iff.mp H
            obtain ⟨t153, A160, H⟩ := H
            replace H : (laws_FnCauchy.j1 kj2 l1 (wrap64 (1 + (Int.tmod t138 12))) (wrap64 (1 + (Int.tmod t139 12))) (!t153) t140 t141 t142 t143) = some r := H
            have A16 := Aside0.mk A160
            clear A160
            have H' := Aside0.mk H
            clear H
            try go_wp2
            have n0_ : Aside0 (Kd.R (Kd.int .i64) 2 ((((w11.setCell ⟨gb146, 0, none⟩ (.int .i64 t140)).setCell ⟨gb146, 1, none⟩ (.int .i64 t141)).setCell ⟨gb146, 2, none⟩ (.int .i64 t142)).setCell ⟨gb146, 3, none⟩ (.slice Ao13 t143.length co13)) w.heap.size (fun _ => True) (.slice Ao13 t143.length co13) t143) := ⟨by (with_reducible repeat (first | apply Kd.R_alloc | apply Kd.R_drewN | apply Kd.R_drew)); exact Kd.R_mono (Kd.R_far (p := ⟨gb146, 3, none⟩) (Kd.R_far (p := ⟨gb146, 2, none⟩) (Kd.R_far (p := ⟨gb146, 1, none⟩) (Kd.R_far (p := ⟨gb146, 0, none⟩) (Kd.R_types HO145.out BK146.out (by decide)) (fun _ hk => hk.2) (.int .i64 t140)) (fun _ hk => hk.2) (.int .i64 t141)) (fun _ hk => hk.2) (.int .i64 t142)) (fun _ hk => hk.2) (.slice Ao13 t143.length co13)) (fun _ hk => trivial)⟩
            have n1_ : Aside0 (((((w11.setCell ⟨gb146, 0, none⟩ (.int .i64 t140)).setCell ⟨gb146, 1, none⟩ (.int .i64 t141)).setCell ⟨gb146, 2, none⟩ (.int .i64 t142)).setCell ⟨gb146, 3, none⟩ (.slice Ao13 t143.length co13)).heap[gb146]? = some (.cells #[.int .i64 t140, .int .i64 t141, .int .i64 t142, .slice Ao13 t143.length co13] 36 (0, 0))) := ⟨by (with_reducible repeat (first | refine blk_drewN ?_ _ | refine blk_drew ?_ | refine blk_alloc ?_ _)); refine blk_put (cs := #[.int .i64 t140, .int .i64 t141, .int .i64 t142, .slice none 0 0]) ?_ 3 _ rfl; (with_reducible repeat (first | refine blk_drewN ?_ _ | refine blk_drew ?_ | refine blk_alloc ?_ _)); refine blk_put (cs := #[.int .i64 t140, .int .i64 t141, .int .i64 0, .slice none 0 0]) ?_ 2 _ rfl; (with_reducible repeat (first | refine blk_drewN ?_ _ | refine blk_drew ?_ | refine blk_alloc ?_ _)); refine blk_put (cs := #[.int .i64 t140, .int .i64 0, .int .i64 0, .slice none 0 0]) ?_ 1 _ rfl; (with_reducible repeat (first | refine blk_drewN ?_ _ | refine blk_drew ?_ | refine blk_alloc ?_ _)); refine blk_put (cs := #[.int .i64 0, .int .i64 0, .int .i64 0, .slice none 0 0]) ?_ 0 _ rfl; (with_reducible repeat (first | refine blk_drewN ?_ _ | refine blk_drew ?_ | refine blk_alloc ?_ _)); exact BK146.out⟩
            have n2_ : Aside0 (Below w.heap.size w ((((w11.setCell ⟨gb146, 0, none⟩ (.int .i64 t140)).setCell ⟨gb146, 1, none⟩ (.int .i64 t141)).setCell ⟨gb146, 2, none⟩ (.int .i64 t142)).setCell ⟨gb146, 3, none⟩ (.slice Ao13 t143.length co13))) := ⟨by repeat (first | (with_reducible first | exact HB.out | apply below_alloc | apply pw_below_drewN | apply below_drew1 | refine below_set ?_ GE146.out) | exact HB.out)⟩
            (try clear HO145)
            (try clear BK146)
            (try clear HB)
            generalize ((((w11.setCell ⟨gb146, 0, none⟩ (.int .i64 t140)).setCell ⟨gb146, 1, none⟩ (.int .i64 t141)).setCell ⟨gb146, 2, none⟩ (.int .i64 t142)).setCell ⟨gb146, 3, none⟩ (.slice Ao13 t143.length co13)) = w17 at n0_ n1_ n2_ ⊢
            have HO145 := n0_
            have BK146 := n1_
            have HB := n2_
            clear n0_ n1_ n2_
            have n0_ := Aside0.mk (Kd.R_drew HO145.out)
            have n1_ := Aside0.mk (blk_drew BK146.out)
            have n2_ := Aside0.mk (below_drew1 HB.out)
            clear HO145
            clear BK146
            clear HB
            have HO145 := n0_
            have BK146 := n1_
            have HB := n2_
            clear n0_ n1_ n2_
            refine start_ (n := 13) (S := fun w' => w'.cell? ⟨gb146, 0, none⟩ = some (.int .i64 t140) ∧ w'.cell? ⟨gb146, 1, none⟩ = some (.int .i64 t141) ∧ w'.cell? ⟨gb146, 2, none⟩ = some (.int .i64 t142) ∧ w'.cell? ⟨gb146, 3, none⟩ = some (.slice Ao13 t143.length co13)) (ds := []) #[false, false, false, false, false, false, false, false, false, false, false, false, false] (by kernel_rfl) rfl rfl ⟨(blk_cell BK146.out 0).trans rfl, (blk_cell BK146.out 1).trans rfl, (blk_cell BK146.out 2).trans rfl, (blk_cell BK146.out 3).trans rfl⟩ (fun hHeld => ?_); refine with_tabW laws_FnCauchy.tab6 laws_FnCauchy.bits6 (fun HT_ HW_ => ?_)
            generalize w17.drew = w18 at HO145 BK146 HB hHeld ⊢
            refine pure_ (i := 0) (N := some 37) (v := ?_) (a' := ?_) #[true, false, false, false, false, false, false, false, false, false, false, false, false] rfl rfl (any_of HT_.out (by kernel_rfl)) (fun _ _ _ h => h) (Or.inl ⟨by rfl, ?_⟩) ?_ ?_
            rotate_left
            · intro w'
              go_simp
              with_reducible rfl
            rotate_left
            · simp only [Act.put, List.setIfInBounds_toArray, List.set_cons_zero, List.set_cons_succ, i64_w, i32_w]
              rfl
            refine take_ (i := 1) (N := some 38) (v := ?_) (a' := ?_) #[true, true, false, false, false, false, false, false, false, false, false, false, false] rfl rfl (take_ofW HT_.out HW_.out (by kernel_rfl)) (fun _ _ _ h => h) (Or.inl ⟨by rfl, ?_⟩) hHeld ?_ ?_
            rotate_left
            · rintro w' ⟨s0, s1, s2, s3⟩
              go_simp
              with_reducible rfl
            rotate_left
            · simp only [Act.put, List.setIfInBounds_toArray, List.set_cons_zero, List.set_cons_succ, i64_w, i32_w]
              rfl
            refine pure_ (i := 2) (N := some 39) (v := ?_) (a' := ?_) #[true, true, true, false, false, false, false, false, false, false, false, false, false] rfl rfl (any_of HT_.out (by kernel_rfl)) (fun _ _ _ h => h) (Or.inl ⟨by rfl, ?_⟩) ?_ ?_
            rotate_left
            · intro w'
              go_simp
              with_reducible rfl
            rotate_left
            · simp only [Act.put, List.setIfInBounds_toArray, List.set_cons_zero, List.set_cons_succ, i64_w, i32_w]
              rfl
            refine pure_ (i := 3) (N := some 40) (v := ?_) (a' := ?_) #[true, true, true, true, false, false, false, false, false, false, false, false, false] rfl rfl (any_of HT_.out (by kernel_rfl)) (fun _ _ _ h => h) (Or.inl ⟨by rfl, ?_⟩) ?_ ?_
            rotate_left
            · intro w'
              go_simp
              with_reducible rfl
            rotate_left
            · simp only [Act.put, List.setIfInBounds_toArray, List.set_cons_zero, List.set_cons_succ, i64_w, i32_w]
              rfl
            refine pure_ (i := 4) (N := some 41) (v := ?_) (a' := ?_) #[true, true, true, true, true, false, false, false, false, false, false, false, false] rfl rfl (any_of HT_.out (by kernel_rfl)) (fun _ _ _ h => h) (Or.inl ⟨by rfl, ?_⟩) ?_ ?_
            rotate_left
            · intro w'
              go_simp
              with_reducible rfl
            rotate_left
            · simp only [Act.put, List.setIfInBounds_toArray, List.set_cons_zero, List.set_cons_succ, i64_w, i32_w]
              rfl
            refine pure_ (i := 6) (N := some 43) (v := ?_) (a' := ?_) #[true, true, true, true, true, false, true, false, false, false, false, false, false] rfl rfl (any_of HT_.out (by kernel_rfl)) (fun _ _ _ h => h) (Or.inl ⟨by rfl, ?_⟩) ?_ ?_
            rotate_left
            · intro w'
              go_simp
              with_reducible rfl
            rotate_left
            · simp only [Act.put, List.setIfInBounds_toArray, List.set_cons_zero, List.set_cons_succ, i64_w, i32_w]
              rfl
            refine pure_ (i := 7) (N := some 44) (v := ?_) (a' := ?_) #[true, true, true, true, true, false, true, true, false, false, false, false, false] rfl rfl (any_of HT_.out (by kernel_rfl)) (fun _ _ _ h => h) (Or.inl ⟨by rfl, ?_⟩) ?_ ?_
            rotate_left
            · intro w'
              go_simp
              with_reducible rfl
            rotate_left
            · simp only [Act.put, List.setIfInBounds_toArray, List.set_cons_zero, List.set_cons_succ, i64_w, i32_w]
              rfl
            refine take_ (i := 5) (N := some 42) (v := ?_) (a' := ?_) #[true, true, true, true, true, true, true, true, false, false, false, false, false] rfl rfl (take_ofW HT_.out HW_.out (by kernel_rfl)) (fun _ _ _ h => h) (Or.inl ⟨by rfl, ?_⟩) hHeld ?_ ?_
            rotate_left
            · rintro w' ⟨s0, s1, s2, s3⟩
              go_simp
              with_reducible rfl
            rotate_left
            · simp only [Act.put, List.setIfInBounds_toArray, List.set_cons_zero, List.set_cons_succ, i64_w, i32_w]
              rfl
            refine one_ (i := 8) (N := some 45) #[true, true, true, true, true, true, true, true, true, false, false, false, false] rfl rfl (one_of HT_.out (by kernel_rfl)) (by decide) (fun K hK => ?_)
            refine goes_ Try.func58 (by kernel_rfl) rfl #[.int .i64 (wrap64 (1 + (Int.tmod t138 12))), .int .i64 (wrap64 (1 + (Int.tmod t139 12)))] (by rfl) rfl rfl (by (try simp only [List.map_toArray, List.map_cons, List.map_nil]); first | done | rfl | (simp only [List.length_drop, List.length_take]; rfl)) ?_
            with_reducible refine (spec_Cauchy.calls kj2 (wrap64 (1 + (Int.tmod t138 12))) (wrap64 (1 + (Int.tmod t139 12))) t147 t148 t149 t150 _ A15.out).mono ?_
            rintro e w19 ⟨v151, rfl, ho0, hb⟩
            refine ⟨_, rfl, ?_⟩
            have n0_ := Aside0.mk (Kd.R_elder' (by (with_reducible repeat (first | apply Kd.R_alloc | apply Kd.R_drewN | apply Kd.R_drew)); exact HO145.out) (Kd.R_base ho0) hb)
            have n1_ := Aside0.mk (Kd.R_lower (Kd.R_new' ho0 (Kd.R_lt (by (with_reducible repeat (first | apply Kd.R_alloc | apply Kd.R_drewN | apply Kd.R_drew)); exact HO145.out))) (below_size (by repeat (first | (with_reducible first | exact HB.out | apply below_alloc | apply pw_below_drewN | apply below_drew1 | refine below_set ?_ GE146.out) | exact HB.out))))
            have n2_ := Aside0.mk (blk_below (g := gb146) (o := .cells #[.int .i64 t140, .int .i64 t141, .int .i64 t142, .slice Ao13 t143.length co13] 36 (0, 0)) (by (with_reducible repeat (first | refine blk_drewN ?_ _ | refine blk_drew ?_ | refine blk_alloc ?_ _)); exact BK146.out) hb)
            have n3_ := Aside0.mk (below_step (by repeat (first | (with_reducible first | exact HB.out | apply below_alloc | apply pw_below_drewN | apply below_drew1 | refine below_set ?_ GE146.out) | exact HB.out)) hb)
            clear HO145
            clear BK146
            clear HB
            have HO145 := n0_
            have HO152 := n1_
            have BK146 := n2_
            have HB := n3_
            clear n0_ n1_ n2_ n3_
            (try clear hb)
            (try clear hb2)
            (try clear hk)
            (try clear hi)
            (try clear ho0)
            obtain ⟨Ao20, co20, eo20⟩ := Kd.R_slice HO152.out
            (first | subst eo20 | (injection eo20 with f1_ f2_ f3_; have f4_ := f1_.symm; have f5_ := f3_.symm; clear f1_ f2_ f3_; subst f4_; subst f5_))
            refine hK.out _ _ ⟨(blk_cell BK146.out 0).trans rfl, (blk_cell BK146.out 1).trans rfl, (blk_cell BK146.out 2).trans rfl, (blk_cell BK146.out 3).trans rfl⟩ (fun hHeld => ?_)
            clear hK K
            refine norm_ (a' := ?_) ?_ ?_
            rotate_left
            · show Act.put _ (some 45) _ = _
              simp only [Act.put, List.setIfInBounds_toArray, List.set_cons_zero, List.set_cons_succ, i64_w, i32_w]
              rfl
            refine pure_ (i := 9) (N := some 46) (v := ?_) (a' := ?_) #[true, true, true, true, true, true, true, true, true, true, false, false, false] rfl rfl (any_of HT_.out (by kernel_rfl)) (fun _ _ _ h => h) (Or.inl ⟨by rfl, ?_⟩) ?_ ?_
            rotate_left
            · intro w'
              go_simp
              with_reducible rfl
            rotate_left
            · simp only [Act.put, List.setIfInBounds_toArray, List.set_cons_zero, List.set_cons_succ, i64_w, i32_w]
              rfl
            refine one_ (i := 10) (N := some 47) #[true, true, true, true, true, true, true, true, true, true, true, false, false] rfl rfl (one_of HT_.out (by kernel_rfl)) (by decide) (fun K hK => ?_)
            refine goes_ Try.func57 (by kernel_rfl) rfl #[.agg #[.int .i64 t141, .int .i64 t142, .slice Ao13 t143.length co13], .agg #[.int .i64 t148, .int .i64 t149, .slice Ao20 t150.length co20]] (by rfl) rfl rfl (by (try simp only [List.map_toArray, List.map_cons, List.map_nil]); first | done | rfl | (simp only [List.length_drop, List.length_take]; rfl)) ?_
            with_reducible refine (laws_lwMatrix.calls kj2 t141 t142 _ _ t143 t148 t149 _ _ t150 t153 _ ?side1 ?side2 ?side3 ?side4 A16.out).mono ?_
            (case side1 => repeat (first | exact (Kd.R_reads' HO145.out).2.2 | (with_reducible refine Kd.C_alloc ?_ _) | (with_reducible refine Kd.C_drewN ?_ _) | (with_reducible refine Kd.C_drew ?_)))
            (case side2 => exact (Kd.R_reads' HO145.out).2.1)
            (case side3 => repeat (first | exact (Kd.R_reads' HO152.out).2.2 | (with_reducible refine Kd.C_alloc ?_ _) | (with_reducible refine Kd.C_drewN ?_ _) | (with_reducible refine Kd.C_drew ?_)))
            (case side4 => exact (Kd.R_reads' HO152.out).2.1)
            rintro e w21 ⟨rfl, hb⟩
            refine ⟨_, rfl, ?_⟩
            have n0_ := Aside0.mk (Kd.R_below (by (with_reducible repeat (first | apply Kd.R_alloc | apply Kd.R_drewN | apply Kd.R_drew)); exact HO145.out) hb)
            have n1_ := Aside0.mk (Kd.R_below (by (with_reducible repeat (first | apply Kd.R_alloc | apply Kd.R_drewN | apply Kd.R_drew)); exact HO152.out) hb)
            have n2_ := Aside0.mk (blk_below (g := gb146) (o := .cells #[.int .i64 t140, .int .i64 t141, .int .i64 t142, .slice Ao13 t143.length co13] 36 (0, 0)) (by (with_reducible repeat (first | refine blk_drewN ?_ _ | refine blk_drew ?_ | refine blk_alloc ?_ _)); exact BK146.out) hb)
            have n3_ := Aside0.mk (below_step (by repeat (first | (with_reducible first | exact HB.out | apply below_alloc | apply pw_below_drewN | apply below_drew1 | refine below_set ?_ GE146.out) | exact HB.out)) hb)
            clear HO145
            clear HO152
            clear BK146
            clear HB
            have HO145 := n0_
            have HO152 := n1_
            have BK146 := n2_
            have HB := n3_
            clear n0_ n1_ n2_ n3_
            (try clear hb)
            (try clear hb2)
            (try clear hk)
            (try clear hi)
            refine hK.out _ _ ⟨(blk_cell BK146.out 0).trans rfl, (blk_cell BK146.out 1).trans rfl, (blk_cell BK146.out 2).trans rfl, (blk_cell BK146.out 3).trans rfl⟩ (fun hHeld => ?_)
            clear hK K
            refine norm_ (a' := ?_) ?_ ?_
            rotate_left
            · show Act.put _ (some 47) _ = _
              simp only [Act.put, List.setIfInBounds_toArray, List.set_cons_zero, List.set_cons_succ, i64_w, i32_w]
              rfl
            refine pure_ (i := 11) (N := some 48) (v := ?_) (a' := ?_) #[true, true, true, true, true, true, true, true, true, true, true, true, false] rfl rfl (any_of HT_.out (by kernel_rfl)) (fun _ _ _ h => h) (Or.inl ⟨by rfl, ?_⟩) ?_ ?_
            rotate_left
            · intro w'
              go_simp
              with_reducible rfl
            rotate_left
            · simp only [Act.put, List.setIfInBounds_toArray, List.set_cons_zero, List.set_cons_succ, i64_w, i32_w]
              rfl
            refine pure_ (i := 12) (N := some 49) (v := ?_) (a' := ?_) #[true, true, true, true, true, true, true, true, true, true, true, true, true] rfl rfl (any_of HT_.out (by kernel_rfl)) (fun _ _ _ h => h) (Or.inl ⟨by rfl, ?_⟩) ?_ ?_
            rotate_left
            · intro w'
              go_simp
              with_reducible rfl
            rotate_left
            · simp only [Act.put, List.setIfInBounds_toArray, List.set_cons_zero, List.set_cons_succ, i64_w, i32_w]
              rfl
            refine done_ (done_of HT_.out (by kernel_rfl)) ?_
            try go_wp2
            go_meet
            case rel => exact ⟨_, (!t153), (by first | rfl | (simp; done) | (simp [*]; done)), H', ⟨by have := HJ2.out; first | omega | exact Nat.le_refl _⟩, ⟨by (with_reducible repeat (first | apply Kd.R_alloc | apply Kd.R_drewN | apply Kd.R_drew)); exact Kd.R_mono HO145.out (fun _ hk => trivial)⟩, ⟨by (with_reducible repeat (first | refine blk_drewN ?_ _ | refine blk_drew ?_ | refine blk_alloc ?_ _)); exact BK146.out⟩, ⟨by repeat (first | (with_reducible first | exact HB.out | apply below_alloc | apply pw_below_drewN | apply below_drew1 | refine below_set ?_ GE146.out) | exact HB.out)⟩⟩
          · rw [if_neg c14] at H
            have c14b0 : (t140 == 0) = false := beq_eq_false_iff_ne.mpr c14
            have c14b1 : (t140 != 0) = true := bne_iff_ne.mpr c14
            (first | rw [c14b0] | (simp only [i64_w, i32_w]; rw [c14b0]) | skip)
            have H' := Aside0.mk H
            clear H
            try go_wp2
            have n0_ : Aside0 (Kd.R (Kd.int .i64) 2 ((((w11.setCell ⟨gb146, 0, none⟩ (.int .i64 t140)).setCell ⟨gb146, 1, none⟩ (.int .i64 t141)).setCell ⟨gb146, 2, none⟩ (.int .i64 t142)).setCell ⟨gb146, 3, none⟩ (.slice Ao13 t143.length co13)) w.heap.size (fun _ => True) (.slice Ao13 t143.length co13) t143) := ⟨by (with_reducible repeat (first | apply Kd.R_alloc | apply Kd.R_drewN | apply Kd.R_drew)); exact Kd.R_mono (Kd.R_far (p := ⟨gb146, 3, none⟩) (Kd.R_far (p := ⟨gb146, 2, none⟩) (Kd.R_far (p := ⟨gb146, 1, none⟩) (Kd.R_far (p := ⟨gb146, 0, none⟩) (Kd.R_types HO145.out BK146.out (by decide)) (fun _ hk => hk.2) (.int .i64 t140)) (fun _ hk => hk.2) (.int .i64 t141)) (fun _ hk => hk.2) (.int .i64 t142)) (fun _ hk => hk.2) (.slice Ao13 t143.length co13)) (fun _ hk => trivial)⟩
            have n1_ : Aside0 (((((w11.setCell ⟨gb146, 0, none⟩ (.int .i64 t140)).setCell ⟨gb146, 1, none⟩ (.int .i64 t141)).setCell ⟨gb146, 2, none⟩ (.int .i64 t142)).setCell ⟨gb146, 3, none⟩ (.slice Ao13 t143.length co13)).heap[gb146]? = some (.cells #[.int .i64 t140, .int .i64 t141, .int .i64 t142, .slice Ao13 t143.length co13] 36 (0, 0))) := ⟨by (with_reducible repeat (first | refine blk_drewN ?_ _ | refine blk_drew ?_ | refine blk_alloc ?_ _)); refine blk_put (cs := #[.int .i64 t140, .int .i64 t141, .int .i64 t142, .slice none 0 0]) ?_ 3 _ rfl; (with_reducible repeat (first | refine blk_drewN ?_ _ | refine blk_drew ?_ | refine blk_alloc ?_ _)); refine blk_put (cs := #[.int .i64 t140, .int .i64 t141, .int .i64 0, .slice none 0 0]) ?_ 2 _ rfl; (with_reducible repeat (first | refine blk_drewN ?_ _ | refine blk_drew ?_ | refine blk_alloc ?_ _)); refine blk_put (cs := #[.int .i64 t140, .int .i64 0, .int .i64 0, .slice none 0 0]) ?_ 1 _ rfl; (with_reducible repeat (first | refine blk_drewN ?_ _ | refine blk_drew ?_ | refine blk_alloc ?_ _)); refine blk_put (cs := #[.int .i64 0, .int .i64 0, .int .i64 0, .slice none 0 0]) ?_ 0 _ rfl; (with_reducible repeat (first | refine blk_drewN ?_ _ | refine blk_drew ?_ | refine blk_alloc ?_ _)); exact BK146.out⟩
            have n2_ : Aside0 (Below w.heap.size w ((((w11.setCell ⟨gb146, 0, none⟩ (.int .i64 t140)).setCell ⟨gb146, 1, none⟩ (.int .i64 t141)).setCell ⟨gb146, 2, none⟩ (.int .i64 t142)).setCell ⟨gb146, 3, none⟩ (.slice Ao13 t143.length co13))) := ⟨by repeat (first | (with_reducible first | exact HB.out | apply below_alloc | apply pw_below_drewN | apply below_drew1 | refine below_set ?_ GE146.out) | exact HB.out)⟩
            (try clear HO145)
            (try clear BK146)
            (try clear HB)
            generalize ((((w11.setCell ⟨gb146, 0, none⟩ (.int .i64 t140)).setCell ⟨gb146, 1, none⟩ (.int .i64 t141)).setCell ⟨gb146, 2, none⟩ (.int .i64 t142)).setCell ⟨gb146, 3, none⟩ (.slice Ao13 t143.length co13)) = w22 at n0_ n1_ n2_ ⊢
            have HO145 := n0_
            have BK146 := n1_
            have HB := n2_
            clear n0_ n1_ n2_
            have n0_ := Aside0.mk (Kd.R_drew HO145.out)
            have n1_ := Aside0.mk (blk_drew BK146.out)
            have n2_ := Aside0.mk (below_drew1 HB.out)
            clear HO145
            clear BK146
            clear HB
            have HO145 := n0_
            have BK146 := n1_
            have HB := n2_
            clear n0_ n1_ n2_
            refine start_ (n := 13) (S := fun w' => w'.cell? ⟨gb146, 0, none⟩ = some (.int .i64 t140) ∧ w'.cell? ⟨gb146, 1, none⟩ = some (.int .i64 t141) ∧ w'.cell? ⟨gb146, 2, none⟩ = some (.int .i64 t142) ∧ w'.cell? ⟨gb146, 3, none⟩ = some (.slice Ao13 t143.length co13)) (ds := []) #[false, false, false, false, false, false, false, false, false, false, false, false, false] (by kernel_rfl) rfl rfl ⟨(blk_cell BK146.out 0).trans rfl, (blk_cell BK146.out 1).trans rfl, (blk_cell BK146.out 2).trans rfl, (blk_cell BK146.out 3).trans rfl⟩ (fun hHeld => ?_); refine with_tabW laws_FnCauchy.tab6 laws_FnCauchy.bits6 (fun HT_ HW_ => ?_)
            generalize w22.drew = w23 at HO145 BK146 HB hHeld ⊢
            refine pure_ (i := 0) (N := some 37) (v := ?_) (a' := ?_) #[true, false, false, false, false, false, false, false, false, false, false, false, false] rfl rfl (any_of HT_.out (by kernel_rfl)) (fun _ _ _ h => h) (Or.inl ⟨by rfl, ?_⟩) ?_ ?_
            rotate_left
            · intro w'
              go_simp
              with_reducible rfl
            rotate_left
            · simp only [Act.put, List.setIfInBounds_toArray, List.set_cons_zero, List.set_cons_succ, i64_w, i32_w]
              rfl
            refine take_ (i := 1) (N := some 38) (v := ?_) (a' := ?_) #[true, true, false, false, false, false, false, false, false, false, false, false, false] rfl rfl (take_ofW HT_.out HW_.out (by kernel_rfl)) (fun _ _ _ h => h) (Or.inl ⟨by rfl, ?_⟩) hHeld ?_ ?_
            rotate_left
            · rintro w' ⟨s0, s1, s2, s3⟩
              go_simp
              with_reducible rfl
            rotate_left
            · simp only [Act.put, List.setIfInBounds_toArray, List.set_cons_zero, List.set_cons_succ, i64_w, i32_w]
              rfl
            refine pure_ (i := 2) (N := some 39) (v := ?_) (a' := ?_) #[true, true, true, false, false, false, false, false, false, false, false, false, false] rfl rfl (any_of HT_.out (by kernel_rfl)) (fun _ _ _ h => h) (Or.inl ⟨by rfl, ?_⟩) ?_ ?_
            rotate_left
            · intro w'
              go_simp
              with_reducible rfl
            rotate_left
            · simp only [Act.put, List.setIfInBounds_toArray, List.set_cons_zero, List.set_cons_succ, i64_w, i32_w]
              rfl
            refine pure_ (i := 3) (N := some 40) (v := ?_) (a' := ?_) #[true, true, true, true, false, false, false, false, false, false, false, false, false] rfl rfl (any_of HT_.out (by kernel_rfl)) (fun _ _ _ h => h) (Or.inl ⟨by rfl, ?_⟩) ?_ ?_
            rotate_left
            · intro w'
              go_simp
              with_reducible rfl
            rotate_left
            · simp only [Act.put, List.setIfInBounds_toArray, List.set_cons_zero, List.set_cons_succ, i64_w, i32_w]
              rfl
            refine pure_ (i := 4) (N := some 41) (v := undef) (a' := ?_) #[true, true, true, true, true, false, false, false, false, false, false, false, false] rfl rfl (any_of HT_.out (by kernel_rfl)) (fun _ _ _ h => h) (Or.inr ⟨by rfl, rfl⟩) ?_ ?_
            rotate_left
            · simp only [Act.put, List.setIfInBounds_toArray, List.set_cons_zero, List.set_cons_succ, i64_w, i32_w]
              rfl
            refine pure_ (i := 5) (N := some 42) (v := undef) (a' := ?_) #[true, true, true, true, true, true, false, false, false, false, false, false, false] rfl rfl (any_of HT_.out (by kernel_rfl)) (fun _ _ _ h => h) (Or.inr ⟨by rfl, rfl⟩) ?_ ?_
            rotate_left
            · simp only [Act.put, List.setIfInBounds_toArray, List.set_cons_zero, List.set_cons_succ, i64_w, i32_w]
              rfl
            refine pure_ (i := 6) (N := some 43) (v := undef) (a' := ?_) #[true, true, true, true, true, true, true, false, false, false, false, false, false] rfl rfl (any_of HT_.out (by kernel_rfl)) (fun _ _ _ h => h) (Or.inr ⟨by rfl, rfl⟩) ?_ ?_
            rotate_left
            · simp only [Act.put, List.setIfInBounds_toArray, List.set_cons_zero, List.set_cons_succ, i64_w, i32_w]
              rfl
            refine pure_ (i := 7) (N := some 44) (v := undef) (a' := ?_) #[true, true, true, true, true, true, true, true, false, false, false, false, false] rfl rfl (any_of HT_.out (by kernel_rfl)) (fun _ _ _ h => h) (Or.inr ⟨by rfl, rfl⟩) ?_ ?_
            rotate_left
            · simp only [Act.put, List.setIfInBounds_toArray, List.set_cons_zero, List.set_cons_succ, i64_w, i32_w]
              rfl
            refine pure_ (i := 8) (N := some 45) (v := undef) (a' := ?_) #[true, true, true, true, true, true, true, true, true, false, false, false, false] rfl rfl (any_of HT_.out (by kernel_rfl)) (fun _ _ _ h => h) (Or.inr ⟨by rfl, rfl⟩) ?_ ?_
            rotate_left
            · simp only [Act.put, List.setIfInBounds_toArray, List.set_cons_zero, List.set_cons_succ, i64_w, i32_w]
              rfl
            refine pure_ (i := 9) (N := some 46) (v := undef) (a' := ?_) #[true, true, true, true, true, true, true, true, true, true, false, false, false] rfl rfl (any_of HT_.out (by kernel_rfl)) (fun _ _ _ h => h) (Or.inr ⟨by rfl, rfl⟩) ?_ ?_
            rotate_left
            · simp only [Act.put, List.setIfInBounds_toArray, List.set_cons_zero, List.set_cons_succ, i64_w, i32_w]
              rfl
            refine pure_ (i := 10) (N := some 47) (v := undef) (a' := ?_) #[true, true, true, true, true, true, true, true, true, true, true, false, false] rfl rfl (any_of HT_.out (by kernel_rfl)) (fun _ _ _ h => h) (Or.inr ⟨by rfl, rfl⟩) ?_ ?_
            rotate_left
            · simp only [Act.put, List.setIfInBounds_toArray, List.set_cons_zero, List.set_cons_succ, i64_w, i32_w]
              rfl
            refine pure_ (i := 11) (N := some 48) (v := undef) (a' := ?_) #[true, true, true, true, true, true, true, true, true, true, true, true, false] rfl rfl (any_of HT_.out (by kernel_rfl)) (fun _ _ _ h => h) (Or.inr ⟨by rfl, rfl⟩) ?_ ?_
            rotate_left
            · simp only [Act.put, List.setIfInBounds_toArray, List.set_cons_zero, List.set_cons_succ, i64_w, i32_w]
              rfl
            refine pure_ (i := 12) (N := some 49) (v := ?_) (a' := ?_) #[true, true, true, true, true, true, true, true, true, true, true, true, true] rfl rfl (any_of HT_.out (by kernel_rfl)) (fun _ _ _ h => h) (Or.inl ⟨by rfl, ?_⟩) ?_ ?_
            rotate_left
            · intro w'
              go_simp
              with_reducible rfl
            rotate_left
            · simp only [Act.put, List.setIfInBounds_toArray, List.set_cons_zero, List.set_cons_succ, i64_w, i32_w]
              rfl
            refine done_ (done_of HT_.out (by kernel_rfl)) ?_
            try go_wp2
            go_meet
            case rel => exact ⟨_, (true), (by first | rfl | (simp; done) | (simp [*]; done)), H', ⟨by have := HJ2.out; first | omega | exact Nat.le_refl _⟩, ⟨by (with_reducible repeat (first | apply Kd.R_alloc | apply Kd.R_drewN | apply Kd.R_drew)); exact HO145.out⟩, ⟨by (with_reducible repeat (first | refine blk_drewN ?_ _ | refine blk_drew ?_ | refine blk_alloc ?_ _)); exact BK146.out⟩, ⟨by repeat (first | (with_reducible first | exact HB.out | apply below_alloc | apply pw_below_drewN | apply below_drew1 | refine below_set ?_ GE146.out) | exact HB.out)⟩⟩
        case rest =>
          clear HC9
          try clear c1
          try clear p2
          try clear c4
          try clear c4b0
          try clear c4b1
          try clear c5
          try clear p6
          try clear c10
          try clear c14
          try clear c14b0
          try clear c14b1
          try clear hcz12_0
          try clear hcz12_1
          try clear hcz12_2
          try clear hcz12_3
          try clear hfz12_0
          try clear hfz12_1
          try clear hfz12_2
          try clear hfz12_3
          try clear p2
          obtain ⟨kq, x49_8, rfl, HA, HJ8, HO_147003, BK146, HB⟩ := hcut
          cases kq with
          | zero => exact absurd HA.out (by simp [laws_FnCauchy.j1])
          | succ kj8 =>
            have H := HA.out
            clear HA
            simp only [laws_FnCauchy.j1] at H
            by_cases c24 : x49_8 = true
            · subst c24
              have H1 : (some false) = some r := by rw [if_pos rfl] at H; exact H
              clear H
              have H := H1
              clear H1
              obtain rfl := Option.some.inj H
              go_wp2
              go_ret
              exact ⟨by first | rfl | (simp [errW_none, errW_some] <;> rfl) | (simp [*, errW_none, errW_some] <;> rfl), by repeat (first | (with_reducible first | exact HB.out | apply below_alloc | apply pw_below_drewN | apply below_drew1 | refine below_set ?_ GE146.out) | exact HB.out)⟩
            · replace c24 := Bool.eq_false_iff.mpr c24
              subst c24
              have H1 : (laws_FnCauchy.l0 kj8 l1 (wrap64 (1 + (Int.tmod t138 12))) (wrap64 (1 + (Int.tmod t139 12))) (([] : List Int)) 0 t140 t141 t142 t143) = some r := by rw [if_neg (show ¬ (false = true) by decide)] at H; exact H
              clear H
              have H := H1
              clear H1
              obtain ⟨y154, hy154⟩ : ∃ y_ : List Int, y_ = (([] : List Int)) := ⟨_, rfl⟩
              replace H : (laws_FnCauchy.l0 kj8 l1 (wrap64 (1 + (Int.tmod t138 12))) (wrap64 (1 + (Int.tmod t139 12))) y154 0 t140 t141 t142 t143) = some r := by first | (rw [hy154]; with_reducible exact H) | (have H2_ := (Option.bind_some _ _).symm.trans H; rw [hy154]; with_reducible exact H2_) | (have H2_ := (Option.bind_some _ _).symm.trans H; with_reducible exact H2_) | with_reducible exact H | (rw [hy154]; exact H) | exact H
              have Ny154 := Aside0.mk hy154
              clear hy154
              have H' := Aside0.mk H
              clear H
              go_wp2_with (first | ((with_reducible refine gate_dst (N := 50) rfl ?_); (try (refine gate_guard (by rfl) ?_; dsimp only)); refine Kd.R_lit (Kd.int .i64) _ 2 ?hg (N := 50) ?hd (xs := ([] : List Int)) (inner := []) (ok := fun _ => True) (okp := fun _ => True) ?hr ?hp (fun _ hk => hk) trivial (Below.refl _ _) (Nat.le_refl _) (by simp) ?_; (case hd => rfl); (case hg => rfl); (case hr => first | (go_simp; done) | (go_simp; rfl)); (case hp => exact (Reps.none _ _)); intro v155 w25 ho26 hb hg_ hnew_; clear hg_ hnew_; (first | rw [← Ny154.out] at ho26 | (simp only [Int.reduceToNat] at ho26; rw [← Ny154.out] at ho26)); have n0_ := Aside0.mk (Kd.R_elder' (by (with_reducible repeat (first | apply Kd.R_alloc | apply Kd.R_drewN | apply Kd.R_drew)); exact HO_147003.out) (Kd.R_base ho26) hb); have n1_ := Aside0.mk (Kd.R_lower (Kd.R_new' ho26 (Kd.R_lt (by (with_reducible repeat (first | apply Kd.R_alloc | apply Kd.R_drewN | apply Kd.R_drew)); exact HO_147003.out))) (below_size (by repeat (first | (with_reducible first | exact HB.out | apply below_alloc | apply pw_below_drewN | apply below_drew1 | refine below_set ?_ GE146.out) | exact HB.out)))); have n2_ := Aside0.mk (blk_below (g := gb146) (o := .cells #[.int .i64 t140, .int .i64 t141, .int .i64 t142, .slice Ao13 t143.length co13] 36 (0, 0)) (by (with_reducible repeat (first | refine blk_drewN ?_ _ | refine blk_drew ?_ | refine blk_alloc ?_ _)); exact BK146.out) hb); have n3_ := Aside0.mk (below_step (by repeat (first | (with_reducible first | exact HB.out | apply below_alloc | apply pw_below_drewN | apply below_drew1 | refine below_set ?_ GE146.out) | exact HB.out)) hb); clear HO_147003; clear BK146; clear HB; have HO_147003 := n0_; have HO156 := n1_; have BK146 := n2_; have HB := n3_; clear n0_ n1_ n2_ n3_; clear hb ho26))
              go_loopg [8, 9] kj8 (fun kq v8 v9 w' => ∃ (x8_3 : List Int) (x9_3 : Int), v9 = .int .i64 x9_3 ∧ Aside0 (laws_FnCauchy.l0 kq l1 (wrap64 (1 + (Int.tmod t138 12))) (wrap64 (1 + (Int.tmod t139 12))) x8_3 x9_3 t140 t141 t142 t143 = some r) ∧ Aside0 (kq ≤ kj8) ∧ Aside0 (Kd.R (Kd.int .i64) 2 w' w.heap.size (fun k_ => some k_ ≠ ((.slice Ao13 t143.length co13) : Value).ownBlock) v8 x8_3) ∧ Aside0 (Kd.R (Kd.int .i64) 2 w' w.heap.size (fun k_ => some k_ ≠ (v8 : Value).ownBlock) (.slice Ao13 t143.length co13) t143) ∧ Aside0 (w'.heap[gb146]? = some (.cells #[.int .i64 t140, .int .i64 t141, .int .i64 t142, (.slice Ao13 t143.length co13)] 36 (0, 0))) ∧ Aside0 (Below w.heap.size w w'))
              case atStart => exact ⟨(y154), (0), (by first | rfl | (simp; done) | (simp [*]; done)), H', ⟨Nat.le_refl _⟩, ⟨by (with_reducible repeat (first | apply Kd.R_alloc | apply Kd.R_drewN | apply Kd.R_drew)); exact Kd.R_mono HO156.out (fun _ hk => hk.2)⟩, ⟨by (with_reducible repeat (first | apply Kd.R_alloc | apply Kd.R_drewN | apply Kd.R_drew)); exact Kd.R_mono HO_147003.out (fun _ hk => hk.2)⟩, ⟨by (with_reducible repeat (first | refine blk_drewN ?_ _ | refine blk_drew ?_ | refine blk_alloc ?_ _)); exact BK146.out⟩, ⟨by repeat (first | (with_reducible first | exact HB.out | apply below_alloc | apply pw_below_drewN | apply below_drew1 | refine below_set ?_ GE146.out) | exact HB.out)⟩⟩
              case round =>
                clear H'
                try clear c1
                try clear c2
                try clear p2
                try clear c4
                try clear c4b0
                try clear c4b1
                try clear c5
                try clear p6
                try clear c10
                try clear c14
                try clear c14b0
                try clear c14b1
                try clear c24
                try clear hcz12_0
                try clear hcz12_1
                try clear hcz12_2
                try clear hcz12_3
                try clear hfz12_0
                try clear hfz12_1
                try clear hfz12_2
                try clear hfz12_3
                try clear p2
                try clear p6
                obtain ⟨x8_3, x9_3, rfl, HA, HK3, HO_8, HO_147003, BK146, HB⟩ := hrel
                cases gk with
                | zero => exact absurd HA.out (by simp [laws_FnCauchy.l0])
                | succ k3 =>
                  have H := HA.out
                  clear HA
                  simp only [laws_FnCauchy.l0] at H
                  have HC27 := Aside0.mk H
                  clear H
                  go_upto_region 10 with (fail)
                  go_cut [57] (fun v57 wc => ∃ (kq : Nat) (x57_26 : Bool), v57 = .bool x57_26 ∧ Aside0 (laws_FnCauchy.j3 kq l1 (wrap64 (1 + (Int.tmod t138 12))) (wrap64 (1 + (Int.tmod t139 12))) x8_3 x9_3 x57_26 t140 t141 t142 t143 = some r) ∧ Aside0 (kq ≤ k3) ∧ Aside0 (Kd.R (Kd.int .i64) 2 wc w.heap.size (fun k_ => some k_ ≠ ((.slice Ao13 t143.length co13) : Value).ownBlock) u8 x8_3) ∧ Aside0 (Kd.R (Kd.int .i64) 2 wc w.heap.size (fun k_ => some k_ ≠ (u8 : Value).ownBlock) (.slice Ao13 t143.length co13) t143) ∧ Aside0 (wc.heap[gb146]? = some (.cells #[.int .i64 t140, .int .i64 t141, .int .i64 t142, (.slice Ao13 t143.length co13)] 36 (0, 0))) ∧ Aside0 (Below w.heap.size w wc))
                  case first =>
                    have H := HC27.out
                    clear HC27
                    by_cases c28 : x9_3 < 20
                    · rw [if_pos c28] at H
                      have c28b0 : decide (x9_3 < 20) = true := decide_eq_true c28
                      clear c28
                      (first | rw [c28b0] | (simp only [i64_w, i32_w]; rw [c28b0]) | skip)
                      have H' := Aside0.mk H
                      clear H
                      obtain ⟨Ao29, co29, eo29⟩ := Kd.R_slice HO_8.out
                      subst eo29
                      go_wp2
                      go_meet
                      case rel => exact ⟨_, (decide ((x8_3.length : Int) < 6)), (by first | rfl | (simp; done) | (simp [*]; done)), H', ⟨by have := HJ2.out; have := HJ8.out; have := HK3.out; first | omega | exact Nat.le_refl _⟩, ⟨by (with_reducible repeat (first | apply Kd.R_alloc | apply Kd.R_drewN | apply Kd.R_drew)); exact HO_8.out⟩, ⟨by (with_reducible repeat (first | apply Kd.R_alloc | apply Kd.R_drewN | apply Kd.R_drew)); exact HO_147003.out⟩, ⟨by (with_reducible repeat (first | refine blk_drewN ?_ _ | refine blk_drew ?_ | refine blk_alloc ?_ _)); exact BK146.out⟩, ⟨by repeat (first | (with_reducible first | exact HB.out | apply below_alloc | apply pw_below_drewN | apply below_drew1 | refine below_set ?_ GE146.out) | exact HB.out)⟩⟩
                    · rw [if_neg c28] at H
                      have c28b0 : decide (x9_3 < 20) = false := decide_eq_false c28
                      clear c28
                      (first | rw [c28b0] | (simp only [i64_w, i32_w]; rw [c28b0]) | skip)
                      have H' := Aside0.mk H
                      clear H
                      go_wp2
                      go_meet
                      case rel => exact ⟨_, (false), (by first | rfl | (simp; done) | (simp [*]; done)), H', ⟨by have := HJ2.out; have := HJ8.out; have := HK3.out; first | omega | exact Nat.le_refl _⟩, ⟨by (with_reducible repeat (first | apply Kd.R_alloc | apply Kd.R_drewN | apply Kd.R_drew)); exact HO_8.out⟩, ⟨by (with_reducible repeat (first | apply Kd.R_alloc | apply Kd.R_drewN | apply Kd.R_drew)); exact HO_147003.out⟩, ⟨by (with_reducible repeat (first | refine blk_drewN ?_ _ | refine blk_drew ?_ | refine blk_alloc ?_ _)); exact BK146.out⟩, ⟨by repeat (first | (with_reducible first | exact HB.out | apply below_alloc | apply pw_below_drewN | apply below_drew1 | refine below_set ?_ GE146.out) | exact HB.out)⟩⟩
                  case rest =>
                    clear HC27
                    try clear c1
                    try clear c2
                    try clear p2
                    try clear c4
                    try clear c4b0
                    try clear c4b1
                    try clear c5
                    try clear p6
                    try clear c10
                    try clear c14
                    try clear c14b0
                    try clear c14b1
                    try clear c24
                    try clear c28
                    try clear c28b0
                    try clear hcz12_0
                    try clear hcz12_1
                    try clear hcz12_2
                    try clear hcz12_3
                    try clear hfz12_0
                    try clear hfz12_1
                    try clear hfz12_2
                    try clear hfz12_3
                    try clear p2
                    try clear p6
                    obtain ⟨kq, x57_26, rfl, HA, HJ26, HO_8, HO_147003, BK146, HB⟩ := hcut
                    cases kq with
                    | zero => exact absurd HA.out (by simp [laws_FnCauchy.j3])
                    | succ kj26 =>
                      have H := HA.out
                      clear HA
                      simp only [laws_FnCauchy.j3] at H
                      by_cases c30 : x57_26 = true
                      · subst c30
                        have H1 : ((laws_lwAt.f l1 x9_3).bind fun t157 => (if (wrap64 (1 + (Int.tmod t138 12))) = 0 then (none) else ((laws_lwHas.f kj26 x8_3 (Int.tmod t157 (wrap64 (1 + (Int.tmod t138 12))))).bind fun t158 => (if t158 = true then (laws_FnCauchy.l0 kj26 l1 (wrap64 (1 + (Int.tmod t138 12))) (wrap64 (1 + (Int.tmod t139 12))) x8_3 (wrap64 (x9_3 + 1)) t140 t141 t142 t143) else (if x8_3.length < 17592186044416 then (laws_FnCauchy.l0 kj26 l1 (wrap64 (1 + (Int.tmod t138 12))) (wrap64 (1 + (Int.tmod t139 12))) (x8_3 ++ [Int.tmod t157 (wrap64 (1 + (Int.tmod t138 12)))]) (wrap64 (x9_3 + 1)) t140 t141 t142 t143) else (none)))))) = some r := by rw [if_pos rfl] at H; exact H
                        clear H
                        have H := H1
                        clear H1
                        replace H := Option.bind_eq_some_iff.mp H
                        obtain ⟨t157, A310, H⟩ := H
                        replace H : (if (wrap64 (1 + (Int.tmod t138 12))) = 0 then (none) else ((laws_lwHas.f kj26 x8_3 (Int.tmod t157 (wrap64 (1 + (Int.tmod t138 12))))).bind fun t158 => (if t158 = true then (laws_FnCauchy.l0 kj26 l1 (wrap64 (1 + (Int.tmod t138 12))) (wrap64 (1 + (Int.tmod t139 12))) x8_3 (wrap64 (x9_3 + 1)) t140 t141 t142 t143) else (if x8_3.length < 17592186044416 then (laws_FnCauchy.l0 kj26 l1 (wrap64 (1 + (Int.tmod t138 12))) (wrap64 (1 + (Int.tmod t139 12))) (x8_3 ++ [Int.tmod t157 (wrap64 (1 + (Int.tmod t138 12)))]) (wrap64 (x9_3 + 1)) t140 t141 t142 t143) else (none))))) = some r := H
                        have A31 := Aside0.mk A310
                        clear A310
                        by_cases c32 : (wrap64 (1 + (Int.tmod t138 12))) = 0
                        · rw [if_pos c32] at H
                          exact absurd H (by simp)
                        · rw [if_neg c32] at H
                          have c32b0 : ((wrap64 (1 + (Int.tmod t138 12))) == 0) = false := beq_eq_false_iff_ne.mpr c32
                          have c32b1 : ((wrap64 (1 + (Int.tmod t138 12))) != 0) = true := bne_iff_ne.mpr c32
                          replace H := Option.bind_eq_some_iff.mp H
                          obtain ⟨t158, A330, H⟩ := H
                          replace H : (if t158 = true then (laws_FnCauchy.l0 kj26 l1 (wrap64 (1 + (Int.tmod t138 12))) (wrap64 (1 + (Int.tmod t139 12))) x8_3 (wrap64 (x9_3 + 1)) t140 t141 t142 t143) else (if x8_3.length < 17592186044416 then (laws_FnCauchy.l0 kj26 l1 (wrap64 (1 + (Int.tmod t138 12))) (wrap64 (1 + (Int.tmod t139 12))) (x8_3 ++ [Int.tmod t157 (wrap64 (1 + (Int.tmod t138 12)))]) (wrap64 (x9_3 + 1)) t140 t141 t142 t143) else (none))) = some r := H
                          have A33 := Aside0.mk A330
                          clear A330
                          by_cases c34 : t158 = true
                          · subst c34
                            have H1 : (laws_FnCauchy.l0 kj26 l1 (wrap64 (1 + (Int.tmod t138 12))) (wrap64 (1 + (Int.tmod t139 12))) x8_3 (wrap64 (x9_3 + 1)) t140 t141 t142 t143) = some r := by rw [if_pos rfl] at H; exact H
                            clear H
                            have H := H1
                            clear H1
                            have H' := Aside0.mk H
                            clear H
                            go_wp2_with (first | ((with_reducible refine gate_callee (f := 55) rfl ?_); refine goesL_ (some 62) rfl rfl Try.func55 (by kernel_rfl) rfl #[.slice A1 l1.length c1, .int .i64 x9_3] rfl (by (try simp only [List.map_toArray, List.map_cons, List.map_nil]); first | done | rfl | (simp only [List.length_drop, List.length_take]; rfl)) ?_; (with_reducible refine (laws_lwAt.calls _ _ l1 x9_3 t157 _ ?side1 ?side2 A31.out).mono ?_); (case side1 => repeat (first | exact (Kd.C_below HR1.out HB.out) | (with_reducible refine Kd.C_alloc ?_ _) | (with_reducible refine Kd.C_drewN ?_ _) | (with_reducible refine Kd.C_drew ?_))); (case side2 => exact HC1.out); rintro e w' ⟨rfl, ⟨nd, rfl⟩⟩; refine ⟨_, rfl, ?_⟩; obtain ⟨Ao35, co35, eo35⟩ := Kd.R_slice HO_8.out; subst eo35) | ((with_reducible refine gate_callee (f := 59) rfl ?_); refine goesL_ (some 67) rfl rfl Try.func59 (by kernel_rfl) rfl #[.slice Ao35 x8_3.length co35, .int .i64 (Int.tmod t157 (wrap64 (1 + (Int.tmod t138 12))))] rfl (by (try simp only [List.map_toArray, List.map_cons, List.map_nil]); first | done | rfl | (simp only [List.length_drop, List.length_take]; rfl)) ?_; (with_reducible refine (laws_lwHas.calls kj26 _ _ x8_3 (Int.tmod t157 (wrap64 (1 + (Int.tmod t138 12)))) true _ ?side1 ?side2 A33.out).mono ?_); (case side1 => repeat (first | exact (Kd.R_reads' HO_8.out).2.2 | (with_reducible refine Kd.C_alloc ?_ _) | (with_reducible refine Kd.C_drewN ?_ _) | (with_reducible refine Kd.C_drew ?_))); (case side2 => exact (Kd.R_reads' HO_8.out).2.1); rintro e w' ⟨rfl, ⟨nd, rfl⟩⟩; refine ⟨_, rfl, ?_⟩))
                            go_roundg kj26
                            case measure => have := HJ2.out; have := HJ8.out; have := HK3.out; have := HJ26.out; omega
                            case rel => exact ⟨(x8_3), (wrap64 (x9_3 + 1)), (by first | rfl | (simp; done) | (simp [*]; done)), H', ⟨by have := HJ2.out; have := HJ8.out; have := HK3.out; have := HJ26.out; omega⟩, ⟨by (with_reducible repeat (first | apply Kd.R_alloc | apply Kd.R_drewN | apply Kd.R_drew)); exact HO_8.out⟩, ⟨by (with_reducible repeat (first | apply Kd.R_alloc | apply Kd.R_drewN | apply Kd.R_drew)); exact HO_147003.out⟩, ⟨by (with_reducible repeat (first | refine blk_drewN ?_ _ | refine blk_drew ?_ | refine blk_alloc ?_ _)); exact BK146.out⟩, ⟨by repeat (first | (with_reducible first | exact HB.out | apply below_alloc | apply pw_below_drewN | apply below_drew1 | refine below_set ?_ GE146.out) | exact HB.out)⟩⟩
                          · replace c34 := Bool.eq_false_iff.mpr c34
                            subst c34
                            have H1 : (if x8_3.length < 17592186044416 then (laws_FnCauchy.l0 kj26 l1 (wrap64 (1 + (Int.tmod t138 12))) (wrap64 (1 + (Int.tmod t139 12))) (x8_3 ++ [Int.tmod t157 (wrap64 (1 + (Int.tmod t138 12)))]) (wrap64 (x9_3 + 1)) t140 t141 t142 t143) else (none)) = some r := by rw [if_neg (show ¬ (false = true) by decide)] at H; exact H
                            clear H
                            have H := H1
                            clear H1
                            by_cases c36 : x8_3.length < 17592186044416
                            · rw [if_pos c36] at H
                              have LMc36 := Aside0.mk c36
                              clear c36
                              obtain ⟨y159, hy159⟩ : ∃ y_ : List Int, y_ = (x8_3 ++ [Int.tmod t157 (wrap64 (1 + (Int.tmod t138 12)))]) := ⟨_, rfl⟩
                              replace H : (laws_FnCauchy.l0 kj26 l1 (wrap64 (1 + (Int.tmod t138 12))) (wrap64 (1 + (Int.tmod t139 12))) y159 (wrap64 (x9_3 + 1)) t140 t141 t142 t143) = some r := by first | (rw [hy159]; with_reducible exact H) | (have H2_ := (Option.bind_some _ _).symm.trans H; rw [hy159]; with_reducible exact H2_) | (have H2_ := (Option.bind_some _ _).symm.trans H; with_reducible exact H2_) | with_reducible exact H | (rw [hy159]; exact H) | exact H
                              have Ny159 := Aside0.mk hy159
                              clear hy159
                              have H' := Aside0.mk H
                              clear H
                              go_wp2_with (first | ((with_reducible refine gate_callee (f := 55) rfl ?_); refine goesL_ (some 62) rfl rfl Try.func55 (by kernel_rfl) rfl #[.slice A1 l1.length c1, .int .i64 x9_3] rfl (by (try simp only [List.map_toArray, List.map_cons, List.map_nil]); first | done | rfl | (simp only [List.length_drop, List.length_take]; rfl)) ?_; (with_reducible refine (laws_lwAt.calls _ _ l1 x9_3 t157 _ ?side1 ?side2 A31.out).mono ?_); (case side1 => repeat (first | exact (Kd.C_below HR1.out HB.out) | (with_reducible refine Kd.C_alloc ?_ _) | (with_reducible refine Kd.C_drewN ?_ _) | (with_reducible refine Kd.C_drew ?_))); (case side2 => exact HC1.out); rintro e w' ⟨rfl, ⟨nd, rfl⟩⟩; refine ⟨_, rfl, ?_⟩; obtain ⟨Ao37, co37, eo37⟩ := Kd.R_slice HO_8.out; subst eo37) | ((with_reducible refine gate_callee (f := 59) rfl ?_); refine goesL_ (some 67) rfl rfl Try.func59 (by kernel_rfl) rfl #[.slice Ao37 x8_3.length co37, .int .i64 (Int.tmod t157 (wrap64 (1 + (Int.tmod t138 12))))] rfl (by (try simp only [List.map_toArray, List.map_cons, List.map_nil]); first | done | rfl | (simp only [List.length_drop, List.length_take]; rfl)) ?_; (with_reducible refine (laws_lwHas.calls kj26 _ _ x8_3 (Int.tmod t157 (wrap64 (1 + (Int.tmod t138 12)))) false _ ?side1 ?side2 A33.out).mono ?_); (case side1 => repeat (first | exact (Kd.R_reads' HO_8.out).2.2 | (with_reducible refine Kd.C_alloc ?_ _) | (with_reducible refine Kd.C_drewN ?_ _) | (with_reducible refine Kd.C_drew ?_))); (case side2 => exact (Kd.R_reads' HO_8.out).2.1); rintro e w' ⟨rfl, ⟨nd, rfl⟩⟩; refine ⟨_, rfl, ?_⟩) | ((with_reducible refine gate_builtin (b := .append) (xs := #[.tmp 69, .tmp 71]) rfl ?_); (try (refine gate_guard (by rfl) ?_; dsimp only)); at_builtin; refine Kd.R_append (Kd.int .i64) (w0 := w) w.heap.size rfl (.tmp 69) (.tmp 71) 24 2 (.int .i64 0) 8 rfl Try.underlying24 info2 rfl (by decide) (by omega) (.slice Ao37 x8_3.length co37) x8_3 (Int.tmod t157 (wrap64 (1 + (Int.tmod t138 12)))) [.int .i64 (Int.tmod t157 (wrap64 (1 + (Int.tmod t138 12))))] (fun k_ => some k_ ≠ (.slice Ao13 t143.length co13 : Value).ownBlock) (fun _ => False) rfl rfl ?aP (fun _ hk => hk.elim) ?aF ?aO ?aB ?aS ?aL ?_; (case aP => exact rfl); (case aB => exact (by repeat (first | (with_reducible first | exact HB.out | apply below_alloc | apply pw_below_drewN | apply below_drew1 | refine below_set ?_ GE146.out) | exact HB.out))); (case aF => exact (fun k_ hk => Kd.fresh' (Kd.R_lt (by (with_reducible repeat (first | apply Kd.R_alloc | apply Kd.R_drewN | apply Kd.R_drew)); exact HO_147003.out)) k_ hk)); (case aO => exact (by (with_reducible repeat (first | apply Kd.R_alloc | apply Kd.R_drewN | apply Kd.R_drew)); exact HO_8.out)); (case aS => exact (below_size (by repeat (first | (with_reducible first | exact HB.out | apply below_alloc | apply pw_below_drewN | apply below_drew1 | refine below_set ?_ GE146.out) | exact HB.out)))); (case aL => have := LMc36.out; omega); intro v160 w38 ho hb hg hat; rw [← Ny159.out] at ho; have n0_ := Aside0.mk (Kd.R_after (ok := (fun _ => True)) (by (with_reducible repeat (first | apply Kd.R_alloc | apply Kd.R_drewN | apply Kd.R_drew)); exact Kd.R_mono HO_147003.out (fun _ hk => ⟨trivial, hk⟩)) hg hat); have n1_ := Aside0.mk (blk_grown (g := gb146) (o := .cells #[.int .i64 t140, .int .i64 t141, .int .i64 t142, .slice Ao13 t143.length co13] 36 (0, 0)) (by (with_reducible repeat (first | refine blk_drewN ?_ _ | refine blk_drew ?_ | refine blk_alloc ?_ _)); exact BK146.out) hg (Kd.R_ne HO_8.out BK146.out (by decide))); have n2_ := Aside0.mk (hb); have n3_ := Aside0.mk (ho); clear HO_147003; clear BK146; clear HB; clear HO_8; have HO_147003 := n0_; have BK146 := n1_; have HB := n2_; have HO161 := n3_; clear n0_ n1_ n2_ n3_; clear ho hb hg hat))
                              go_roundg kj26
                              case measure => have := HJ2.out; have := HJ8.out; have := HK3.out; have := HJ26.out; omega
                              case rel => exact ⟨(y159), (wrap64 (x9_3 + 1)), (by first | rfl | (simp; done) | (simp [*]; done)), H', ⟨by have := HJ2.out; have := HJ8.out; have := HK3.out; have := HJ26.out; omega⟩, ⟨by (with_reducible repeat (first | apply Kd.R_alloc | apply Kd.R_drewN | apply Kd.R_drew)); exact HO161.out⟩, ⟨by (with_reducible repeat (first | apply Kd.R_alloc | apply Kd.R_drewN | apply Kd.R_drew)); exact Kd.R_mono HO_147003.out (fun _ hk => hk.2)⟩, ⟨by (with_reducible repeat (first | refine blk_drewN ?_ _ | refine blk_drew ?_ | refine blk_alloc ?_ _)); exact BK146.out⟩, ⟨by repeat (first | (with_reducible first | exact HB.out | apply below_alloc | apply pw_below_drewN | apply below_drew1 | refine below_set ?_ GE146.out) | exact HB.out)⟩⟩
                            · rw [if_neg c36] at H
                              exact absurd H (by simp)
                      · replace c30 := Bool.eq_false_iff.mpr c30
                        subst c30
                        have H1 : (laws_FnCauchy.l1 kj26 l1 (wrap64 (1 + (Int.tmod t139 12))) x8_3 (([] : List Int)) 0 t140 t141 t142 t143) = some r := by rw [if_neg (show ¬ (false = true) by decide)] at H; exact H
                        clear H
                        have H := H1
                        clear H1
                        obtain ⟨y162, hy162⟩ : ∃ y_ : List Int, y_ = (([] : List Int)) := ⟨_, rfl⟩
                        replace H : (laws_FnCauchy.l1 kj26 l1 (wrap64 (1 + (Int.tmod t139 12))) x8_3 y162 0 t140 t141 t142 t143) = some r := by first | (rw [hy162]; with_reducible exact H) | (have H2_ := (Option.bind_some _ _).symm.trans H; rw [hy162]; with_reducible exact H2_) | (have H2_ := (Option.bind_some _ _).symm.trans H; with_reducible exact H2_) | with_reducible exact H | (rw [hy162]; exact H) | exact H
                        have Ny162 := Aside0.mk hy162
                        clear hy162
                        have H' := Aside0.mk H
                        clear H
                        go_wp2_with (first | ((with_reducible refine gate_dst (N := 73) rfl ?_); (try (refine gate_guard (by rfl) ?_; dsimp only)); refine Kd.R_lit (Kd.int .i64) _ 2 ?hg (N := 73) ?hd (xs := ([] : List Int)) (inner := []) (ok := fun _ => True) (okp := fun _ => True) ?hr ?hp (fun _ hk => hk) trivial (Below.refl _ _) (Nat.le_refl _) (by simp) ?_; (case hd => rfl); (case hg => rfl); (case hr => first | (go_simp; done) | (go_simp; rfl)); (case hp => exact (Reps.none _ _)); intro v163 w39 ho40 hb hg_ hnew_; clear hg_ hnew_; (first | rw [← Ny162.out] at ho40 | (simp only [Int.reduceToNat] at ho40; rw [← Ny162.out] at ho40)); have n0_ := Aside0.mk (Kd.R_elder' (by (with_reducible repeat (first | apply Kd.R_alloc | apply Kd.R_drewN | apply Kd.R_drew)); exact HO_8.out) (Kd.R_base ho40) hb); have n1_ := Aside0.mk (Kd.R_elder' (by (with_reducible repeat (first | apply Kd.R_alloc | apply Kd.R_drewN | apply Kd.R_drew)); exact HO_147003.out) (Kd.R_base ho40) hb); have n2_ := Aside0.mk (Kd.R_lower (Kd.R_new' (Kd.R_new' ho40 (Kd.R_lt (by (with_reducible repeat (first | apply Kd.R_alloc | apply Kd.R_drewN | apply Kd.R_drew)); exact HO_8.out))) (Kd.R_lt (by (with_reducible repeat (first | apply Kd.R_alloc | apply Kd.R_drewN | apply Kd.R_drew)); exact HO_147003.out))) (below_size (by repeat (first | (with_reducible first | exact HB.out | apply below_alloc | apply pw_below_drewN | apply below_drew1 | refine below_set ?_ GE146.out) | exact HB.out)))); have n3_ := Aside0.mk (blk_below (g := gb146) (o := .cells #[.int .i64 t140, .int .i64 t141, .int .i64 t142, .slice Ao13 t143.length co13] 36 (0, 0)) (by (with_reducible repeat (first | refine blk_drewN ?_ _ | refine blk_drew ?_ | refine blk_alloc ?_ _)); exact BK146.out) hb); have n4_ := Aside0.mk (below_step (by repeat (first | (with_reducible first | exact HB.out | apply below_alloc | apply pw_below_drewN | apply below_drew1 | refine below_set ?_ GE146.out) | exact HB.out)) hb); clear HO_8; clear HO_147003; clear BK146; clear HB; have HO_8 := n0_; have HO_147003 := n1_; have HO164 := n2_; have BK146 := n3_; have HB := n4_; clear n0_ n1_ n2_ n3_ n4_; clear hb ho40))
                        go_loopg [11, 12] kj26 (fun kq v11 v12 w' => ∃ (x11_5 : List Int) (x12_5 : Int), v12 = .int .i64 x12_5 ∧ Aside0 (laws_FnCauchy.l1 kq l1 (wrap64 (1 + (Int.tmod t139 12))) x8_3 x11_5 x12_5 t140 t141 t142 t143 = some r) ∧ Aside0 (kq ≤ kj26) ∧ Aside0 (Kd.R (Kd.int .i64) 2 w' w.heap.size (fun k_ => some k_ ≠ (v11 : Value).ownBlock ∧ some k_ ≠ ((.slice Ao13 t143.length co13) : Value).ownBlock) u8 x8_3) ∧ Aside0 (Kd.R (Kd.int .i64) 2 w' w.heap.size (fun k_ => some k_ ≠ (u8 : Value).ownBlock ∧ some k_ ≠ ((.slice Ao13 t143.length co13) : Value).ownBlock) v11 x11_5) ∧ Aside0 (Kd.R (Kd.int .i64) 2 w' w.heap.size (fun k_ => some k_ ≠ (u8 : Value).ownBlock ∧ some k_ ≠ (v11 : Value).ownBlock) (.slice Ao13 t143.length co13) t143) ∧ Aside0 (w'.heap[gb146]? = some (.cells #[.int .i64 t140, .int .i64 t141, .int .i64 t142, (.slice Ao13 t143.length co13)] 36 (0, 0))) ∧ Aside0 (Below w.heap.size w w'))
                        case atStart => exact ⟨(y162), (0), (by first | rfl | (simp; done) | (simp [*]; done)), H', ⟨Nat.le_refl _⟩, ⟨by (with_reducible repeat (first | apply Kd.R_alloc | apply Kd.R_drewN | apply Kd.R_drew)); exact Kd.R_mono HO_8.out (fun _ hk => ⟨hk.2, hk.1⟩)⟩, ⟨by (with_reducible repeat (first | apply Kd.R_alloc | apply Kd.R_drewN | apply Kd.R_drew)); exact Kd.R_mono HO164.out (fun _ hk => ⟨hk.1.2, hk.2⟩)⟩, ⟨by (with_reducible repeat (first | apply Kd.R_alloc | apply Kd.R_drewN | apply Kd.R_drew)); exact HO_147003.out⟩, ⟨by (with_reducible repeat (first | refine blk_drewN ?_ _ | refine blk_drew ?_ | refine blk_alloc ?_ _)); exact BK146.out⟩, ⟨by repeat (first | (with_reducible first | exact HB.out | apply below_alloc | apply pw_below_drewN | apply below_drew1 | refine below_set ?_ GE146.out) | exact HB.out)⟩⟩
                        case round =>
                          clear H'
                          try clear c1
                          try clear c2
                          try clear p2
                          try clear c3
                          try clear c4
                          try clear c4b0
                          try clear c4b1
                          try clear c5
                          try clear p6
                          try clear c10
                          try clear c14
                          try clear c14b0
                          try clear c14b1
                          try clear c24
                          try clear c28
                          try clear c28b0
                          try clear c30
                          try clear c32
                          try clear c32b0
                          try clear c32b1
                          try clear c34
                          try clear c36
                          try clear hcz12_0
                          try clear hcz12_1
                          try clear hcz12_2
                          try clear hcz12_3
                          try clear hfz12_0
                          try clear hfz12_1
                          try clear hfz12_2
                          try clear hfz12_3
                          try clear p2
                          try clear p6
                          obtain ⟨x11_5, x12_5, rfl, HA, HK5, HO_8, HO_11, HO_147003, BK146, HB⟩ := hrel
                          cases gk with
                          | zero => exact absurd HA.out (by simp [laws_FnCauchy.l1])
                          | succ k5 =>
                            have H := HA.out
                            clear HA
                            simp only [laws_FnCauchy.l1] at H
                            have HC41 := Aside0.mk H
                            clear H
                            go_upto_region 17 with (fail)
                            go_cut [82] (fun v82 wc => ∃ (kq : Nat) (x82_40 : Bool), v82 = .bool x82_40 ∧ Aside0 (laws_FnCauchy.j5 kq l1 (wrap64 (1 + (Int.tmod t139 12))) x8_3 x11_5 x12_5 x82_40 t140 t141 t142 t143 = some r) ∧ Aside0 (kq ≤ k5) ∧ Aside0 (Kd.R (Kd.int .i64) 2 wc w.heap.size (fun k_ => some k_ ≠ (u11 : Value).ownBlock ∧ some k_ ≠ ((.slice Ao13 t143.length co13) : Value).ownBlock) u8 x8_3) ∧ Aside0 (Kd.R (Kd.int .i64) 2 wc w.heap.size (fun k_ => some k_ ≠ (u8 : Value).ownBlock ∧ some k_ ≠ ((.slice Ao13 t143.length co13) : Value).ownBlock) u11 x11_5) ∧ Aside0 (Kd.R (Kd.int .i64) 2 wc w.heap.size (fun k_ => some k_ ≠ (u8 : Value).ownBlock ∧ some k_ ≠ (u11 : Value).ownBlock) (.slice Ao13 t143.length co13) t143) ∧ Aside0 (wc.heap[gb146]? = some (.cells #[.int .i64 t140, .int .i64 t141, .int .i64 t142, (.slice Ao13 t143.length co13)] 36 (0, 0))) ∧ Aside0 (Below w.heap.size w wc))
                            case first =>
                              have H := HC41.out
                              clear HC41
                              by_cases c42 : x12_5 < 40
                              · rw [if_pos c42] at H
                                have c42b0 : decide (x12_5 < 40) = true := decide_eq_true c42
                                clear c42
                                (first | rw [c42b0] | (simp only [i64_w, i32_w]; rw [c42b0]) | skip)
                                have H' := Aside0.mk H
                                clear H
                                obtain ⟨Ao43, co43, eo43⟩ := Kd.R_slice HO_11.out
                                subst eo43
                                obtain ⟨Ao44, co44, eo44⟩ := Kd.R_slice HO_8.out
                                subst eo44
                                go_wp2
                                go_meet
                                case rel => exact ⟨_, (decide ((x11_5.length : Int) < (x8_3.length : Int))), (by first | rfl | (simp; done) | (simp [*]; done)), H', ⟨by have := HJ2.out; have := HJ8.out; have := HK3.out; have := HJ26.out; have := HK5.out; first | omega | exact Nat.le_refl _⟩, ⟨by (with_reducible repeat (first | apply Kd.R_alloc | apply Kd.R_drewN | apply Kd.R_drew)); exact HO_8.out⟩, ⟨by (with_reducible repeat (first | apply Kd.R_alloc | apply Kd.R_drewN | apply Kd.R_drew)); exact HO_11.out⟩, ⟨by (with_reducible repeat (first | apply Kd.R_alloc | apply Kd.R_drewN | apply Kd.R_drew)); exact HO_147003.out⟩, ⟨by (with_reducible repeat (first | refine blk_drewN ?_ _ | refine blk_drew ?_ | refine blk_alloc ?_ _)); exact BK146.out⟩, ⟨by repeat (first | (with_reducible first | exact HB.out | apply below_alloc | apply pw_below_drewN | apply below_drew1 | refine below_set ?_ GE146.out) | exact HB.out)⟩⟩
                              · rw [if_neg c42] at H
                                have c42b0 : decide (x12_5 < 40) = false := decide_eq_false c42
                                clear c42
                                (first | rw [c42b0] | (simp only [i64_w, i32_w]; rw [c42b0]) | skip)
                                have H' := Aside0.mk H
                                clear H
                                go_wp2
                                go_meet
                                case rel => exact ⟨_, (false), (by first | rfl | (simp; done) | (simp [*]; done)), H', ⟨by have := HJ2.out; have := HJ8.out; have := HK3.out; have := HJ26.out; have := HK5.out; first | omega | exact Nat.le_refl _⟩, ⟨by (with_reducible repeat (first | apply Kd.R_alloc | apply Kd.R_drewN | apply Kd.R_drew)); exact HO_8.out⟩, ⟨by (with_reducible repeat (first | apply Kd.R_alloc | apply Kd.R_drewN | apply Kd.R_drew)); exact HO_11.out⟩, ⟨by (with_reducible repeat (first | apply Kd.R_alloc | apply Kd.R_drewN | apply Kd.R_drew)); exact HO_147003.out⟩, ⟨by (with_reducible repeat (first | refine blk_drewN ?_ _ | refine blk_drew ?_ | refine blk_alloc ?_ _)); exact BK146.out⟩, ⟨by repeat (first | (with_reducible first | exact HB.out | apply below_alloc | apply pw_below_drewN | apply below_drew1 | refine below_set ?_ GE146.out) | exact HB.out)⟩⟩
                            case rest =>
                              clear HC41
                              try clear c1
                              try clear c2
                              try clear p2
                              try clear c3
                              try clear c4
                              try clear c4b0
                              try clear c4b1
                              try clear c5
                              try clear p6
                              try clear c10
                              try clear c14
                              try clear c14b0
                              try clear c14b1
                              try clear c24
                              try clear c28
                              try clear c28b0
                              try clear c30
                              try clear c32
                              try clear c32b0
                              try clear c32b1
                              try clear c34
                              try clear c36
                              try clear c42
                              try clear c42b0
                              try clear hcz12_0
                              try clear hcz12_1
                              try clear hcz12_2
                              try clear hcz12_3
                              try clear hfz12_0
                              try clear hfz12_1
                              try clear hfz12_2
                              try clear hfz12_3
                              try clear p2
                              try clear p6
                              obtain ⟨kq, x82_40, rfl, HA, HJ40, HO_8, HO_11, HO_147003, BK146, HB⟩ := hcut
                              cases kq with
                              | zero => exact absurd HA.out (by simp [laws_FnCauchy.j5])
                              | succ kj40 =>
                                have H := HA.out
                                clear HA
                                simp only [laws_FnCauchy.j5] at H
                                by_cases c45 : x82_40 = true
                                · subst c45
                                  have H1 : ((laws_lwAt.f l1 (wrap64 (20 + x12_5))).bind fun t165 => (if (wrap64 (1 + (Int.tmod t139 12))) = 0 then (none) else ((laws_lwHas.f kj40 x11_5 (Int.tmod t165 (wrap64 (1 + (Int.tmod t139 12))))).bind fun t166 => (if t166 = true then (laws_FnCauchy.l1 kj40 l1 (wrap64 (1 + (Int.tmod t139 12))) x8_3 x11_5 (wrap64 (x12_5 + 1)) t140 t141 t142 t143) else (if x11_5.length < 17592186044416 then (laws_FnCauchy.l1 kj40 l1 (wrap64 (1 + (Int.tmod t139 12))) x8_3 (x11_5 ++ [Int.tmod t165 (wrap64 (1 + (Int.tmod t139 12)))]) (wrap64 (x12_5 + 1)) t140 t141 t142 t143) else (none)))))) = some r := by rw [if_pos rfl] at H; exact H
                                  clear H
                                  have H := H1
                                  clear H1
                                  replace H := Option.bind_eq_some_iff.mp H
                                  obtain ⟨t165, A460, H⟩ := H
                                  replace H : (if (wrap64 (1 + (Int.tmod t139 12))) = 0 then (none) else ((laws_lwHas.f kj40 x11_5 (Int.tmod t165 (wrap64 (1 + (Int.tmod t139 12))))).bind fun t166 => (if t166 = true then (laws_FnCauchy.l1 kj40 l1 (wrap64 (1 + (Int.tmod t139 12))) x8_3 x11_5 (wrap64 (x12_5 + 1)) t140 t141 t142 t143) else (if x11_5.length < 17592186044416 then (laws_FnCauchy.l1 kj40 l1 (wrap64 (1 + (Int.tmod t139 12))) x8_3 (x11_5 ++ [Int.tmod t165 (wrap64 (1 + (Int.tmod t139 12)))]) (wrap64 (x12_5 + 1)) t140 t141 t142 t143) else (none))))) = some r := H
                                  have A46 := Aside0.mk A460
                                  clear A460
                                  by_cases c47 : (wrap64 (1 + (Int.tmod t139 12))) = 0
                                  · rw [if_pos c47] at H
                                    exact absurd H (by simp)
                                  · rw [if_neg c47] at H
                                    have c47b0 : ((wrap64 (1 + (Int.tmod t139 12))) == 0) = false := beq_eq_false_iff_ne.mpr c47
                                    have c47b1 : ((wrap64 (1 + (Int.tmod t139 12))) != 0) = true := bne_iff_ne.mpr c47
                                    replace H := Option.bind_eq_some_iff.mp H
                                    obtain ⟨t166, A480, H⟩ := H
                                    replace H : (if t166 = true then (laws_FnCauchy.l1 kj40 l1 (wrap64 (1 + (Int.tmod t139 12))) x8_3 x11_5 (wrap64 (x12_5 + 1)) t140 t141 t142 t143) else (if x11_5.length < 17592186044416 then (laws_FnCauchy.l1 kj40 l1 (wrap64 (1 + (Int.tmod t139 12))) x8_3 (x11_5 ++ [Int.tmod t165 (wrap64 (1 + (Int.tmod t139 12)))]) (wrap64 (x12_5 + 1)) t140 t141 t142 t143) else (none))) = some r := H
                                    have A48 := Aside0.mk A480
                                    clear A480
                                    by_cases c49 : t166 = true
                                    · subst c49
                                      have H1 : (laws_FnCauchy.l1 kj40 l1 (wrap64 (1 + (Int.tmod t139 12))) x8_3 x11_5 (wrap64 (x12_5 + 1)) t140 t141 t142 t143) = some r := by rw [if_pos rfl] at H; exact H
                                      clear H
                                      have H := H1
                                      clear H1
                                      have H' := Aside0.mk H
                                      clear H
                                      go_wp2_with (first | ((with_reducible refine gate_callee (f := 55) rfl ?_); refine goesL_ (some 88) rfl rfl Try.func55 (by kernel_rfl) rfl #[.slice A1 l1.length c1, .int .i64 (wrap64 (20 + x12_5))] rfl (by (try simp only [List.map_toArray, List.map_cons, List.map_nil]); first | done | rfl | (simp only [List.length_drop, List.length_take]; rfl)) ?_; (with_reducible refine (laws_lwAt.calls _ _ l1 (wrap64 (20 + x12_5)) t165 _ ?side1 ?side2 A46.out).mono ?_); (case side1 => repeat (first | exact (Kd.C_below HR1.out HB.out) | (with_reducible refine Kd.C_alloc ?_ _) | (with_reducible refine Kd.C_drewN ?_ _) | (with_reducible refine Kd.C_drew ?_))); (case side2 => exact HC1.out); rintro e w' ⟨rfl, ⟨nd, rfl⟩⟩; refine ⟨_, rfl, ?_⟩; obtain ⟨Ao50, co50, eo50⟩ := Kd.R_slice HO_11.out; subst eo50) | ((with_reducible refine gate_callee (f := 59) rfl ?_); refine goesL_ (some 93) rfl rfl Try.func59 (by kernel_rfl) rfl #[.slice Ao50 x11_5.length co50, .int .i64 (Int.tmod t165 (wrap64 (1 + (Int.tmod t139 12))))] rfl (by (try simp only [List.map_toArray, List.map_cons, List.map_nil]); first | done | rfl | (simp only [List.length_drop, List.length_take]; rfl)) ?_; (with_reducible refine (laws_lwHas.calls kj40 _ _ x11_5 (Int.tmod t165 (wrap64 (1 + (Int.tmod t139 12)))) true _ ?side1 ?side2 A48.out).mono ?_); (case side1 => repeat (first | exact (Kd.R_reads' HO_11.out).2.2 | (with_reducible refine Kd.C_alloc ?_ _) | (with_reducible refine Kd.C_drewN ?_ _) | (with_reducible refine Kd.C_drew ?_))); (case side2 => exact (Kd.R_reads' HO_11.out).2.1); rintro e w' ⟨rfl, ⟨nd, rfl⟩⟩; refine ⟨_, rfl, ?_⟩))
                                      go_roundg kj40
                                      case measure => have := HJ2.out; have := HJ8.out; have := HK3.out; have := HJ26.out; have := HK5.out; have := HJ40.out; omega
                                      case rel => exact ⟨(x11_5), (wrap64 (x12_5 + 1)), (by first | rfl | (simp; done) | (simp [*]; done)), H', ⟨by have := HJ2.out; have := HJ8.out; have := HK3.out; have := HJ26.out; have := HK5.out; have := HJ40.out; omega⟩, ⟨by (with_reducible repeat (first | apply Kd.R_alloc | apply Kd.R_drewN | apply Kd.R_drew)); exact HO_8.out⟩, ⟨by (with_reducible repeat (first | apply Kd.R_alloc | apply Kd.R_drewN | apply Kd.R_drew)); exact HO_11.out⟩, ⟨by (with_reducible repeat (first | apply Kd.R_alloc | apply Kd.R_drewN | apply Kd.R_drew)); exact HO_147003.out⟩, ⟨by (with_reducible repeat (first | refine blk_drewN ?_ _ | refine blk_drew ?_ | refine blk_alloc ?_ _)); exact BK146.out⟩, ⟨by repeat (first | (with_reducible first | exact HB.out | apply below_alloc | apply pw_below_drewN | apply below_drew1 | refine below_set ?_ GE146.out) | exact HB.out)⟩⟩
                                    · replace c49 := Bool.eq_false_iff.mpr c49
                                      subst c49
                                      have H1 : (if x11_5.length < 17592186044416 then (laws_FnCauchy.l1 kj40 l1 (wrap64 (1 + (Int.tmod t139 12))) x8_3 (x11_5 ++ [Int.tmod t165 (wrap64 (1 + (Int.tmod t139 12)))]) (wrap64 (x12_5 + 1)) t140 t141 t142 t143) else (none)) = some r := by rw [if_neg (show ¬ (false = true) by decide)] at H; exact H
                                      clear H
                                      have H := H1
                                      clear H1
                                      by_cases c51 : x11_5.length < 17592186044416
                                      · rw [if_pos c51] at H
                                        have LMc51 := Aside0.mk c51
                                        clear c51
                                        obtain ⟨y167, hy167⟩ : ∃ y_ : List Int, y_ = (x11_5 ++ [Int.tmod t165 (wrap64 (1 + (Int.tmod t139 12)))]) := ⟨_, rfl⟩
                                        replace H : (laws_FnCauchy.l1 kj40 l1 (wrap64 (1 + (Int.tmod t139 12))) x8_3 y167 (wrap64 (x12_5 + 1)) t140 t141 t142 t143) = some r := by first | (rw [hy167]; with_reducible exact H) | (have H2_ := (Option.bind_some _ _).symm.trans H; rw [hy167]; with_reducible exact H2_) | (have H2_ := (Option.bind_some _ _).symm.trans H; with_reducible exact H2_) | with_reducible exact H | (rw [hy167]; exact H) | exact H
                                        have Ny167 := Aside0.mk hy167
                                        clear hy167
                                        have H' := Aside0.mk H
                                        clear H
                                        go_wp2_with (first | ((with_reducible refine gate_callee (f := 55) rfl ?_); refine goesL_ (some 88) rfl rfl Try.func55 (by kernel_rfl) rfl #[.slice A1 l1.length c1, .int .i64 (wrap64 (20 + x12_5))] rfl (by (try simp only [List.map_toArray, List.map_cons, List.map_nil]); first | done | rfl | (simp only [List.length_drop, List.length_take]; rfl)) ?_; (with_reducible refine (laws_lwAt.calls _ _ l1 (wrap64 (20 + x12_5)) t165 _ ?side1 ?side2 A46.out).mono ?_); (case side1 => repeat (first | exact (Kd.C_below HR1.out HB.out) | (with_reducible refine Kd.C_alloc ?_ _) | (with_reducible refine Kd.C_drewN ?_ _) | (with_reducible refine Kd.C_drew ?_))); (case side2 => exact HC1.out); rintro e w' ⟨rfl, ⟨nd, rfl⟩⟩; refine ⟨_, rfl, ?_⟩; obtain ⟨Ao52, co52, eo52⟩ := Kd.R_slice HO_11.out; subst eo52) | ((with_reducible refine gate_callee (f := 59) rfl ?_); refine goesL_ (some 93) rfl rfl Try.func59 (by kernel_rfl) rfl #[.slice Ao52 x11_5.length co52, .int .i64 (Int.tmod t165 (wrap64 (1 + (Int.tmod t139 12))))] rfl (by (try simp only [List.map_toArray, List.map_cons, List.map_nil]); first | done | rfl | (simp only [List.length_drop, List.length_take]; rfl)) ?_; (with_reducible refine (laws_lwHas.calls kj40 _ _ x11_5 (Int.tmod t165 (wrap64 (1 + (Int.tmod t139 12)))) false _ ?side1 ?side2 A48.out).mono ?_); (case side1 => repeat (first | exact (Kd.R_reads' HO_11.out).2.2 | (with_reducible refine Kd.C_alloc ?_ _) | (with_reducible refine Kd.C_drewN ?_ _) | (with_reducible refine Kd.C_drew ?_))); (case side2 => exact (Kd.R_reads' HO_11.out).2.1); rintro e w' ⟨rfl, ⟨nd, rfl⟩⟩; refine ⟨_, rfl, ?_⟩) | ((with_reducible refine gate_builtin (b := .append) (xs := #[.tmp 95, .tmp 97]) rfl ?_); (try (refine gate_guard (by rfl) ?_; dsimp only)); at_builtin; refine Kd.R_append (Kd.int .i64) (w0 := w) w.heap.size rfl (.tmp 95) (.tmp 97) 24 2 (.int .i64 0) 8 rfl Try.underlying24 info2 rfl (by decide) (by omega) (.slice Ao52 x11_5.length co52) x11_5 (Int.tmod t165 (wrap64 (1 + (Int.tmod t139 12)))) [.int .i64 (Int.tmod t165 (wrap64 (1 + (Int.tmod t139 12))))] (fun k_ => some k_ ≠ (u8 : Value).ownBlock ∧ some k_ ≠ (.slice Ao13 t143.length co13 : Value).ownBlock) (fun _ => False) rfl rfl ?aP (fun _ hk => hk.elim) ?aF ?aO ?aB ?aS ?aL ?_; (case aP => exact rfl); (case aB => exact (by repeat (first | (with_reducible first | exact HB.out | apply below_alloc | apply pw_below_drewN | apply below_drew1 | refine below_set ?_ GE146.out) | exact HB.out))); (case aF => exact (fun k_ hk => ⟨Kd.fresh' (Kd.R_lt (by (with_reducible repeat (first | apply Kd.R_alloc | apply Kd.R_drewN | apply Kd.R_drew)); exact HO_8.out)) k_ hk, Kd.fresh' (Kd.R_lt (by (with_reducible repeat (first | apply Kd.R_alloc | apply Kd.R_drewN | apply Kd.R_drew)); exact HO_147003.out)) k_ hk⟩)); (case aO => exact (by (with_reducible repeat (first | apply Kd.R_alloc | apply Kd.R_drewN | apply Kd.R_drew)); exact HO_11.out)); (case aS => exact (below_size (by repeat (first | (with_reducible first | exact HB.out | apply below_alloc | apply pw_below_drewN | apply below_drew1 | refine below_set ?_ GE146.out) | exact HB.out)))); (case aL => have := LMc51.out; omega); intro v168 w53 ho hb hg hat; rw [← Ny167.out] at ho; have n0_ := Aside0.mk (Kd.R_after (ok := (fun k_ => some k_ ≠ (.slice Ao13 t143.length co13 : Value).ownBlock)) (by (with_reducible repeat (first | apply Kd.R_alloc | apply Kd.R_drewN | apply Kd.R_drew)); exact Kd.R_mono HO_8.out (fun _ hk => ⟨hk.2, hk.1⟩)) hg hat); have n1_ := Aside0.mk (Kd.R_after (ok := (fun k_ => some k_ ≠ (u8 : Value).ownBlock)) (by (with_reducible repeat (first | apply Kd.R_alloc | apply Kd.R_drewN | apply Kd.R_drew)); exact HO_147003.out) hg hat); have n2_ := Aside0.mk (blk_grown (g := gb146) (o := .cells #[.int .i64 t140, .int .i64 t141, .int .i64 t142, .slice Ao13 t143.length co13] 36 (0, 0)) (by (with_reducible repeat (first | refine blk_drewN ?_ _ | refine blk_drew ?_ | refine blk_alloc ?_ _)); exact BK146.out) hg (Kd.R_ne HO_11.out BK146.out (by decide))); have n3_ := Aside0.mk (hb); have n4_ := Aside0.mk (ho); clear HO_8; clear HO_147003; clear BK146; clear HB; clear HO_11; have HO_8 := n0_; have HO_147003 := n1_; have BK146 := n2_; have HB := n3_; have HO169 := n4_; clear n0_ n1_ n2_ n3_ n4_; clear ho hb hg hat))
                                        go_roundg kj40
                                        case measure => have := HJ2.out; have := HJ8.out; have := HK3.out; have := HJ26.out; have := HK5.out; have := HJ40.out; omega
                                        case rel => exact ⟨(y167), (wrap64 (x12_5 + 1)), (by first | rfl | (simp; done) | (simp [*]; done)), H', ⟨by have := HJ2.out; have := HJ8.out; have := HK3.out; have := HJ26.out; have := HK5.out; have := HJ40.out; omega⟩, ⟨by (with_reducible repeat (first | apply Kd.R_alloc | apply Kd.R_drewN | apply Kd.R_drew)); exact Kd.R_mono HO_8.out (fun _ hk => ⟨hk.2, hk.1⟩)⟩, ⟨by (with_reducible repeat (first | apply Kd.R_alloc | apply Kd.R_drewN | apply Kd.R_drew)); exact HO169.out⟩, ⟨by (with_reducible repeat (first | apply Kd.R_alloc | apply Kd.R_drewN | apply Kd.R_drew)); exact HO_147003.out⟩, ⟨by (with_reducible repeat (first | refine blk_drewN ?_ _ | refine blk_drew ?_ | refine blk_alloc ?_ _)); exact BK146.out⟩, ⟨by repeat (first | (with_reducible first | exact HB.out | apply below_alloc | apply pw_below_drewN | apply below_drew1 | refine below_set ?_ GE146.out) | exact HB.out)⟩⟩
                                      · rw [if_neg c51] at H
                                        exact absurd H (by simp)
                                · replace c45 := Bool.eq_false_iff.mpr c45
                                  subst c45
                                  have H1 : (laws_FnCauchy.l2 kj40 (wrap64 (1 + (Int.tmod t139 12))) x8_3 x11_5 (x11_5.length : Int) 0 t140 t141 t142 t143 (x11_5.length : Int) (x11_5.length : Int) ([] : List Int)) = some r := by rw [if_neg (show ¬ (false = true) by decide)] at H; exact H
                                  clear H
                                  have H := H1
                                  clear H1
                                  have H' := Aside0.mk H
                                  clear H
                                  obtain ⟨Ao54, co54, eo54⟩ := Kd.R_slice HO_11.out
                                  subst eo54
                                  go_wp2_with (first | ((with_reducible refine gate_dst (N := 15) rfl ?_); (try (refine gate_guard (by rfl) ?_; dsimp only)); refine box_event ?hg (N := 15) ?hd (cs := #[.int .i64 0, .int .i64 0, .slice none 0 0]) (t := 34) ?hr ?_; (case hd => rfl); (case hg => rfl); (case hr => first | (go_simp; done) | (go_simp; rfl)); intro gb170 hg w55 hbox hb; have n0_ := Aside0.mk (Kd.R_below (by (with_reducible repeat (first | apply Kd.R_alloc | apply Kd.R_drewN | apply Kd.R_drew)); exact HO_8.out) hb); have n1_ := Aside0.mk (Kd.R_below (by (with_reducible repeat (first | apply Kd.R_alloc | apply Kd.R_drewN | apply Kd.R_drew)); exact HO_11.out) hb); have n2_ := Aside0.mk (Kd.R_below (by (with_reducible repeat (first | apply Kd.R_alloc | apply Kd.R_drewN | apply Kd.R_drew)); exact HO_147003.out) hb); have n3_ := Aside0.mk (blk_below (g := gb146) (o := .cells #[.int .i64 t140, .int .i64 t141, .int .i64 t142, .slice Ao13 t143.length co13] 36 (0, 0)) (by (with_reducible repeat (first | refine blk_drewN ?_ _ | refine blk_drew ?_ | refine blk_alloc ?_ _)); exact BK146.out) hb); have n4_ := Aside0.mk (below_step (by repeat (first | (with_reducible first | exact HB.out | apply below_alloc | apply pw_below_drewN | apply below_drew1 | refine below_set ?_ GE146.out) | exact HB.out)) hb); have n5_ := Aside0.mk (hbox); have n6_ := Aside0.mk ((by rw [hg]; exact (below_size (by repeat (first | (with_reducible first | exact HB.out | apply below_alloc | apply pw_below_drewN | apply below_drew1 | refine below_set ?_ GE146.out) | exact HB.out))) : w.heap.size ≤ gb170)); have n7_ := Aside0.mk ((by rw [hg]; exact (below_size (by repeat (first | (with_reducible first | exact HB.out | apply below_alloc | apply pw_below_drewN | apply below_drew1 | refine below_set ?_ GE146.out) | exact HB.out))) : w.heap.size ≤ gb170)); have n8_ := Aside0.mk ((by rw [hg]; exact Nat.ne_of_lt (blk_lt (g := gb146) (o := .cells #[.int .i64 t140, .int .i64 t141, .int .i64 t142, .slice Ao13 t143.length co13] 36 (0, 0)) (by (with_reducible repeat (first | refine blk_drewN ?_ _ | refine blk_drew ?_ | refine blk_alloc ?_ _)); exact BK146.out)) : gb146 ≠ gb170)); have n9_ := Aside0.mk ((by rw [hg]; exact Nat.ne_of_gt (blk_lt (g := gb146) (o := .cells #[.int .i64 t140, .int .i64 t141, .int .i64 t142, .slice Ao13 t143.length co13] 36 (0, 0)) (by (with_reducible repeat (first | refine blk_drewN ?_ _ | refine blk_drew ?_ | refine blk_alloc ?_ _)); exact BK146.out)) : gb170 ≠ gb146)); clear HO_8; clear HO_11; clear HO_147003; clear BK146; clear HB; have HO_8 := n0_; have HO_11 := n1_; have HO_147003 := n2_; have BK146 := n3_; have HB := n4_; have BK170 := n5_; have GW170 := n6_; have GE170 := n7_; have NB146_170 := n8_; have NB170_146 := n9_; clear n0_ n1_ n2_ n3_ n4_ n5_ n6_ n7_ n8_ n9_; clear hb hbox hg; have hnb56 := NB170_146.out; have hnc56 := NB146_170.out; have hcz57_0 : w55.cell? ⟨gb170, 0, none⟩ = some (.int .i64 0) := (blk_cell BK170.out 0).trans rfl; have hcz57_1 : w55.cell? ⟨gb170, 1, none⟩ = some (.int .i64 0) := (blk_cell BK170.out 1).trans rfl; have hcz57_2 : w55.cell? ⟨gb170, 2, none⟩ = some (.slice none 0 0) := (blk_cell BK170.out 2).trans rfl; have hfz57_0 := blk_frozen BK170.out 0; have hfz57_1 := blk_frozen BK170.out 1; have hfz57_2 := blk_frozen BK170.out 2))
                                  go_loopg [16] kj40 (fun kq v16 w' => ∃ (x16_7 : Int) (x171002_7 : List Int) (u171002 : Value), v16 = .int .i64 x16_7 ∧ Aside0 (laws_FnCauchy.l2 kq (wrap64 (1 + (Int.tmod t139 12))) x8_3 x11_5 (x11_5.length : Int) x16_7 t140 t141 t142 t143 (x11_5.length : Int) (x11_5.length : Int) x171002_7 = some r) ∧ Aside0 (kq ≤ kj40) ∧ Aside0 (Kd.R (Kd.int .i64) 2 w' w.heap.size (fun k_ => some k_ ≠ ((.slice Ao54 x11_5.length co54) : Value).ownBlock ∧ some k_ ≠ ((.slice Ao13 t143.length co13) : Value).ownBlock ∧ some k_ ≠ (u171002 : Value).ownBlock) u8 x8_3) ∧ Aside0 (Kd.R (Kd.int .i64) 2 w' w.heap.size (fun k_ => some k_ ≠ (u8 : Value).ownBlock ∧ some k_ ≠ ((.slice Ao13 t143.length co13) : Value).ownBlock ∧ some k_ ≠ (u171002 : Value).ownBlock) (.slice Ao54 x11_5.length co54) x11_5) ∧ Aside0 (Kd.R (Kd.int .i64) 2 w' w.heap.size (fun k_ => some k_ ≠ (u8 : Value).ownBlock ∧ some k_ ≠ ((.slice Ao54 x11_5.length co54) : Value).ownBlock ∧ some k_ ≠ (u171002 : Value).ownBlock) (.slice Ao13 t143.length co13) t143) ∧ Aside0 (Kd.R (Kd.int .i64) 2 w' w.heap.size (fun k_ => some k_ ≠ (u8 : Value).ownBlock ∧ some k_ ≠ ((.slice Ao54 x11_5.length co54) : Value).ownBlock ∧ some k_ ≠ ((.slice Ao13 t143.length co13) : Value).ownBlock) u171002 x171002_7) ∧ Aside0 (w'.heap[gb146]? = some (.cells #[.int .i64 t140, .int .i64 t141, .int .i64 t142, (.slice Ao13 t143.length co13)] 36 (0, 0))) ∧ Aside0 (w'.heap[gb170]? = some (.cells #[.int .i64 (x11_5.length : Int), .int .i64 (x11_5.length : Int), u171002] 34 (0, 0))) ∧ Aside0 (Below w.heap.size w w'))
                                  case atStart => exact ⟨(0), (([] : List Int)), (.slice none 0 0), (by first | rfl | (simp; done) | (simp [*]; done)), H', ⟨Nat.le_refl _⟩, ⟨by (with_reducible repeat (first | apply Kd.R_alloc | apply Kd.R_drewN | apply Kd.R_drew)); exact Kd.R_mono (Kd.R_far (p := ⟨gb170, 2, none⟩) (Kd.R_far (p := ⟨gb170, 1, none⟩) (Kd.R_far (p := ⟨gb170, 0, none⟩) (Kd.R_types HO_8.out BK170.out (by decide)) (fun _ hk => hk.2) (.int .i64 (x11_5.length : Int))) (fun _ hk => hk.2) (.int .i64 (x11_5.length : Int))) (fun _ hk => hk.2) (.slice none 0 0)) (fun _ hk => ⟨hk.1.1, ⟨hk.1.2, (by simp [Value.ownBlock])⟩⟩)⟩, ⟨by (with_reducible repeat (first | apply Kd.R_alloc | apply Kd.R_drewN | apply Kd.R_drew)); exact Kd.R_mono (Kd.R_far (p := ⟨gb170, 2, none⟩) (Kd.R_far (p := ⟨gb170, 1, none⟩) (Kd.R_far (p := ⟨gb170, 0, none⟩) (Kd.R_types HO_11.out BK170.out (by decide)) (fun _ hk => hk.2) (.int .i64 (x11_5.length : Int))) (fun _ hk => hk.2) (.int .i64 (x11_5.length : Int))) (fun _ hk => hk.2) (.slice none 0 0)) (fun _ hk => ⟨hk.1.1, ⟨hk.1.2, (by simp [Value.ownBlock])⟩⟩)⟩, ⟨by (with_reducible repeat (first | apply Kd.R_alloc | apply Kd.R_drewN | apply Kd.R_drew)); exact Kd.R_mono (Kd.R_far (p := ⟨gb170, 2, none⟩) (Kd.R_far (p := ⟨gb170, 1, none⟩) (Kd.R_far (p := ⟨gb170, 0, none⟩) (Kd.R_types HO_147003.out BK170.out (by decide)) (fun _ hk => hk.2) (.int .i64 (x11_5.length : Int))) (fun _ hk => hk.2) (.int .i64 (x11_5.length : Int))) (fun _ hk => hk.2) (.slice none 0 0)) (fun _ hk => ⟨hk.1.1, ⟨hk.1.2, (by simp [Value.ownBlock])⟩⟩)⟩, ⟨by first | exact Kd.R_nil _ _ _ _ _ | exact Kd.N_nil _ _ _ _ _ | exact Kd.V_nil _ _ _ _ _ | exact Kd.Q_nil _ _ _ _ _ | exact Kd.S_nil _ _ _ _ _⟩, ⟨by (with_reducible repeat (first | refine blk_drewN ?_ _ | refine blk_drew ?_ | refine blk_alloc ?_ _)); refine blk_far ?_ NB146_170.out _; (with_reducible repeat (first | refine blk_drewN ?_ _ | refine blk_drew ?_ | refine blk_alloc ?_ _)); refine blk_far ?_ NB146_170.out _; (with_reducible repeat (first | refine blk_drewN ?_ _ | refine blk_drew ?_ | refine blk_alloc ?_ _)); refine blk_far ?_ NB146_170.out _; (with_reducible repeat (first | refine blk_drewN ?_ _ | refine blk_drew ?_ | refine blk_alloc ?_ _)); exact BK146.out⟩, ⟨by (with_reducible repeat (first | refine blk_drewN ?_ _ | refine blk_drew ?_ | refine blk_alloc ?_ _)); refine blk_put (cs := #[.int .i64 (x11_5.length : Int), .int .i64 (x11_5.length : Int), .slice none 0 0]) ?_ 2 _ rfl; (with_reducible repeat (first | refine blk_drewN ?_ _ | refine blk_drew ?_ | refine blk_alloc ?_ _)); refine blk_put (cs := #[.int .i64 (x11_5.length : Int), .int .i64 0, .slice none 0 0]) ?_ 1 _ rfl; (with_reducible repeat (first | refine blk_drewN ?_ _ | refine blk_drew ?_ | refine blk_alloc ?_ _)); refine blk_put (cs := #[.int .i64 0, .int .i64 0, .slice none 0 0]) ?_ 0 _ rfl; (with_reducible repeat (first | refine blk_drewN ?_ _ | refine blk_drew ?_ | refine blk_alloc ?_ _)); exact BK170.out⟩, ⟨by repeat (first | (with_reducible first | exact HB.out | apply below_alloc | apply pw_below_drewN | apply below_drew1 | refine below_set ?_ GE146.out | refine below_set ?_ GE170.out) | exact HB.out)⟩⟩
                                  case round =>
                                    clear H'
                                    try clear c1
                                    try clear c2
                                    try clear p2
                                    try clear c3
                                    try clear c4
                                    try clear c4b0
                                    try clear c4b1
                                    try clear c5
                                    try clear p6
                                    try clear c10
                                    try clear c14
                                    try clear c14b0
                                    try clear c14b1
                                    try clear c24
                                    try clear c28
                                    try clear c28b0
                                    try clear c30
                                    try clear c32
                                    try clear c32b0
                                    try clear c32b1
                                    try clear c34
                                    try clear c36
                                    try clear c42
                                    try clear c42b0
                                    try clear c45
                                    try clear c47
                                    try clear c47b0
                                    try clear c47b1
                                    try clear c49
                                    try clear c51
                                    try clear c55
                                    try clear c56
                                    try clear c57
                                    try clear hcz12_0
                                    try clear hcz12_1
                                    try clear hcz12_2
                                    try clear hcz12_3
                                    try clear hcz57_0
                                    try clear hcz57_1
                                    try clear hcz57_2
                                    try clear hfz12_0
                                    try clear hfz12_1
                                    try clear hfz12_2
                                    try clear hfz12_3
                                    try clear hfz57_0
                                    try clear hfz57_1
                                    try clear hfz57_2
                                    try clear p2
                                    try clear p6
                                    obtain ⟨x16_7, x171002_7, u171002, rfl, HA, HK7, HO_8, HO_11, HO_147003, HO_171002, BK146, BK170, HB⟩ := hrel
                                    cases gk with
                                    | zero => exact absurd HA.out (by simp [laws_FnCauchy.l2])
                                    | succ k7 =>
                                      have H := HA.out
                                      clear HA
                                      simp only [laws_FnCauchy.l2] at H
                                      by_cases c58 : x16_7 < (x11_5.length : Int)
                                      · rw [if_pos c58] at H
                                        have c58b0 : decide (x16_7 < (x11_5.length : Int)) = true := decide_eq_true c58
                                        clear c58
                                        have H' := Aside0.mk H
                                        clear H
                                        go_wp2
                                        go_loopg [17] k7 (fun kq v17 w' => ∃ (x17_8 : Int) (x171002_8 : List Int) (u171002 : Value), v17 = .int .i64 x17_8 ∧ Aside0 (laws_FnCauchy.l3 kq (wrap64 (1 + (Int.tmod t139 12))) x8_3 x11_5 (x11_5.length : Int) x16_7 x17_8 t140 t141 t142 t143 (x11_5.length : Int) (x11_5.length : Int) x171002_8 = some r) ∧ Aside0 (kq ≤ k7) ∧ Aside0 (Kd.R (Kd.int .i64) 2 w' w.heap.size (fun k_ => some k_ ≠ ((.slice Ao54 x11_5.length co54) : Value).ownBlock ∧ some k_ ≠ ((.slice Ao13 t143.length co13) : Value).ownBlock ∧ some k_ ≠ (u171002 : Value).ownBlock) u8 x8_3) ∧ Aside0 (Kd.R (Kd.int .i64) 2 w' w.heap.size (fun k_ => some k_ ≠ (u8 : Value).ownBlock ∧ some k_ ≠ ((.slice Ao13 t143.length co13) : Value).ownBlock ∧ some k_ ≠ (u171002 : Value).ownBlock) (.slice Ao54 x11_5.length co54) x11_5) ∧ Aside0 (Kd.R (Kd.int .i64) 2 w' w.heap.size (fun k_ => some k_ ≠ (u8 : Value).ownBlock ∧ some k_ ≠ ((.slice Ao54 x11_5.length co54) : Value).ownBlock ∧ some k_ ≠ (u171002 : Value).ownBlock) (.slice Ao13 t143.length co13) t143) ∧ Aside0 (Kd.R (Kd.int .i64) 2 w' w.heap.size (fun k_ => some k_ ≠ (u8 : Value).ownBlock ∧ some k_ ≠ ((.slice Ao54 x11_5.length co54) : Value).ownBlock ∧ some k_ ≠ ((.slice Ao13 t143.length co13) : Value).ownBlock) u171002 x171002_8) ∧ Aside0 (w'.heap[gb146]? = some (.cells #[.int .i64 t140, .int .i64 t141, .int .i64 t142, (.slice Ao13 t143.length co13)] 36 (0, 0))) ∧ Aside0 (w'.heap[gb170]? = some (.cells #[.int .i64 (x11_5.length : Int), .int .i64 (x11_5.length : Int), u171002] 34 (0, 0))) ∧ Aside0 (Below w.heap.size w w'))
                                        case atStart => exact ⟨(0), (x171002_7), (u171002), (by first | rfl | (simp; done) | (simp [*]; done)), H', ⟨Nat.le_refl _⟩, ⟨by (with_reducible repeat (first | apply Kd.R_alloc | apply Kd.R_drewN | apply Kd.R_drew)); exact HO_8.out⟩, ⟨by (with_reducible repeat (first | apply Kd.R_alloc | apply Kd.R_drewN | apply Kd.R_drew)); exact HO_11.out⟩, ⟨by (with_reducible repeat (first | apply Kd.R_alloc | apply Kd.R_drewN | apply Kd.R_drew)); exact HO_147003.out⟩, ⟨by (with_reducible repeat (first | apply Kd.R_alloc | apply Kd.R_drewN | apply Kd.R_drew)); exact HO_171002.out⟩, ⟨by (with_reducible repeat (first | refine blk_drewN ?_ _ | refine blk_drew ?_ | refine blk_alloc ?_ _)); exact BK146.out⟩, ⟨by (with_reducible repeat (first | refine blk_drewN ?_ _ | refine blk_drew ?_ | refine blk_alloc ?_ _)); exact BK170.out⟩, ⟨by repeat (first | (with_reducible first | exact HB.out | apply below_alloc | apply pw_below_drewN | apply below_drew1 | refine below_set ?_ GE146.out | refine below_set ?_ GE170.out) | exact HB.out)⟩⟩
                                        case round =>
                                          clear H'
                                          try clear c1
                                          try clear c2
                                          try clear p2
                                          try clear c3
                                          try clear c4
                                          try clear c4b0
                                          try clear c4b1
                                          try clear c5
                                          try clear p6
                                          try clear c10
                                          try clear c14
                                          try clear c14b0
                                          try clear c14b1
                                          try clear c24
                                          try clear c28
                                          try clear c28b0
                                          try clear c30
                                          try clear c32
                                          try clear c32b0
                                          try clear c32b1
                                          try clear c34
                                          try clear c36
                                          try clear c42
                                          try clear c42b0
                                          try clear c45
                                          try clear c47
                                          try clear c47b0
                                          try clear c47b1
                                          try clear c49
                                          try clear c51
                                          try clear c55
                                          try clear c56
                                          try clear c57
                                          try clear c58
                                          try clear c58b0
                                          try clear hcz12_0
                                          try clear hcz12_1
                                          try clear hcz12_2
                                          try clear hcz12_3
                                          try clear hcz57_0
                                          try clear hcz57_1
                                          try clear hcz57_2
                                          try clear hfz12_0
                                          try clear hfz12_1
                                          try clear hfz12_2
                                          try clear hfz12_3
                                          try clear hfz57_0
                                          try clear hfz57_1
                                          try clear hfz57_2
                                          try clear p2
                                          try clear p6
                                          obtain ⟨x17_8, x171002_8, u171002, rfl, HA, HK8, HO_8, HO_11, HO_147003, HO_171002, BK146, BK170, HB⟩ := hrel
                                          cases gk with
                                          | zero => exact absurd HA.out (by simp [laws_FnCauchy.l3])
                                          | succ k8 =>
                                            have H := HA.out
                                            clear HA
                                            simp only [laws_FnCauchy.l3] at H
                                            by_cases c59 : x17_8 < (x11_5.length : Int)
                                            · rw [if_pos c59] at H
                                              have c59b0 : decide (x17_8 < (x11_5.length : Int)) = true := decide_eq_true c59
                                              clear c59
                                              by_cases c60 : 0 ≤ x16_7
                                              · rw [if_pos c60] at H
                                                have c60b0 : decide (0 ≤ x16_7) = true := decide_eq_true c60
                                                clear c60
                                                by_cases c61 : x16_7 < (x8_3.length : Int)
                                                · rw [if_pos c61] at H
                                                  have c61b0 : decide (x16_7 < (x8_3.length : Int)) = true := decide_eq_true c61
                                                  clear c61
                                                  by_cases c62 : 0 ≤ x17_8
                                                  · rw [if_pos c62] at H
                                                    have c62b0 : decide (0 ≤ x17_8) = true := decide_eq_true c62
                                                    clear c62
                                                    by_cases c63 : x17_8 < (x11_5.length : Int)
                                                    · rw [if_pos c63] at H
                                                      have c63b0 : decide (x17_8 < (x11_5.length : Int)) = true := decide_eq_true c63
                                                      clear c63
                                                      obtain ⟨ji64, hji64⟩ : ∃ j_ : Int, (wrap64 ((wrap64 ((rd x8_3 x16_7) * (wrap64 (1 + (Int.tmod t139 12))))) + (rd x11_5 x17_8))) = j_ := ⟨_, rfl⟩
                                                      replace H : (if 0 ≤ (ji64) then (if (ji64) < (t143.length : Int) then (if x171002_8.length < 17592186044416 then (laws_FnCauchy.l3 k8 (wrap64 (1 + (Int.tmod t139 12))) x8_3 x11_5 (x11_5.length : Int) x16_7 (wrap64 (x17_8 + 1)) t140 t141 t142 t143 (x11_5.length : Int) (x11_5.length : Int) (x171002_8 ++ [rd t143 (ji64)])) else (none)) else (none)) else (none)) = some r := by first | (rw [hji64] at H; exact H) | (simp only [hji64] at H ⊢; exact H)
                                                      have hji64w : (IntKind.i64.wrap ((wrap64 ((rd x8_3 x16_7) * (wrap64 (1 + (Int.tmod t139 12))))) + (rd x11_5 x17_8))) = ji64 := (i64_w _).trans hji64
                                                      by_cases c65 : 0 ≤ (ji64)
                                                      · rw [if_pos c65] at H
                                                        have c65b0 : decide (0 ≤ (ji64)) = true := decide_eq_true c65
                                                        clear c65
                                                        by_cases c66 : (ji64) < (t143.length : Int)
                                                        · rw [if_pos c66] at H
                                                          have c66b0 : decide ((ji64) < (t143.length : Int)) = true := decide_eq_true c66
                                                          clear c66
                                                          by_cases c67 : x171002_8.length < 17592186044416
                                                          · rw [if_pos c67] at H
                                                            have LMc67 := Aside0.mk c67
                                                            clear c67
                                                            obtain ⟨y181, hy181⟩ : ∃ y_ : List Int, y_ = (x171002_8 ++ [rd t143 (ji64)]) := ⟨_, rfl⟩
                                                            replace H : (laws_FnCauchy.l3 k8 (wrap64 (1 + (Int.tmod t139 12))) x8_3 x11_5 (x11_5.length : Int) x16_7 (wrap64 (x17_8 + 1)) t140 t141 t142 t143 (x11_5.length : Int) (x11_5.length : Int) y181) = some r := by first | (rw [hy181]; with_reducible exact H) | (have H2_ := (Option.bind_some _ _).symm.trans H; rw [hy181]; with_reducible exact H2_) | (have H2_ := (Option.bind_some _ _).symm.trans H; with_reducible exact H2_) | with_reducible exact H | (rw [hy181]; exact H) | exact H
                                                            have Ny181 := Aside0.mk hy181
                                                            clear hy181
                                                            have H' := Aside0.mk H
                                                            clear H
                                                            try go_wp2
                                                            have n0_ := Aside0.mk (Kd.R_drew HO_8.out)
                                                            have n1_ := Aside0.mk (Kd.R_drew HO_11.out)
                                                            have n2_ := Aside0.mk (Kd.R_drew HO_147003.out)
                                                            have n3_ := Aside0.mk (Kd.R_drew HO_171002.out)
                                                            have n4_ := Aside0.mk (blk_drew BK146.out)
                                                            have n5_ := Aside0.mk (blk_drew BK170.out)
                                                            have n6_ := Aside0.mk (below_drew1 HB.out)
                                                            clear HO_8
                                                            clear HO_11
                                                            clear HO_147003
                                                            clear HO_171002
                                                            clear BK146
                                                            clear BK170
                                                            clear HB
                                                            have HO_8 := n0_
                                                            have HO_11 := n1_
                                                            have HO_147003 := n2_
                                                            have HO_171002 := n3_
                                                            have BK146 := n4_
                                                            have BK170 := n5_
                                                            have HB := n6_
                                                            clear n0_ n1_ n2_ n3_ n4_ n5_ n6_
                                                            obtain ⟨Ao69, co69, eo69⟩ := Kd.R_slice HO_8.out
                                                            (first | subst eo69 | (injection eo69 with f1_ f2_ f3_; have f4_ := f1_.symm; have f5_ := f3_.symm; clear f1_ f2_ f3_; subst f4_; subst f5_))
                                                            have p178 : 0 ≤ (x16_7 : Int) := of_decide_eq_true (by first | (with_reducible assumption) | assumption)
                                                            have q178 : x16_7 < (x8_3.length : Int) := of_decide_eq_true (by first | (with_reducible assumption) | assumption)
                                                            obtain ⟨ad178, e178, hx178_0⟩ := Kd.at_int (Kd.R_reads' HO_8.out).2.2 x16_7 p178 q178
                                                            cases e178
                                                            replace p178 := eq_true p178
                                                            replace q178 := eq_true q178
                                                            have p179 : 0 ≤ (x17_8 : Int) := of_decide_eq_true (by first | (with_reducible assumption) | assumption)
                                                            have q179 : x17_8 < (x11_5.length : Int) := of_decide_eq_true (by first | (with_reducible assumption) | assumption)
                                                            obtain ⟨ad179, e179, hx179_0⟩ := Kd.at_int (Kd.R_reads' HO_11.out).2.2 x17_8 p179 q179
                                                            cases e179
                                                            replace p179 := eq_true p179
                                                            replace q179 := eq_true q179
                                                            have p180 : 0 ≤ ((ji64) : Int) := of_decide_eq_true (by first | (with_reducible assumption) | assumption)
                                                            have q180 : (ji64) < (t143.length : Int) := of_decide_eq_true (by first | (with_reducible assumption) | assumption)
                                                            obtain ⟨ad180, e180, hx180_0⟩ := Kd.at_int (Kd.R_reads' HO_147003.out).2.2 (ji64) p180 q180
                                                            cases e180
                                                            replace p180 := eq_true p180
                                                            replace q180 := eq_true q180
                                                            refine start_ (n := 22) (S := fun w' => w'.cell? ⟨gb170, 0, none⟩ = some (.int .i64 (x11_5.length : Int)) ∧ w'.cell? ⟨gb170, 1, none⟩ = some (.int .i64 (x11_5.length : Int)) ∧ w'.cell? ⟨gb170, 2, none⟩ = some (u171002) ∧ w'.cell? ⟨gb146, 0, none⟩ = some (.int .i64 t140) ∧ w'.cell? ⟨gb146, 1, none⟩ = some (.int .i64 t141) ∧ w'.cell? ⟨gb146, 2, none⟩ = some (.int .i64 t142) ∧ w'.cell? ⟨gb146, 3, none⟩ = some (.slice (some ad180) t143.length co13) ∧ w'.cell? (ad178.add (x16_7).toNat) = some (.int .i64 (rd x8_3 x16_7)) ∧ w'.cell? (ad179.add (x17_8).toNat) = some (.int .i64 (rd x11_5 x17_8)) ∧ w'.cell? (ad180.add ((ji64)).toNat) = some (.int .i64 (rd t143 (ji64)))) (ds := [19, 21]) #[false, false, false, false, false, false, false, false, false, false, false, false, false, false, false, false, false, false, false, false, false, false] (by kernel_rfl) rfl rfl ⟨(blk_cell BK170.out 0).trans rfl, (blk_cell BK170.out 1).trans rfl, (blk_cell BK170.out 2).trans rfl, (blk_cell BK146.out 0).trans rfl, (blk_cell BK146.out 1).trans rfl, (blk_cell BK146.out 2).trans rfl, (blk_cell BK146.out 3).trans rfl, hx178_0, hx179_0, hx180_0⟩ (fun hHeld => ?_); refine with_tabW laws_FnCauchy.tab30 laws_FnCauchy.bits30 (fun HT_ HW_ => ?_)
                                                            generalize wr.drew = w68 at HO_8 HO_11 HO_147003 HO_171002 BK146 BK170 HB hx178_0 hx179_0 hx180_0 hHeld ⊢
                                                            refine pure_ (i := 0) (N := some 114) (v := ?_) (a' := ?_) #[true, false, false, false, false, false, false, false, false, false, false, false, false, false, false, false, false, false, false, false, false, false] rfl rfl (any_of HT_.out (by kernel_rfl)) (fun _ _ _ h => h) (Or.inl ⟨by rfl, ?_⟩) ?_ ?_
                                                            rotate_left
                                                            · intro w'
                                                              go_simp
                                                              with_reducible rfl
                                                            rotate_left
                                                            · simp only [Act.put, List.setIfInBounds_toArray, List.set_cons_zero, List.set_cons_succ, i64_w, i32_w]
                                                              rfl
                                                            refine pure_ (i := 2) (N := some 116) (v := ?_) (a' := ?_) #[true, false, true, false, false, false, false, false, false, false, false, false, false, false, false, false, false, false, false, false, false, false] rfl rfl (any_of HT_.out (by kernel_rfl)) (fun _ _ _ h => h) (Or.inl ⟨by rfl, ?_⟩) ?_ ?_
                                                            rotate_left
                                                            · intro w'
                                                              go_simp
                                                              with_reducible rfl
                                                            rotate_left
                                                            · simp only [Act.put, List.setIfInBounds_toArray, List.set_cons_zero, List.set_cons_succ, i64_w, i32_w]
                                                              rfl
                                                            refine pure_ (i := 3) (N := some 117) (v := ?_) (a' := ?_) #[true, false, true, true, false, false, false, false, false, false, false, false, false, false, false, false, false, false, false, false, false, false] rfl rfl (any_of HT_.out (by kernel_rfl)) (fun _ _ _ h => h) (Or.inl ⟨by rfl, ?_⟩) ?_ ?_
                                                            rotate_left
                                                            · intro w'
                                                              go_simp
                                                              with_reducible rfl
                                                            rotate_left
                                                            · simp only [Act.put, List.setIfInBounds_toArray, List.set_cons_zero, List.set_cons_succ, i64_w, i32_w]
                                                              rfl
                                                            refine pure_ (i := 5) (N := some 119) (v := ?_) (a' := ?_) #[true, false, true, true, false, true, false, false, false, false, false, false, false, false, false, false, false, false, false, false, false, false] rfl rfl (any_of HT_.out (by kernel_rfl)) (fun _ _ _ h => h) (Or.inl ⟨by rfl, ?_⟩) ?_ ?_
                                                            rotate_left
                                                            · intro w'
                                                              go_simp
                                                              with_reducible rfl
                                                            rotate_left
                                                            · simp only [Act.put, List.setIfInBounds_toArray, List.set_cons_zero, List.set_cons_succ, i64_w, i32_w]
                                                              rfl
                                                            refine pure_ (i := 6) (N := some 120) (v := ?_) (a' := ?_) #[true, false, true, true, false, true, true, false, false, false, false, false, false, false, false, false, false, false, false, false, false, false] rfl rfl (any_of HT_.out (by kernel_rfl)) (fun _ _ _ h => h) (Or.inl ⟨by rfl, ?_⟩) ?_ ?_
                                                            rotate_left
                                                            · intro w'
                                                              go_simp
                                                              with_reducible rfl
                                                            rotate_left
                                                            · simp only [Act.put, List.setIfInBounds_toArray, List.set_cons_zero, List.set_cons_succ, i64_w, i32_w]
                                                              rfl
                                                            refine pure_ (i := 7) (N := some 121) (v := ?_) (a' := ?_) #[true, false, true, true, false, true, true, true, false, false, false, false, false, false, false, false, false, false, false, false, false, false] rfl rfl (any_of HT_.out (by kernel_rfl)) (fun _ _ _ h => h) (Or.inl ⟨by rfl, ?_⟩) ?_ ?_
                                                            rotate_left
                                                            · intro w'
                                                              go_simp
                                                              with_reducible rfl
                                                            rotate_left
                                                            · simp only [Act.put, List.setIfInBounds_toArray, List.set_cons_zero, List.set_cons_succ, i64_w, i32_w]
                                                              rfl
                                                            refine pure_ (i := 9) (N := some 123) (v := ?_) (a' := ?_) #[true, false, true, true, false, true, true, true, false, true, false, false, false, false, false, false, false, false, false, false, false, false] rfl rfl (any_of HT_.out (by kernel_rfl)) (fun _ _ _ h => h) (Or.inl ⟨by rfl, ?_⟩) ?_ ?_
                                                            rotate_left
                                                            · intro w'
                                                              go_simp
                                                              with_reducible rfl
                                                            rotate_left
                                                            · simp only [Act.put, List.setIfInBounds_toArray, List.set_cons_zero, List.set_cons_succ, i64_w, i32_w]
                                                              rfl
                                                            refine pure_ (i := 11) (N := some 125) (v := ?_) (a' := ?_) #[true, false, true, true, false, true, true, true, false, true, false, true, false, false, false, false, false, false, false, false, false, false] rfl rfl (any_of HT_.out (by kernel_rfl)) (fun _ _ _ h => h) (Or.inl ⟨by rfl, ?_⟩) ?_ ?_
                                                            rotate_left
                                                            · intro w'
                                                              go_simp
                                                              with_reducible rfl
                                                            rotate_left
                                                            · simp only [Act.put, List.setIfInBounds_toArray, List.set_cons_zero, List.set_cons_succ, i64_w, i32_w]
                                                              rfl
                                                            refine pure_ (i := 12) (N := some 126) (v := ?_) (a' := ?_) #[true, false, true, true, false, true, true, true, false, true, false, true, true, false, false, false, false, false, false, false, false, false] rfl rfl (any_of HT_.out (by kernel_rfl)) (fun _ _ _ h => h) (Or.inl ⟨by rfl, ?_⟩) ?_ ?_
                                                            rotate_left
                                                            · intro w'
                                                              go_simp
                                                              with_reducible rfl
                                                            rotate_left
                                                            · simp only [Act.put, List.setIfInBounds_toArray, List.set_cons_zero, List.set_cons_succ, i64_w, i32_w]
                                                              rfl
                                                            refine pure_ (i := 13) (N := some 127) (v := ?_) (a' := ?_) #[true, false, true, true, false, true, true, true, false, true, false, true, true, true, false, false, false, false, false, false, false, false] rfl rfl (any_of HT_.out (by kernel_rfl)) (fun _ _ _ h => h) (Or.inl ⟨by rfl, ?_⟩) ?_ ?_
                                                            rotate_left
                                                            · intro w'
                                                              go_simp
                                                              with_reducible rfl
                                                            rotate_left
                                                            · simp only [Act.put, List.setIfInBounds_toArray, List.set_cons_zero, List.set_cons_succ, i64_w, i32_w]
                                                              rfl
                                                            refine take_ (i := 1) (N := some 115) (v := ?_) (a' := ?_) #[true, true, true, true, false, true, true, true, false, true, false, true, true, true, false, false, false, false, false, false, false, false] rfl rfl (take_ofW HT_.out HW_.out (by kernel_rfl)) (fun _ _ _ h => h) (Or.inl ⟨by rfl, ?_⟩) hHeld ?_ ?_
                                                            rotate_left
                                                            · rintro w' ⟨s0, s1, s2, s3, s4, s5, s6, s7, s8, s9⟩
                                                              go_simp
                                                              with_reducible rfl
                                                            rotate_left
                                                            · simp only [Act.put, List.setIfInBounds_toArray, List.set_cons_zero, List.set_cons_succ, i64_w, i32_w]
                                                              rfl
                                                            refine take_ (i := 4) (N := some 118) (v := ?_) (a' := ?_) #[true, true, true, true, true, true, true, true, false, true, false, true, true, true, false, false, false, false, false, false, false, false] rfl rfl (take_ofW HT_.out HW_.out (by kernel_rfl)) (fun _ _ _ h => h) (Or.inl ⟨by rfl, ?_⟩) hHeld ?_ ?_
                                                            rotate_left
                                                            · rintro w' ⟨s0, s1, s2, s3, s4, s5, s6, s7, s8, s9⟩
                                                              go_simp
                                                              with_reducible rfl
                                                            rotate_left
                                                            · simp only [Act.put, List.setIfInBounds_toArray, List.set_cons_zero, List.set_cons_succ, i64_w, i32_w]
                                                              rfl
                                                            refine take_ (i := 8) (N := some 122) (v := ?_) (a' := ?_) #[true, true, true, true, true, true, true, true, true, true, false, true, true, true, false, false, false, false, false, false, false, false] rfl rfl (take_ofW HT_.out HW_.out (by kernel_rfl)) (fun _ _ _ h => h) (Or.inl ⟨by rfl, ?_⟩) hHeld ?_ ?_
                                                            rotate_left
                                                            · rintro w' ⟨s0, s1, s2, s3, s4, s5, s6, s7, s8, s9⟩
                                                              go_simp
                                                              with_reducible rfl
                                                            rotate_left
                                                            · simp only [Act.put, List.setIfInBounds_toArray, List.set_cons_zero, List.set_cons_succ, i64_w, i32_w]
                                                              rfl
                                                            refine pure_ (i := 10) (N := some 124) (v := ?_) (a' := ?_) #[true, true, true, true, true, true, true, true, true, true, true, true, true, true, false, false, false, false, false, false, false, false] rfl rfl (any_of HT_.out (by kernel_rfl)) (fun _ _ _ h => h) (Or.inl ⟨by rfl, ?_⟩) ?_ ?_
                                                            rotate_left
                                                            · intro w'
                                                              go_simp
                                                              with_reducible rfl
                                                            rotate_left
                                                            · simp only [Act.put, List.setIfInBounds_toArray, List.set_cons_zero, List.set_cons_succ, i64_w, i32_w]
                                                              rfl
                                                            refine take_ (i := 14) (N := some 128) (v := ?_) (a' := ?_) #[true, true, true, true, true, true, true, true, true, true, true, true, true, true, true, false, false, false, false, false, false, false] rfl rfl (take_ofW HT_.out HW_.out (by kernel_rfl)) (fun _ _ _ h => h) (Or.inl ⟨by rfl, ?_⟩) hHeld ?_ ?_
                                                            rotate_left
                                                            · rintro w' ⟨s0, s1, s2, s3, s4, s5, s6, s7, s8, s9⟩
                                                              go_simp
                                                              with_reducible rfl
                                                            rotate_left
                                                            · simp only [Act.put, List.setIfInBounds_toArray, List.set_cons_zero, List.set_cons_succ, i64_w, i32_w]
                                                              rfl
                                                            refine pure_ (i := 15) (N := some 129) (v := ?_) (a' := ?_) #[true, true, true, true, true, true, true, true, true, true, true, true, true, true, true, true, false, false, false, false, false, false] rfl rfl (any_of HT_.out (by kernel_rfl)) (fun _ _ _ h => h) (Or.inl ⟨by rfl, ?_⟩) ?_ ?_
                                                            rotate_left
                                                            · intro w'
                                                              go_simp
                                                              with_reducible rfl
                                                            rotate_left
                                                            · simp only [Act.put, List.setIfInBounds_toArray, List.set_cons_zero, List.set_cons_succ, i64_w, i32_w]
                                                              rfl
                                                            refine pure_ (i := 16) (N := some 130) (v := ?_) (a' := ?_) #[true, true, true, true, true, true, true, true, true, true, true, true, true, true, true, true, true, false, false, false, false, false] rfl rfl (any_of HT_.out (by kernel_rfl)) (fun _ _ _ h => h) (Or.inl ⟨by rfl, ?_⟩) ?_ ?_
                                                            rotate_left
                                                            · intro w'
                                                              go_simp
                                                              with_reducible rfl
                                                            rotate_left
                                                            · simp only [Act.put, List.setIfInBounds_toArray, List.set_cons_zero, List.set_cons_succ, i64_w, i32_w]
                                                              rfl
                                                            refine take_ (i := 17) (N := some 131) (v := ?_) (a' := ?_) #[true, true, true, true, true, true, true, true, true, true, true, true, true, true, true, true, true, true, false, false, false, false] rfl rfl (take_ofW HT_.out HW_.out (by kernel_rfl)) (fun _ _ _ h => h) (Or.inl ⟨by rfl, ?_⟩) hHeld ?_ ?_
                                                            rotate_left
                                                            · rintro w' ⟨s0, s1, s2, s3, s4, s5, s6, s7, s8, s9⟩
                                                              go_simp
                                                              with_reducible rfl
                                                            rotate_left
                                                            · simp only [Act.put, List.setIfInBounds_toArray, List.set_cons_zero, List.set_cons_succ, i64_w, i32_w]
                                                              rfl
                                                            refine one_ (i := 18) (N := some 132) #[true, true, true, true, true, true, true, true, true, true, true, true, true, true, true, true, true, true, true, false, false, false] rfl rfl (one_of HT_.out (by kernel_rfl)) (by decide) (fun K hK => ?_)
                                                            refine value_ (w1 := ?_) (v := ?_) (by rfl) rfl ?_ ?_
                                                            rotate_left 2
                                                            · go_simp
                                                              constructor
                                                              · rfl
                                                              · rfl
                                                            refine hK.out _ _ ⟨(blk_cell (blk_alloc BK170.out _) 0).trans rfl, (blk_cell (blk_alloc BK170.out _) 1).trans rfl, (blk_cell (blk_alloc BK170.out _) 2).trans rfl, (blk_cell (blk_alloc BK146.out _) 0).trans rfl, (blk_cell (blk_alloc BK146.out _) 1).trans rfl, (blk_cell (blk_alloc BK146.out _) 2).trans rfl, (blk_cell (blk_alloc BK146.out _) 3).trans rfl, (World.cell?_alloc_lt _ _ _ (World.block_lt_of_cell? _ _ (hHeld.2.2.2.2.2.2.2.1))).trans (hHeld.2.2.2.2.2.2.2.1), (World.cell?_alloc_lt _ _ _ (World.block_lt_of_cell? _ _ (hHeld.2.2.2.2.2.2.2.2.1))).trans (hHeld.2.2.2.2.2.2.2.2.1), (World.cell?_alloc_lt _ _ _ (World.block_lt_of_cell? _ _ (hHeld.2.2.2.2.2.2.2.2.2))).trans (hHeld.2.2.2.2.2.2.2.2.2)⟩ (fun hHeld => ?_)
                                                            clear hK K
                                                            refine norm_ (a' := ?_) ?_ ?_
                                                            rotate_left
                                                            · show Act.put _ (some 132) _ = _
                                                              simp only [Act.put, List.setIfInBounds_toArray, List.set_cons_zero, List.set_cons_succ, i64_w, i32_w]
                                                              rfl
                                                            refine last_ (i := 19) (N := some 133) #[true, true, true, true, true, true, true, true, true, true, true, true, true, true, true, true, true, true, true, true, false, false] rfl rfl (one_of HT_.out (by kernel_rfl)) (by decide) (fun K hK => ?_)
                                                            refine Kd.R_append_step (Kd.int .i64) (w0 := w) w.heap.size (by rfl) (.tmp 115) (.tmp 132) 24 2 (.int .i64 0) 8 rfl Try.underlying24 info2 rfl (by decide) (by omega) u171002 x171002_8 (rd t143 (ji64)) [.int .i64 (rd t143 (ji64))] (fun k_ => some k_ ≠ (.slice (some ad178) x8_3.length co69 : Value).ownBlock ∧ some k_ ≠ (.slice (some ad179) x11_5.length co54 : Value).ownBlock ∧ some k_ ≠ (.slice (some ad180) t143.length co13 : Value).ownBlock) (fun _ => False) rfl rfl ?aP (fun _ hk => hk.elim) ?aF ?aO ?aB ?aS ?aL ?_
                                                            (case aP => exact rfl)
                                                            (case aB => exact (by repeat (first | (with_reducible first | exact HB.out | apply below_alloc | apply pw_below_drewN | apply below_drew1 | refine below_set ?_ GE146.out | refine below_set ?_ GE170.out) | exact HB.out)))
                                                            (case aF => exact (fun k_ hk => ⟨Kd.fresh' (Kd.R_lt (by (with_reducible repeat (first | apply Kd.R_alloc | apply Kd.R_drewN | apply Kd.R_drew)); exact HO_8.out)) k_ hk, Kd.fresh' (Kd.R_lt (by (with_reducible repeat (first | apply Kd.R_alloc | apply Kd.R_drewN | apply Kd.R_drew)); exact HO_11.out)) k_ hk, Kd.fresh' (Kd.R_lt (by (with_reducible repeat (first | apply Kd.R_alloc | apply Kd.R_drewN | apply Kd.R_drew)); exact HO_147003.out)) k_ hk⟩))
                                                            (case aO => exact (by (with_reducible repeat (first | apply Kd.R_alloc | apply Kd.R_drewN | apply Kd.R_drew)); exact HO_171002.out))
                                                            (case aS => exact (below_size (by repeat (first | (with_reducible first | exact HB.out | apply below_alloc | apply pw_below_drewN | apply below_drew1 | refine below_set ?_ GE146.out | refine below_set ?_ GE170.out) | exact HB.out))))
                                                            (case aL => have := LMc67.out; omega)
                                                            intro v182 w70 ho hb hg hat
                                                            rw [← Ny181.out] at ho
                                                            have n0_ := Aside0.mk (Kd.R_after (ok := (fun k_ => some k_ ≠ (.slice (some ad179) x11_5.length co54 : Value).ownBlock ∧ some k_ ≠ (.slice (some ad180) t143.length co13 : Value).ownBlock)) (by (with_reducible repeat (first | apply Kd.R_alloc | apply Kd.R_drewN | apply Kd.R_drew)); exact Kd.R_mono HO_8.out (fun _ hk => ⟨⟨hk.1, hk.2.1⟩, hk.2.2⟩)) hg hat)
                                                            have n1_ := Aside0.mk (Kd.R_after (ok := (fun k_ => some k_ ≠ (.slice (some ad178) x8_3.length co69 : Value).ownBlock ∧ some k_ ≠ (.slice (some ad180) t143.length co13 : Value).ownBlock)) (by (with_reducible repeat (first | apply Kd.R_alloc | apply Kd.R_drewN | apply Kd.R_drew)); exact Kd.R_mono HO_11.out (fun _ hk => ⟨⟨hk.1, hk.2.1⟩, hk.2.2⟩)) hg hat)
                                                            have n2_ := Aside0.mk (Kd.R_after (ok := (fun k_ => some k_ ≠ (.slice (some ad178) x8_3.length co69 : Value).ownBlock ∧ some k_ ≠ (.slice (some ad179) x11_5.length co54 : Value).ownBlock)) (by (with_reducible repeat (first | apply Kd.R_alloc | apply Kd.R_drewN | apply Kd.R_drew)); exact Kd.R_mono HO_147003.out (fun _ hk => ⟨⟨hk.1, hk.2.1⟩, hk.2.2⟩)) hg hat)
                                                            have n3_ := Aside0.mk (blk_grown (g := gb146) (o := .cells #[.int .i64 t140, .int .i64 t141, .int .i64 t142, .slice (some ad180) t143.length co13] 36 (0, 0)) (by (with_reducible repeat (first | refine blk_drewN ?_ _ | refine blk_drew ?_ | refine blk_alloc ?_ _)); exact BK146.out) hg (Kd.R_ne HO_171002.out BK146.out (by decide)))
                                                            have n4_ := Aside0.mk (blk_grown (g := gb170) (o := .cells #[.int .i64 (x11_5.length : Int), .int .i64 (x11_5.length : Int), u171002] 34 (0, 0)) (by (with_reducible repeat (first | refine blk_drewN ?_ _ | refine blk_drew ?_ | refine blk_alloc ?_ _)); exact BK170.out) hg (Kd.R_ne HO_171002.out BK170.out (by decide)))
                                                            have n5_ := Aside0.mk (hb)
                                                            have n6_ := Aside0.mk (ho)
                                                            clear HO_8
                                                            clear HO_11
                                                            clear HO_147003
                                                            clear BK146
                                                            clear BK170
                                                            clear HB
                                                            clear HO_171002
                                                            have HO_8 := n0_
                                                            have HO_11 := n1_
                                                            have HO_147003 := n2_
                                                            have BK146 := n3_
                                                            have BK170 := n4_
                                                            have HB := n5_
                                                            have HO183 := n6_
                                                            clear n0_ n1_ n2_ n3_ n4_ n5_ n6_
                                                            clear ho hb hg hat
                                                            obtain ⟨Ao71, co71, eo71⟩ := Kd.R_slice HO183.out
                                                            (first | subst eo71 | (injection eo71 with f1_ f2_ f3_; have f4_ := f1_.symm; have f5_ := f3_.symm; clear f1_ f2_ f3_; subst f4_; subst f5_))
                                                            refine hK.out _ _ ?_
                                                            clear hK K
                                                            refine norm_ (a' := ?_) ?_ ?_
                                                            rotate_left
                                                            · show Act.put _ (some 133) _ = _
                                                              simp only [Act.put, List.setIfInBounds_toArray, List.set_cons_zero, List.set_cons_succ, i64_w, i32_w]
                                                              rfl
                                                            refine pure_ (i := 20) (N := some 134) (v := ?_) (a' := ?_) #[true, true, true, true, true, true, true, true, true, true, true, true, true, true, true, true, true, true, true, true, true, false] rfl rfl (any_of HT_.out (by kernel_rfl)) (fun _ _ _ h => h) (Or.inl ⟨by rfl, ?_⟩) ?_ ?_
                                                            rotate_left
                                                            · intro w'
                                                              go_simp
                                                              with_reducible rfl
                                                            rotate_left
                                                            · simp only [Act.put, List.setIfInBounds_toArray, List.set_cons_zero, List.set_cons_succ, i64_w, i32_w]
                                                              rfl
                                                            refine last_ (i := 21) (N := none) #[true, true, true, true, true, true, true, true, true, true, true, true, true, true, true, true, true, true, true, true, true, true] rfl rfl (one_of HT_.out (by kernel_rfl)) (by decide) (fun K hK => ?_)
                                                            have hs72 : w70.cell? ⟨gb170, 2, none⟩ = some (u171002) := (blk_cell BK170.out 2).trans rfl
                                                            have hfs72 := blk_frozen BK170.out 2
                                                            have hns72_0 := NB146_170.out
                                                            have hms72_0 := NB170_146.out
                                                            refine skip_ (w1 := ?_) (by rfl) rfl ?_ ?_
                                                            rotate_left
                                                            · go_simp
                                                              rfl
                                                            refine hK.out _ _ ?_
                                                            clear hK K
                                                            refine done_ (done_of HT_.out (by kernel_rfl)) ?_
                                                            try go_wp2
                                                            go_roundg k8
                                                            case measure => have := HJ2.out; have := HJ8.out; have := HK3.out; have := HJ26.out; have := HK5.out; have := HJ40.out; have := HK7.out; have := HK8.out; omega
                                                            case rel => exact ⟨(wrap64 (x17_8 + 1)), (y181), (.slice Ao71 y181.length co71), (by first | rfl | (simp; done) | (simp [*]; done)), H', ⟨by have := HJ2.out; have := HJ8.out; have := HK3.out; have := HJ26.out; have := HK5.out; have := HJ40.out; have := HK7.out; have := HK8.out; omega⟩, ⟨by (with_reducible repeat (first | apply Kd.R_alloc | apply Kd.R_drewN | apply Kd.R_drew)); exact Kd.R_mono (Kd.R_far (p := ⟨gb170, 2, none⟩) (Kd.R_types HO_8.out BK170.out (by decide)) (fun _ hk => hk.2) (.slice Ao71 y181.length co71)) (fun _ hk => ⟨hk.1.1.1, ⟨hk.1.1.2, hk.1.2⟩⟩)⟩, ⟨by (with_reducible repeat (first | apply Kd.R_alloc | apply Kd.R_drewN | apply Kd.R_drew)); exact Kd.R_mono (Kd.R_far (p := ⟨gb170, 2, none⟩) (Kd.R_types HO_11.out BK170.out (by decide)) (fun _ hk => hk.2) (.slice Ao71 y181.length co71)) (fun _ hk => ⟨hk.1.1.1, ⟨hk.1.1.2, hk.1.2⟩⟩)⟩, ⟨by (with_reducible repeat (first | apply Kd.R_alloc | apply Kd.R_drewN | apply Kd.R_drew)); exact Kd.R_mono (Kd.R_far (p := ⟨gb170, 2, none⟩) (Kd.R_types HO_147003.out BK170.out (by decide)) (fun _ hk => hk.2) (.slice Ao71 y181.length co71)) (fun _ hk => ⟨hk.1.1.1, ⟨hk.1.1.2, hk.1.2⟩⟩)⟩, ⟨by (with_reducible repeat (first | apply Kd.R_alloc | apply Kd.R_drewN | apply Kd.R_drew)); exact Kd.R_mono (Kd.R_far (p := ⟨gb170, 2, none⟩) (Kd.R_types HO183.out BK170.out (by decide)) (fun _ hk => hk.2) (.slice Ao71 y181.length co71)) (fun _ hk => ⟨hk.1.1, ⟨hk.1.2.1, hk.1.2.2⟩⟩)⟩, ⟨by (with_reducible repeat (first | refine blk_drewN ?_ _ | refine blk_drew ?_ | refine blk_alloc ?_ _)); refine blk_far ?_ NB146_170.out _; (with_reducible repeat (first | refine blk_drewN ?_ _ | refine blk_drew ?_ | refine blk_alloc ?_ _)); exact BK146.out⟩, ⟨by (with_reducible repeat (first | refine blk_drewN ?_ _ | refine blk_drew ?_ | refine blk_alloc ?_ _)); refine blk_put (cs := #[.int .i64 (x11_5.length : Int), .int .i64 (x11_5.length : Int), u171002]) ?_ 2 _ rfl; (with_reducible repeat (first | refine blk_drewN ?_ _ | refine blk_drew ?_ | refine blk_alloc ?_ _)); exact BK170.out⟩, ⟨by repeat (first | (with_reducible first | exact HB.out | apply below_alloc | apply pw_below_drewN | apply below_drew1 | refine below_set ?_ GE146.out | refine below_set ?_ GE170.out) | exact HB.out)⟩⟩
                                                          · rw [if_neg c67] at H
                                                            exact absurd H (by simp)
                                                        · rw [if_neg c66] at H
                                                          exact absurd H (by simp)
                                                      · rw [if_neg c65] at H
                                                        exact absurd H (by simp)
                                                    · exact absurd (of_decide_eq_true c59b0) c63
                                                  · rw [if_neg c62] at H
                                                    exact absurd H (by simp)
                                                · rw [if_neg c61] at H
                                                  exact absurd H (by simp)
                                              · rw [if_neg c60] at H
                                                exact absurd H (by simp)
                                            · rw [if_neg c59] at H
                                              have c59b0 : decide (x17_8 < (x11_5.length : Int)) = false := decide_eq_false c59
                                              clear c59
                                              have H' := Aside0.mk H
                                              clear H
                                              go_wp2
                                              go_roundg k8
                                              case measure => have := HJ2.out; have := HJ8.out; have := HK3.out; have := HJ26.out; have := HK5.out; have := HJ40.out; have := HK7.out; have := HK8.out; omega
                                              case rel => exact ⟨(wrap64 (x16_7 + 1)), (x171002_8), (u171002), (by first | rfl | (simp; done) | (simp [*]; done)), H', ⟨by have := HJ2.out; have := HJ8.out; have := HK3.out; have := HJ26.out; have := HK5.out; have := HJ40.out; have := HK7.out; have := HK8.out; omega⟩, ⟨by (with_reducible repeat (first | apply Kd.R_alloc | apply Kd.R_drewN | apply Kd.R_drew)); exact HO_8.out⟩, ⟨by (with_reducible repeat (first | apply Kd.R_alloc | apply Kd.R_drewN | apply Kd.R_drew)); exact HO_11.out⟩, ⟨by (with_reducible repeat (first | apply Kd.R_alloc | apply Kd.R_drewN | apply Kd.R_drew)); exact HO_147003.out⟩, ⟨by (with_reducible repeat (first | apply Kd.R_alloc | apply Kd.R_drewN | apply Kd.R_drew)); exact HO_171002.out⟩, ⟨by (with_reducible repeat (first | refine blk_drewN ?_ _ | refine blk_drew ?_ | refine blk_alloc ?_ _)); exact BK146.out⟩, ⟨by (with_reducible repeat (first | refine blk_drewN ?_ _ | refine blk_drew ?_ | refine blk_alloc ?_ _)); exact BK170.out⟩, ⟨by repeat (first | (with_reducible first | exact HB.out | apply below_alloc | apply pw_below_drewN | apply below_drew1 | refine below_set ?_ GE146.out | refine below_set ?_ GE170.out) | exact HB.out)⟩⟩
                                      · rw [if_neg c58] at H
                                        have c58b0 : decide (x16_7 < (x11_5.length : Int)) = false := decide_eq_false c58
                                        clear c58
                                        replace H := Option.bind_eq_some_iff.mp H
                                        obtain ⟨t171, A730, H⟩ := H
                                        replace H : (if t171 = (x11_5.length : Int) then ((impl_MatInv.f k7 (x11_5.length : Int) (x11_5.length : Int) x171002_7).bind fun bt172 => (some (bt172.1 == 0))) else (some false)) = some r := H
                                        have A73 := Aside0.mk A730
                                        clear A730
                                        by_cases c74 : t171 = (x11_5.length : Int)
                                        · rw [if_pos c74] at H
                                          have c74b0 : (t171 == (x11_5.length : Int)) = true := beq_iff_eq.mpr c74
                                          have c74b1 : (t171 != (x11_5.length : Int)) = false := bne_eq_false_iff_eq.mpr c74
                                          clear c74
                                          replace H := Option.bind_eq_some_iff.mp H
                                          obtain ⟨⟨t172, t173, t174, t175⟩, A750, H⟩ := H
                                          replace H : (some (t172 == 0)) = some r := H
                                          have A75 := Aside0.mk A750
                                          clear A750
                                          obtain rfl := Option.some.inj H
                                          have hnb76 := NB170_146.out
                                          have hnc76 := NB146_170.out
                                          have hcz77_0 : wr.cell? ⟨gb170, 0, none⟩ = some (.int .i64 (x11_5.length : Int)) := (blk_cell BK170.out 0).trans rfl
                                          have hcz77_1 : wr.cell? ⟨gb170, 1, none⟩ = some (.int .i64 (x11_5.length : Int)) := (blk_cell BK170.out 1).trans rfl
                                          have hcz77_2 : wr.cell? ⟨gb170, 2, none⟩ = some (u171002) := (blk_cell BK170.out 2).trans rfl
                                          have hfz77_0 := blk_frozen BK170.out 0
                                          have hfz77_1 := blk_frozen BK170.out 1
                                          have hfz77_2 := blk_frozen BK170.out 2
                                          obtain ⟨Ao78, co78, eo78⟩ := Kd.R_slice HO_171002.out
                                          subst eo78
                                          go_wp2_with (first | ((with_reducible refine gate_callee (f := 60) rfl ?_); refine goesL_ (some 136) rfl rfl Try.func60 (by kernel_rfl) rfl #[.agg #[.int .i64 (x11_5.length : Int), .int .i64 (x11_5.length : Int), .slice Ao78 x171002_7.length co78]] rfl (by (try simp only [List.map_toArray, List.map_cons, List.map_nil]); first | done | rfl | (simp only [List.length_drop, List.length_take]; rfl)) ?_; (with_reducible refine (impl_MatRank.calls k7 (x11_5.length : Int) (x11_5.length : Int) _ _ x171002_7 t171 _ ?side1 ?side2 A73.out).mono ?_); (case side1 => repeat (first | exact (Kd.R_reads' HO_171002.out).2.2 | (with_reducible refine Kd.C_alloc ?_ _) | (with_reducible refine Kd.C_drewN ?_ _) | (with_reducible refine Kd.C_drew ?_))); (case side2 => exact (Kd.R_reads' HO_171002.out).2.1); rintro e w79 ⟨rfl, hb⟩; refine ⟨_, rfl, ?_⟩; have n0_ := Aside0.mk (Kd.R_below (by (with_reducible repeat (first | apply Kd.R_alloc | apply Kd.R_drewN | apply Kd.R_drew)); exact HO_8.out) hb); have n1_ := Aside0.mk (Kd.R_below (by (with_reducible repeat (first | apply Kd.R_alloc | apply Kd.R_drewN | apply Kd.R_drew)); exact HO_11.out) hb); have n2_ := Aside0.mk (Kd.R_below (by (with_reducible repeat (first | apply Kd.R_alloc | apply Kd.R_drewN | apply Kd.R_drew)); exact HO_147003.out) hb); have n3_ := Aside0.mk (Kd.R_below (by (with_reducible repeat (first | apply Kd.R_alloc | apply Kd.R_drewN | apply Kd.R_drew)); exact HO_171002.out) hb); have n4_ := Aside0.mk (blk_below (g := gb146) (o := .cells #[.int .i64 t140, .int .i64 t141, .int .i64 t142, .slice Ao13 t143.length co13] 36 (0, 0)) (by (with_reducible repeat (first | refine blk_drewN ?_ _ | refine blk_drew ?_ | refine blk_alloc ?_ _)); exact BK146.out) hb); have n5_ := Aside0.mk (blk_below (g := gb170) (o := .cells #[.int .i64 (x11_5.length : Int), .int .i64 (x11_5.length : Int), .slice Ao78 x171002_7.length co78] 34 (0, 0)) (by (with_reducible repeat (first | refine blk_drewN ?_ _ | refine blk_drew ?_ | refine blk_alloc ?_ _)); exact BK170.out) hb); have n6_ := Aside0.mk (below_step (by repeat (first | (with_reducible first | exact HB.out | apply below_alloc | apply pw_below_drewN | apply below_drew1 | refine below_set ?_ GE146.out | refine below_set ?_ GE170.out) | exact HB.out)) hb); clear HO_8; clear HO_11; clear HO_147003; clear HO_171002; clear BK146; clear BK170; clear HB; have HO_8 := n0_; have HO_11 := n1_; have HO_147003 := n2_; have HO_171002 := n3_; have BK146 := n4_; have BK170 := n5_; have HB := n6_; clear n0_ n1_ n2_ n3_ n4_ n5_ n6_; (try clear hb); (try clear hb2); (try clear hk); (try clear hi); have hcz80_0 : w79.cell? ⟨gb170, 0, none⟩ = some (.int .i64 (x11_5.length : Int)) := (blk_cell BK170.out 0).trans rfl; have hcz80_1 : w79.cell? ⟨gb170, 1, none⟩ = some (.int .i64 (x11_5.length : Int)) := (blk_cell BK170.out 1).trans rfl; have hcz80_2 : w79.cell? ⟨gb170, 2, none⟩ = some (.slice Ao78 x171002_7.length co78) := (blk_cell BK170.out 2).trans rfl; have hfz80_0 := blk_frozen BK170.out 0; have hfz80_1 := blk_frozen BK170.out 1; have hfz80_2 := blk_frozen BK170.out 2) | (go_at_call 61; (with_reducible refine (impl_MatInv.calls k7 (x11_5.length : Int) (x11_5.length : Int) _ _ x171002_7 t172 t173 t174 t175 _ ?side1 ?side2 A75.out).mono ?_); (case side1 => repeat (first | exact (Kd.R_reads' HO_171002.out).2.2 | (with_reducible refine Kd.C_alloc ?_ _) | (with_reducible refine Kd.C_drewN ?_ _) | (with_reducible refine Kd.C_drew ?_))); (case side2 => exact (Kd.R_reads' HO_171002.out).2.1); rintro e w81 ⟨v176, rfl, ho0, hb⟩; have n0_ := Aside0.mk (Kd.R_elder' (by (with_reducible repeat (first | apply Kd.R_alloc | apply Kd.R_drewN | apply Kd.R_drew)); exact HO_8.out) (Kd.R_base ho0) hb); have n1_ := Aside0.mk (Kd.R_elder' (by (with_reducible repeat (first | apply Kd.R_alloc | apply Kd.R_drewN | apply Kd.R_drew)); exact HO_11.out) (Kd.R_base ho0) hb); have n2_ := Aside0.mk (Kd.R_elder' (by (with_reducible repeat (first | apply Kd.R_alloc | apply Kd.R_drewN | apply Kd.R_drew)); exact HO_147003.out) (Kd.R_base ho0) hb); have n3_ := Aside0.mk (Kd.R_elder' (by (with_reducible repeat (first | apply Kd.R_alloc | apply Kd.R_drewN | apply Kd.R_drew)); exact HO_171002.out) (Kd.R_base ho0) hb); have n4_ := Aside0.mk (Kd.R_lower (Kd.R_new' (Kd.R_new' (Kd.R_new' (Kd.R_new' ho0 (Kd.R_lt (by (with_reducible repeat (first | apply Kd.R_alloc | apply Kd.R_drewN | apply Kd.R_drew)); exact HO_8.out))) (Kd.R_lt (by (with_reducible repeat (first | apply Kd.R_alloc | apply Kd.R_drewN | apply Kd.R_drew)); exact HO_11.out))) (Kd.R_lt (by (with_reducible repeat (first | apply Kd.R_alloc | apply Kd.R_drewN | apply Kd.R_drew)); exact HO_147003.out))) (Kd.R_lt (by (with_reducible repeat (first | apply Kd.R_alloc | apply Kd.R_drewN | apply Kd.R_drew)); exact HO_171002.out))) (below_size (by repeat (first | (with_reducible first | exact HB.out | apply below_alloc | apply pw_below_drewN | apply below_drew1 | refine below_set ?_ GE146.out | refine below_set ?_ GE170.out) | exact HB.out)))); have n5_ := Aside0.mk (blk_below (g := gb146) (o := .cells #[.int .i64 t140, .int .i64 t141, .int .i64 t142, .slice Ao13 t143.length co13] 36 (0, 0)) (by (with_reducible repeat (first | refine blk_drewN ?_ _ | refine blk_drew ?_ | refine blk_alloc ?_ _)); exact BK146.out) hb); have n6_ := Aside0.mk (blk_below (g := gb170) (o := .cells #[.int .i64 (x11_5.length : Int), .int .i64 (x11_5.length : Int), .slice Ao78 x171002_7.length co78] 34 (0, 0)) (by (with_reducible repeat (first | refine blk_drewN ?_ _ | refine blk_drew ?_ | refine blk_alloc ?_ _)); exact BK170.out) hb); have n7_ := Aside0.mk (below_step (by repeat (first | (with_reducible first | exact HB.out | apply below_alloc | apply pw_below_drewN | apply below_drew1 | refine below_set ?_ GE146.out | refine below_set ?_ GE170.out) | exact HB.out)) hb); clear HO_8; clear HO_11; clear HO_147003; clear HO_171002; clear BK146; clear BK170; clear HB; have HO_8 := n0_; have HO_11 := n1_; have HO_147003 := n2_; have HO_171002 := n3_; have HO177 := n4_; have BK146 := n5_; have BK170 := n6_; have HB := n7_; clear n0_ n1_ n2_ n3_ n4_ n5_ n6_ n7_; (try clear hb); (try clear hb2); (try clear hk); (try clear hi); (try clear ho0)))
                                          go_ret
                                          exact ⟨by first | rfl | (simp [errW_none, errW_some] <;> rfl) | (simp [*, errW_none, errW_some] <;> rfl), by repeat (first | (with_reducible first | exact HB.out | apply below_alloc | apply pw_below_drewN | apply below_drew1 | refine below_set ?_ GE146.out | refine below_set ?_ GE170.out) | exact HB.out)⟩
                                        · rw [if_neg c74] at H
                                          have c74b0 : (t171 == (x11_5.length : Int)) = false := beq_eq_false_iff_ne.mpr c74
                                          have c74b1 : (t171 != (x11_5.length : Int)) = true := bne_iff_ne.mpr c74
                                          obtain rfl := Option.some.inj H
                                          have hnb82 := NB170_146.out
                                          have hnc82 := NB146_170.out
                                          have hcz83_0 : wr.cell? ⟨gb170, 0, none⟩ = some (.int .i64 (x11_5.length : Int)) := (blk_cell BK170.out 0).trans rfl
                                          have hcz83_1 : wr.cell? ⟨gb170, 1, none⟩ = some (.int .i64 (x11_5.length : Int)) := (blk_cell BK170.out 1).trans rfl
                                          have hcz83_2 : wr.cell? ⟨gb170, 2, none⟩ = some (u171002) := (blk_cell BK170.out 2).trans rfl
                                          have hfz83_0 := blk_frozen BK170.out 0
                                          have hfz83_1 := blk_frozen BK170.out 1
                                          have hfz83_2 := blk_frozen BK170.out 2
                                          obtain ⟨Ao84, co84, eo84⟩ := Kd.R_slice HO_171002.out
                                          subst eo84
                                          go_wp2_with (first | ((with_reducible refine gate_callee (f := 60) rfl ?_); refine goesL_ (some 136) rfl rfl Try.func60 (by kernel_rfl) rfl #[.agg #[.int .i64 (x11_5.length : Int), .int .i64 (x11_5.length : Int), .slice Ao84 x171002_7.length co84]] rfl (by (try simp only [List.map_toArray, List.map_cons, List.map_nil]); first | done | rfl | (simp only [List.length_drop, List.length_take]; rfl)) ?_; (with_reducible refine (impl_MatRank.calls k7 (x11_5.length : Int) (x11_5.length : Int) _ _ x171002_7 t171 _ ?side1 ?side2 A73.out).mono ?_); (case side1 => repeat (first | exact (Kd.R_reads' HO_171002.out).2.2 | (with_reducible refine Kd.C_alloc ?_ _) | (with_reducible refine Kd.C_drewN ?_ _) | (with_reducible refine Kd.C_drew ?_))); (case side2 => exact (Kd.R_reads' HO_171002.out).2.1); rintro e w85 ⟨rfl, hb⟩; refine ⟨_, rfl, ?_⟩; have n0_ := Aside0.mk (Kd.R_below (by (with_reducible repeat (first | apply Kd.R_alloc | apply Kd.R_drewN | apply Kd.R_drew)); exact HO_8.out) hb); have n1_ := Aside0.mk (Kd.R_below (by (with_reducible repeat (first | apply Kd.R_alloc | apply Kd.R_drewN | apply Kd.R_drew)); exact HO_11.out) hb); have n2_ := Aside0.mk (Kd.R_below (by (with_reducible repeat (first | apply Kd.R_alloc | apply Kd.R_drewN | apply Kd.R_drew)); exact HO_147003.out) hb); have n3_ := Aside0.mk (Kd.R_below (by (with_reducible repeat (first | apply Kd.R_alloc | apply Kd.R_drewN | apply Kd.R_drew)); exact HO_171002.out) hb); have n4_ := Aside0.mk (blk_below (g := gb146) (o := .cells #[.int .i64 t140, .int .i64 t141, .int .i64 t142, .slice Ao13 t143.length co13] 36 (0, 0)) (by (with_reducible repeat (first | refine blk_drewN ?_ _ | refine blk_drew ?_ | refine blk_alloc ?_ _)); exact BK146.out) hb); have n5_ := Aside0.mk (blk_below (g := gb170) (o := .cells #[.int .i64 (x11_5.length : Int), .int .i64 (x11_5.length : Int), .slice Ao84 x171002_7.length co84] 34 (0, 0)) (by (with_reducible repeat (first | refine blk_drewN ?_ _ | refine blk_drew ?_ | refine blk_alloc ?_ _)); exact BK170.out) hb); have n6_ := Aside0.mk (below_step (by repeat (first | (with_reducible first | exact HB.out | apply below_alloc | apply pw_below_drewN | apply below_drew1 | refine below_set ?_ GE146.out | refine below_set ?_ GE170.out) | exact HB.out)) hb); clear HO_8; clear HO_11; clear HO_147003; clear HO_171002; clear BK146; clear BK170; clear HB; have HO_8 := n0_; have HO_11 := n1_; have HO_147003 := n2_; have HO_171002 := n3_; have BK146 := n4_; have BK170 := n5_; have HB := n6_; clear n0_ n1_ n2_ n3_ n4_ n5_ n6_; (try clear hb); (try clear hb2); (try clear hk); (try clear hi)))
                                          go_ret
                                          exact ⟨by first | rfl | (simp [errW_none, errW_some] <;> rfl) | (simp [*, errW_none, errW_some] <;> rfl), by repeat (first | (with_reducible first | exact HB.out | apply below_alloc | apply pw_below_drewN | apply below_drew1 | refine below_set ?_ GE146.out | refine below_set ?_ GE170.out) | exact HB.out)⟩

/-- THE ONE PURE STATEMENT of laws_FnCauchy: yours. -/
def laws_FnCauchy.Pure : Prop := ∀ (l0 : List Int) (l1 : List Int), l0.length ≤ maxLen → l0.length * 1 ≤ 140737488351232 → (∀ x ∈ l0, (Lit.int .u8 x).wf = true) → l1.length ≤ maxLen → l1.length * 1 ≤ 140737488351232 → (∀ x ∈ l1, (Lit.int .u8 x).wf = true) → ∃ k, laws_FnCauchy.f k l0 l1 = some true
theorem laws_FnCauchy.walk (P : laws_FnCauchy.Pure) (a0 : Option Addr) (len0 cap0 : Nat) (z0 : List Int) (a1 : Option Addr) (len1 cap1 : Nat) (z1 : List Int) (w : World) (w0 : (a0 = none ∧ len0 = 0 ∧ cap0 = 0 ∧ z0 = []) ∨ ∃ x, a0 = some x ∧ len0 ≤ cap0 ∧ cap0 ≤ maxLen ∧ z0.length = cap0 ∧ (∀ i, i < z0.length → w.cell? (x.add i) = some (.int .u8 (z0.getD i 0))) ∧ ∀ n ∈ z0, (Lit.int .u8 n).wf = true) (y0 : len0 * 1 ≤ 140737488351232) (w1 : (a1 = none ∧ len1 = 0 ∧ cap1 = 0 ∧ z1 = []) ∨ ∃ x, a1 = some x ∧ len1 ≤ cap1 ∧ cap1 ≤ maxLen ∧ z1.length = cap1 ∧ (∀ i, i < z1.length → w.cell? (x.add i) = some (.int .u8 (z1.getD i 0))) ∧ ∀ n ∈ z1, (Lit.int .u8 n).wf = true) (y1 : len1 * 1 ≤ 140737488351232) :
    Calls Try.prog 10 #[.slice a0 len0 cap0, .slice a1 len1 cap1] w fun e w' => e = .returned (.bool true) ∧ Below w.heap.size w w' := by
  obtain ⟨l0, rfl, hr0, hm0, hw0, hc0⟩ := ReadsInt.ofRowC w0
  obtain ⟨l1, rfl, hr1, hm1, hw1, hc1⟩ := ReadsInt.ofRowC w1
  obtain ⟨k, h⟩ := P l0 l1 hm0 y0 hw0 hm1 y1 hw1
  refine (laws_FnCauchy.calls k _ _ l0 _ _ l1 true w (Kd.C_of_reads (d := (0 : Int)) (h1 := fun _ => rfl) hr0) hc0 (Kd.C_of_reads (d := (0 : Int)) (h1 := fun _ => rfl) hr1) hc1 h).mono ?_
  rintro e w' ⟨rfl, hd⟩
  exact ⟨rfl, hd⟩

end Go.Proofs.Ytcpmlelejlmpdaa.QFnCauchy
