-- A text of this session, printed by a program of its own (wip/tools: xpatch.py, xprint.sh, mkq.py). No condition.
import Derived.Test.YtflpkbegdmihdaaVFnExactTableFaultQFnExactTableFaultx0
import Derived.Test.YtflpkbegdmihdaaVFnExactTableFaultQFnExactTableFaultx5
namespace Go.Proofs.Ytflpkbegdmihdaa.QFnExactTableFault
open Go.RowKit Go.Proofs.YtflpkbegdmihdaaW.PrintWords Go.Proofs.YtflpkbegdmihdaaW.PrintLast Go.Proofs.YtflpkbegdmihdaaW.PrintMore
attribute [local go_sem] max2_int min2_int max_two min_two max_three min_three max_four min_four
set_option linter.unusedVariables false
set_option linter.unusedSimpArgs false
mutual
def impl_TableFault.j0 : Nat → Bool → Int → Int → List (S118) → List (S53) → Option (Int)
  | 0, _, _, _, _, _ => none
  | k + 1, x37, x206000, x206001, x206002, x206003 => if x37 = true then (some 1) else (impl_TableFault.l0 k (([] : List Int)) 0 x206003 (x206003.length : Int) 0 x206000 x206001 x206002 x206003)
def impl_TableFault.l0 : Nat → List Int → Int → List (S53) → Int → Int → Int → Int → List (S118) → List (S53) → Option (Int)
  | 0, _, _, _, _, _, _, _, _, _ => none
  | k + 1, x3, x4, x40, x41, x42, x206000, x206001, x206002, x206003 => if x42 < x41 then (if 0 ≤ x42 then (if x42 < (x40.length : Int) then ((impl_RunFault.f k ((rd_T53 x40 x42).f0)).bind fun t212 => (if t212 = 0 then (impl_TableFault.l1 k x3 x4 x40 x41 x42 ((rd_T53 x40 x42).f0) (((rd_T53 x40 x42).f0).length : Int) 0 x206000 x206001 x206002 x206003) else (some 1))) else (none)) else (none)) else (impl_TableFault.l2 k x3 x4 x206002 (x206002.length : Int) 0 x206000 x206001 x206002 x206003)
def impl_TableFault.l1 : Nat → List Int → Int → List (S53) → Int → Int → List (S118) → Int → Int → Int → Int → List (S118) → List (S53) → Option (Int)
  | 0, _, _, _, _, _, _, _, _, _, _, _, _ => none
  | k + 1, x3, x4, x40, x41, x42, x50, x51, x52, x206000, x206001, x206002, x206003 => if x52 < x51 then (if 0 ≤ x52 then (if x52 < (x50.length : Int) then ((mapHas.f x3 ((rd_T118 x50 x52).f1)).bind fun t215 => (if t215 = true then (impl_TableFault.j3 k x3 x4 x40 x41 x42 x50 x51 x52 true x206000 x206001 x206002 x206003 ((rd_T118 x50 x52).f0) ((rd_T118 x50 x52).f1) ((rd_T118 x50 x52).f2) ((rd_T118 x50 x52).f3)) else (impl_TableFault.j3 k x3 x4 x40 x41 x42 x50 x51 x52 (decide (((rd_T118 x50 x52).f1) > x206000)) x206000 x206001 x206002 x206003 ((rd_T118 x50 x52).f0) ((rd_T118 x50 x52).f1) ((rd_T118 x50 x52).f2) ((rd_T118 x50 x52).f3)))) else (none)) else (none)) else (impl_TableFault.l0 k x3 x4 x40 x41 (wrap64 (x42 + 1)) x206000 x206001 x206002 x206003)
def impl_TableFault.j3 : Nat → List Int → Int → List (S53) → Int → Int → List (S118) → Int → Int → Bool → Int → Int → List (S118) → List (S53) → ByteArray → Int → Bool → ByteArray → Option (Int)
  | 0, _, _, _, _, _, _, _, _, _, _, _, _, _, _, _, _, _ => none
  | k + 1, x3, x4, x40, x41, x42, x50, x51, x52, x66, x206000, x206001, x206002, x206003, x215000, x215001, x215002, x215003 => if x66 = true then (some 1) else ((keyIn.f x215001).bind fun t216 => (if x3.length < 17592186044416 then (impl_TableFault.l1 k (x3 ++ [t216]) (mx x4 x215001) x40 x41 x42 x50 x51 (wrap64 (x52 + 1)) x206000 x206001 x206002 x206003) else (none)))
def impl_TableFault.l2 : Nat → List Int → Int → List (S118) → Int → Int → Int → Int → List (S118) → List (S53) → Option (Int)
  | 0, _, _, _, _, _, _, _, _, _ => none
  | k + 1, x3, x4, x78, x79, x80, x206000, x206001, x206002, x206003 => if x80 < x79 then (if 0 ≤ x80 then (if x80 < (x78.length : Int) then (if ((rd_T118 x78 x80).f1) ≤ x4 then (impl_TableFault.j5 k x3 x4 x78 x79 x80 true x206000 x206001 x206002 x206003) else (impl_TableFault.j5 k x3 x4 x78 x79 x80 (decide (((rd_T118 x78 x80).f1) > x206000)) x206000 x206001 x206002 x206003)) else (none)) else (none)) else ((mapLen.f x3).bind fun t222 => (if (wrap64 (t222 + (x206002.length : Int))) > 1000 then (some 1) else (some 0)))
def impl_TableFault.j5 : Nat → List Int → Int → List (S118) → Int → Int → Bool → Int → Int → List (S118) → List (S53) → Option (Int)
  | 0, _, _, _, _, _, _, _, _, _, _ => none
  | k + 1, x3, x4, x78, x79, x80, x94, x206000, x206001, x206002, x206003 => if x94 = true then (some 1) else (impl_TableFault.l2 k x3 x4 x78 x79 (wrap64 (x80 + 1)) x206000 x206001 x206002 x206003)
end
def impl_TableFault.f (k : Nat) (a0_0 : Int) (a0_1 : Int) (l0_2 : List (S118)) (l0_3 : List (S53)) : Option (Int) := if (l0_3.length : Int) > 20 then (impl_TableFault.j0 k true a0_0 a0_1 l0_2 l0_3) else ((impl_RunFault.f k l0_2).bind fun t206 => (if t206 = 0 then (if a0_0 > 4611686018427387904 then (impl_TableFault.j0 k true a0_0 a0_1 l0_2 l0_3) else (if a0_1 < 0 then (impl_TableFault.j0 k true a0_0 a0_1 l0_2 l0_3) else (impl_TableFault.j0 k (decide (a0_1 > a0_0)) a0_0 a0_1 l0_2 l0_3))) else (impl_TableFault.j0 k true a0_0 a0_1 l0_2 l0_3)))
theorem impl_TableFault.mono_l : ∀ k, (∀ y0 y1 y2 y3 y4, LeO (impl_TableFault.j0 k y0 y1 y2 y3 y4) (impl_TableFault.j0 (k + 1) y0 y1 y2 y3 y4)) ∧ (∀ y0 y1 y2 y3 y4 y5 y6 y7 y8, LeO (impl_TableFault.l0 k y0 y1 y2 y3 y4 y5 y6 y7 y8) (impl_TableFault.l0 (k + 1) y0 y1 y2 y3 y4 y5 y6 y7 y8)) ∧ (∀ y0 y1 y2 y3 y4 y5 y6 y7 y8 y9 y10 y11, LeO (impl_TableFault.l1 k y0 y1 y2 y3 y4 y5 y6 y7 y8 y9 y10 y11) (impl_TableFault.l1 (k + 1) y0 y1 y2 y3 y4 y5 y6 y7 y8 y9 y10 y11)) ∧ (∀ y0 y1 y2 y3 y4 y5 y6 y7 y8 y9 y10 y11 y12 y13 y14 y15 y16, LeO (impl_TableFault.j3 k y0 y1 y2 y3 y4 y5 y6 y7 y8 y9 y10 y11 y12 y13 y14 y15 y16) (impl_TableFault.j3 (k + 1) y0 y1 y2 y3 y4 y5 y6 y7 y8 y9 y10 y11 y12 y13 y14 y15 y16)) ∧ (∀ y0 y1 y2 y3 y4 y5 y6 y7 y8, LeO (impl_TableFault.l2 k y0 y1 y2 y3 y4 y5 y6 y7 y8) (impl_TableFault.l2 (k + 1) y0 y1 y2 y3 y4 y5 y6 y7 y8)) ∧ (∀ y0 y1 y2 y3 y4 y5 y6 y7 y8 y9, LeO (impl_TableFault.j5 k y0 y1 y2 y3 y4 y5 y6 y7 y8 y9) (impl_TableFault.j5 (k + 1) y0 y1 y2 y3 y4 y5 y6 y7 y8 y9))
  | 0 => ⟨fun _ _ _ _ _ r h => by simp [impl_TableFault.j0] at h, fun _ _ _ _ _ _ _ _ _ r h => by simp [impl_TableFault.l0] at h, fun _ _ _ _ _ _ _ _ _ _ _ _ r h => by simp [impl_TableFault.l1] at h, fun _ _ _ _ _ _ _ _ _ _ _ _ _ _ _ _ _ r h => by simp [impl_TableFault.j3] at h, fun _ _ _ _ _ _ _ _ _ r h => by simp [impl_TableFault.l2] at h, fun _ _ _ _ _ _ _ _ _ _ r h => by simp [impl_TableFault.j5] at h⟩
  | k + 1 => by
    obtain ⟨ih0, ih1, ih2, ih3, ih4, ih5⟩ := impl_TableFault.mono_l k
    refine ⟨?_, ?_, ?_, ?_, ?_, ?_⟩
    · intro y0 y1 y2 y3 y4
      unfold impl_TableFault.j0
      repeat' first
      | (with_reducible exact ih0 _ _ _ _ _)
      | (with_reducible exact ih1 _ _ _ _ _ _ _ _ _)
      | (with_reducible exact ih2 _ _ _ _ _ _ _ _ _ _ _ _)
      | (with_reducible exact ih3 _ _ _ _ _ _ _ _ _ _ _ _ _ _ _ _ _)
      | (with_reducible exact ih4 _ _ _ _ _ _ _ _ _)
      | (with_reducible exact ih5 _ _ _ _ _ _ _ _ _ _)
      | (with_reducible exact impl_RunFault.mono _ _)
      | (with_reducible exact LeO.refl _)
      | (with_reducible exact LeO.none _)
      | (with_reducible refine LeO.ite ?_ ?_)
      | (with_reducible refine LeO.bind ?_ (fun _ => ?_))
      | exact ih0 _ _ _ _ _
      | exact ih1 _ _ _ _ _ _ _ _ _
      | exact ih2 _ _ _ _ _ _ _ _ _ _ _ _
      | exact ih3 _ _ _ _ _ _ _ _ _ _ _ _ _ _ _ _ _
      | exact ih4 _ _ _ _ _ _ _ _ _
      | exact ih5 _ _ _ _ _ _ _ _ _ _
      | exact impl_RunFault.mono _ _
      | exact LeO.none _
      | refine LeO.ite ?_ ?_
      | refine LeO.bind ?_ (fun _ => ?_)
    · intro y0 y1 y2 y3 y4 y5 y6 y7 y8
      unfold impl_TableFault.l0
      repeat' first
      | (with_reducible exact ih0 _ _ _ _ _)
      | (with_reducible exact ih1 _ _ _ _ _ _ _ _ _)
      | (with_reducible exact ih2 _ _ _ _ _ _ _ _ _ _ _ _)
      | (with_reducible exact ih3 _ _ _ _ _ _ _ _ _ _ _ _ _ _ _ _ _)
      | (with_reducible exact ih4 _ _ _ _ _ _ _ _ _)
      | (with_reducible exact ih5 _ _ _ _ _ _ _ _ _ _)
      | (with_reducible exact impl_RunFault.mono _ _)
      | (with_reducible exact LeO.refl _)
      | (with_reducible exact LeO.none _)
      | (with_reducible refine LeO.ite ?_ ?_)
      | (with_reducible refine LeO.bind ?_ (fun _ => ?_))
      | exact ih0 _ _ _ _ _
      | exact ih1 _ _ _ _ _ _ _ _ _
      | exact ih2 _ _ _ _ _ _ _ _ _ _ _ _
      | exact ih3 _ _ _ _ _ _ _ _ _ _ _ _ _ _ _ _ _
      | exact ih4 _ _ _ _ _ _ _ _ _
      | exact ih5 _ _ _ _ _ _ _ _ _ _
      | exact impl_RunFault.mono _ _
      | exact LeO.none _
      | refine LeO.ite ?_ ?_
      | refine LeO.bind ?_ (fun _ => ?_)
    · intro y0 y1 y2 y3 y4 y5 y6 y7 y8 y9 y10 y11
      unfold impl_TableFault.l1
      repeat' first
      | (with_reducible exact ih0 _ _ _ _ _)
      | (with_reducible exact ih1 _ _ _ _ _ _ _ _ _)
      | (with_reducible exact ih2 _ _ _ _ _ _ _ _ _ _ _ _)
      | (with_reducible exact ih3 _ _ _ _ _ _ _ _ _ _ _ _ _ _ _ _ _)
      | (with_reducible exact ih4 _ _ _ _ _ _ _ _ _)
      | (with_reducible exact ih5 _ _ _ _ _ _ _ _ _ _)
      | (with_reducible exact impl_RunFault.mono _ _)
      | (with_reducible exact LeO.refl _)
      | (with_reducible exact LeO.none _)
      | (with_reducible refine LeO.ite ?_ ?_)
      | (with_reducible refine LeO.bind ?_ (fun _ => ?_))
      | exact ih0 _ _ _ _ _
      | exact ih1 _ _ _ _ _ _ _ _ _
      | exact ih2 _ _ _ _ _ _ _ _ _ _ _ _
      | exact ih3 _ _ _ _ _ _ _ _ _ _ _ _ _ _ _ _ _
      | exact ih4 _ _ _ _ _ _ _ _ _
      | exact ih5 _ _ _ _ _ _ _ _ _ _
      | exact impl_RunFault.mono _ _
      | exact LeO.none _
      | refine LeO.ite ?_ ?_
      | refine LeO.bind ?_ (fun _ => ?_)
    · intro y0 y1 y2 y3 y4 y5 y6 y7 y8 y9 y10 y11 y12 y13 y14 y15 y16
      unfold impl_TableFault.j3
      repeat' first
      | (with_reducible exact ih0 _ _ _ _ _)
      | (with_reducible exact ih1 _ _ _ _ _ _ _ _ _)
      | (with_reducible exact ih2 _ _ _ _ _ _ _ _ _ _ _ _)
      | (with_reducible exact ih3 _ _ _ _ _ _ _ _ _ _ _ _ _ _ _ _ _)
      | (with_reducible exact ih4 _ _ _ _ _ _ _ _ _)
      | (with_reducible exact ih5 _ _ _ _ _ _ _ _ _ _)
      | (with_reducible exact impl_RunFault.mono _ _)
      | (with_reducible exact LeO.refl _)
      | (with_reducible exact LeO.none _)
      | (with_reducible refine LeO.ite ?_ ?_)
      | (with_reducible refine LeO.bind ?_ (fun _ => ?_))
      | exact ih0 _ _ _ _ _
      | exact ih1 _ _ _ _ _ _ _ _ _
      | exact ih2 _ _ _ _ _ _ _ _ _ _ _ _
      | exact ih3 _ _ _ _ _ _ _ _ _ _ _ _ _ _ _ _ _
      | exact ih4 _ _ _ _ _ _ _ _ _
      | exact ih5 _ _ _ _ _ _ _ _ _ _
      | exact impl_RunFault.mono _ _
      | exact LeO.none _
      | refine LeO.ite ?_ ?_
      | refine LeO.bind ?_ (fun _ => ?_)
    · intro y0 y1 y2 y3 y4 y5 y6 y7 y8
      unfold impl_TableFault.l2
      repeat' first
      | (with_reducible exact ih0 _ _ _ _ _)
      | (with_reducible exact ih1 _ _ _ _ _ _ _ _ _)
      | (with_reducible exact ih2 _ _ _ _ _ _ _ _ _ _ _ _)
      | (with_reducible exact ih3 _ _ _ _ _ _ _ _ _ _ _ _ _ _ _ _ _)
      | (with_reducible exact ih4 _ _ _ _ _ _ _ _ _)
      | (with_reducible exact ih5 _ _ _ _ _ _ _ _ _ _)
      | (with_reducible exact impl_RunFault.mono _ _)
      | (with_reducible exact LeO.refl _)
      | (with_reducible exact LeO.none _)
      | (with_reducible refine LeO.ite ?_ ?_)
      | (with_reducible refine LeO.bind ?_ (fun _ => ?_))
      | exact ih0 _ _ _ _ _
      | exact ih1 _ _ _ _ _ _ _ _ _
      | exact ih2 _ _ _ _ _ _ _ _ _ _ _ _
      | exact ih3 _ _ _ _ _ _ _ _ _ _ _ _ _ _ _ _ _
      | exact ih4 _ _ _ _ _ _ _ _ _
      | exact ih5 _ _ _ _ _ _ _ _ _ _
      | exact impl_RunFault.mono _ _
      | exact LeO.none _
      | refine LeO.ite ?_ ?_
      | refine LeO.bind ?_ (fun _ => ?_)
    · intro y0 y1 y2 y3 y4 y5 y6 y7 y8 y9
      unfold impl_TableFault.j5
      repeat' first
      | (with_reducible exact ih0 _ _ _ _ _)
      | (with_reducible exact ih1 _ _ _ _ _ _ _ _ _)
      | (with_reducible exact ih2 _ _ _ _ _ _ _ _ _ _ _ _)
      | (with_reducible exact ih3 _ _ _ _ _ _ _ _ _ _ _ _ _ _ _ _ _)
      | (with_reducible exact ih4 _ _ _ _ _ _ _ _ _)
      | (with_reducible exact ih5 _ _ _ _ _ _ _ _ _ _)
      | (with_reducible exact impl_RunFault.mono _ _)
      | (with_reducible exact LeO.refl _)
      | (with_reducible exact LeO.none _)
      | (with_reducible refine LeO.ite ?_ ?_)
      | (with_reducible refine LeO.bind ?_ (fun _ => ?_))
      | exact ih0 _ _ _ _ _
      | exact ih1 _ _ _ _ _ _ _ _ _
      | exact ih2 _ _ _ _ _ _ _ _ _ _ _ _
      | exact ih3 _ _ _ _ _ _ _ _ _ _ _ _ _ _ _ _ _
      | exact ih4 _ _ _ _ _ _ _ _ _
      | exact ih5 _ _ _ _ _ _ _ _ _ _
      | exact impl_RunFault.mono _ _
      | exact LeO.none _
      | refine LeO.ite ?_ ?_
      | refine LeO.bind ?_ (fun _ => ?_)
theorem impl_TableFault.mono : ∀ a0 a1 a2 a3 k, LeO (impl_TableFault.f k a0 a1 a2 a3) (impl_TableFault.f (k + 1) a0 a1 a2 a3) := by
  intro a0 a1 a2 a3 k
  obtain ⟨ih0, ih1, ih2, ih3, ih4, ih5⟩ := impl_TableFault.mono_l k
  unfold impl_TableFault.f
  repeat' first
      | (with_reducible exact ih0 _ _ _ _ _)
      | (with_reducible exact ih1 _ _ _ _ _ _ _ _ _)
      | (with_reducible exact ih2 _ _ _ _ _ _ _ _ _ _ _ _)
      | (with_reducible exact ih3 _ _ _ _ _ _ _ _ _ _ _ _ _ _ _ _ _)
      | (with_reducible exact ih4 _ _ _ _ _ _ _ _ _)
      | (with_reducible exact ih5 _ _ _ _ _ _ _ _ _ _)
      | (with_reducible exact impl_RunFault.mono _ _)
      | (with_reducible exact LeO.refl _)
      | (with_reducible exact LeO.none _)
      | (with_reducible refine LeO.ite ?_ ?_)
      | (with_reducible refine LeO.bind ?_ (fun _ => ?_))
      | exact ih0 _ _ _ _ _
      | exact ih1 _ _ _ _ _ _ _ _ _
      | exact ih2 _ _ _ _ _ _ _ _ _ _ _ _
      | exact ih3 _ _ _ _ _ _ _ _ _ _ _ _ _ _ _ _ _
      | exact ih4 _ _ _ _ _ _ _ _ _
      | exact ih5 _ _ _ _ _ _ _ _ _ _
      | exact impl_RunFault.mono _ _
      | exact LeO.none _
      | refine LeO.ite ?_ ?_
      | refine LeO.bind ?_ (fun _ => ?_)
set_option maxHeartbeats 8000000 in
set_option maxRecDepth 100000 in
theorem impl_TableFault.calls (k : Nat) (a0_0 : Int) (a0_1 : Int) (A0_2 : Option Addr) (c0_2 : Nat) (l0_2 : List (S118)) (A0_3 : Option Addr) (c0_3 : Nat) (l0_3 : List (S53)) (r : Int) (w : World) (hr0_2 : Kd.C k118 w A0_2 l0_2.length l0_2) (hc0_2 : l0_2.length ≤ c0_2) (hr0_3 : Kd.C k53 w A0_3 l0_3.length l0_3) (hc0_3 : l0_3.length ≤ c0_3) (h : impl_TableFault.f k a0_0 a0_1 l0_2 l0_3 = some r) :
  Calls Try.prog 18 #[.agg #[.int .i64 a0_0, .int .i64 a0_1, .slice A0_2 l0_2.length c0_2, .slice A0_3 l0_3.length c0_3]] w fun e w' => e = .returned (.int .i64 r) ∧ Below w.heap.size w w' := by
 have hu56 := Try.underlying56
 have hu53 := Try.underlying53
 have hu118 := Try.underlying118
 have HR0_2 := Aside0.mk hr0_2
 have HC0_2 := Aside0.mk hc0_2
 clear hr0_2 hc0_2
 have HR0_3 := Aside0.mk hr0_3
 have HC0_3 := Aside0.mk hc0_3
 clear hr0_3 hc0_3
 have HB := Aside0.mk (Below.refl w.heap.size w)
 have H : (if (l0_3.length : Int) > 20 then (impl_TableFault.j0 k true a0_0 a0_1 l0_2 l0_3) else ((impl_RunFault.f k l0_2).bind fun t206 => (if t206 = 0 then (if a0_0 > 4611686018427387904 then (impl_TableFault.j0 k true a0_0 a0_1 l0_2 l0_3) else (if a0_1 < 0 then (impl_TableFault.j0 k true a0_0 a0_1 l0_2 l0_3) else (impl_TableFault.j0 k (decide (a0_1 > a0_0)) a0_0 a0_1 l0_2 l0_3))) else (impl_TableFault.j0 k true a0_0 a0_1 l0_2 l0_3)))) = some r := h
 clear h
 have HC2 := Aside0.mk H
 clear H
 go_enter Try.func18, Try.ntmps18
 go_upto_region 1 with (first | ((with_reducible refine gate_dst (N := 1) rfl ?_); refine box_event ?hg (N := 1) ?hd (cs := #[.int .i64 a0_0, .int .i64 a0_1, .slice A0_2 l0_2.length c0_2, .slice A0_3 l0_3.length c0_3]) (t := 56) ?hr ?_; (case hd => rfl); (case hg => rfl); (case hr => first | (go_simp; done) | (go_simp; rfl)); intro gb205 hg w3 hbox hb; have n0_ := Aside0.mk (below_step (by first | exact Grow.bl HB.out | exact HB.out) hb); have n1_ := Aside0.mk (hbox); have n2_ := Aside0.mk ((by rw [hg]; exact (below_size (by first | exact Grow.bl HB.out | exact HB.out)) : w.heap.size ≤ gb205)); have n3_ := Aside0.mk ((by rw [hg]; exact (below_size (by first | exact Grow.bl HB.out | exact HB.out)) : w.heap.size ≤ gb205)); clear HB; have HB := n0_; have BK205 := n1_; have GW205 := n2_; have GE205 := n3_; clear n0_ n1_ n2_ n3_; clear hb hbox hg))
 (try simp only [Act.put, List.setIfInBounds_toArray, List.set_cons_zero, List.set_cons_succ])
 go_cut [37] (fun v37 wc => ∃ (kq : Nat) (x37_1 : Bool), v37 = .bool x37_1 ∧ Aside0 (impl_TableFault.j0 kq x37_1 a0_0 a0_1 l0_2 l0_3 = some r) ∧ Aside0 (kq ≤ k) ∧ Aside0 (wc.heap[gb205]? = some (.cells #[.int .i64 a0_0, .int .i64 a0_1, (.slice A0_2 l0_2.length c0_2), (.slice A0_3 l0_3.length c0_3)] 56 (0, 0))) ∧ Aside0 (Below w.heap.size w wc))
 case first =>
  have H := HC2.out
  clear HC2
  by_cases c4 : (l0_3.length : Int) > 20
  ·
   rw [if_pos c4] at H
   have c4b0 : decide (20 < (l0_3.length : Int)) = true := decide_eq_true c4
   have c4b1 : decide (20 < l0_3.length) = true := decide_eq_true (by omega)
   clear c4
   (first | rw [c4b0] | (simp only [i64_w, i32_w]; rw [c4b0]) | skip)
   have H' := Aside0.mk H
   clear H
   have hcz5_0 : w3.cell? ⟨gb205, 0, none⟩ = some (.int .i64 a0_0) := (blk_cell BK205.out 0).trans rfl
   have hcz5_1 : w3.cell? ⟨gb205, 1, none⟩ = some (.int .i64 a0_1) := (blk_cell BK205.out 1).trans rfl
   have hcz5_2 : w3.cell? ⟨gb205, 2, none⟩ = some (.slice A0_2 l0_2.length c0_2) := (blk_cell BK205.out 2).trans rfl
   have hcz5_3 : w3.cell? ⟨gb205, 3, none⟩ = some (.slice A0_3 l0_3.length c0_3) := (blk_cell BK205.out 3).trans rfl
   have hfz5_0 := blk_frozen BK205.out 0
   have hfz5_1 := blk_frozen BK205.out 1
   have hfz5_2 := blk_frozen BK205.out 2
   have hfz5_3 := blk_frozen BK205.out 3
   go_wp2
   go_meet
   case rel => exact ⟨_, (true), (by first | rfl | (simp; done) | (simp [*]; done)), H', ⟨by first | omega | exact Nat.le_refl _⟩, ⟨by first | exact Grow.bk BK205.out | exact BK205.out⟩, ⟨by repeat (first | (with_reducible first | exact HB.out | apply below_alloc | apply pw_below_drewN | apply below_drew1 | refine below_set ?_ GE205.out) | exact HB.out)⟩⟩
  ·
   rw [if_neg c4] at H
   have c4b0 : decide (20 < (l0_3.length : Int)) = false := decide_eq_false c4
   have c4b1 : decide (20 < l0_3.length) = false := decide_eq_false (by omega)
   clear c4
   (first | rw [c4b0] | (simp only [i64_w, i32_w]; rw [c4b0]) | skip)
   replace H := Option.bind_eq_some_iff.mp H
   obtain ⟨t206, A60, H⟩ := H
   replace H : (if t206 = 0 then (if a0_0 > 4611686018427387904 then (impl_TableFault.j0 k true a0_0 a0_1 l0_2 l0_3) else (if a0_1 < 0 then (impl_TableFault.j0 k true a0_0 a0_1 l0_2 l0_3) else (impl_TableFault.j0 k (decide (a0_1 > a0_0)) a0_0 a0_1 l0_2 l0_3))) else (impl_TableFault.j0 k true a0_0 a0_1 l0_2 l0_3)) = some r := H
   have A6 := Aside0.mk A60
   clear A60
   by_cases c7 : t206 = 0
   ·
    rw [if_pos c7] at H
    have c7b0 : (t206 == 0) = true := beq_iff_eq.mpr c7
    have c7b1 : (t206 != 0) = false := bne_eq_false_iff_eq.mpr c7
    clear c7
    by_cases c8 : a0_0 > 4611686018427387904
    ·
     rw [if_pos c8] at H
     have c8b0 : decide (4611686018427387904 < a0_0) = true := decide_eq_true c8
     clear c8
     have H' := Aside0.mk H
     clear H
     have hcz9_0 : w3.cell? ⟨gb205, 0, none⟩ = some (.int .i64 a0_0) := (blk_cell BK205.out 0).trans rfl
     have hcz9_1 : w3.cell? ⟨gb205, 1, none⟩ = some (.int .i64 a0_1) := (blk_cell BK205.out 1).trans rfl
     have hcz9_2 : w3.cell? ⟨gb205, 2, none⟩ = some (.slice A0_2 l0_2.length c0_2) := (blk_cell BK205.out 2).trans rfl
     have hcz9_3 : w3.cell? ⟨gb205, 3, none⟩ = some (.slice A0_3 l0_3.length c0_3) := (blk_cell BK205.out 3).trans rfl
     have hfz9_0 := blk_frozen BK205.out 0
     have hfz9_1 := blk_frozen BK205.out 1
     have hfz9_2 := blk_frozen BK205.out 2
     have hfz9_3 := blk_frozen BK205.out 3
     go_wp2_with (first | (go_at_call 68; (with_reducible refine (impl_RunFault.calls k _ _ l0_2 t206 _ ?side1 ?side2 A6.out).mono ?_); (case side1 => first | exact Grow.cb HR0_2.out HB.out | exact Kd.C_below HR0_2.out HB.out); (case side2 => exact HC0_2.out); rintro e w10 ⟨rfl, hb⟩; have n0_ := Aside0.mk (blk_below (g := gb205) (o := .cells #[.int .i64 a0_0, .int .i64 a0_1, .slice A0_2 l0_2.length c0_2, .slice A0_3 l0_3.length c0_3] 56 (0, 0)) (by first | exact Grow.bk BK205.out | exact BK205.out) hb); have n1_ := Aside0.mk (below_step (by repeat (first | (with_reducible first | exact HB.out | apply below_alloc | apply pw_below_drewN | apply below_drew1 | refine below_set ?_ GE205.out) | exact HB.out)) hb); clear BK205; clear HB; have BK205 := n0_; have HB := n1_; clear n0_ n1_; (try clear hb); (try clear hb2); (try clear hk); (try clear hi); have hcz11_0 : w10.cell? ⟨gb205, 0, none⟩ = some (.int .i64 a0_0) := (blk_cell BK205.out 0).trans rfl; have hcz11_1 : w10.cell? ⟨gb205, 1, none⟩ = some (.int .i64 a0_1) := (blk_cell BK205.out 1).trans rfl; have hcz11_2 : w10.cell? ⟨gb205, 2, none⟩ = some (.slice A0_2 l0_2.length c0_2) := (blk_cell BK205.out 2).trans rfl; have hcz11_3 : w10.cell? ⟨gb205, 3, none⟩ = some (.slice A0_3 l0_3.length c0_3) := (blk_cell BK205.out 3).trans rfl; have hfz11_0 := blk_frozen BK205.out 0; have hfz11_1 := blk_frozen BK205.out 1; have hfz11_2 := blk_frozen BK205.out 2; have hfz11_3 := blk_frozen BK205.out 3))
     go_meet
     case rel => exact ⟨_, (true), (by first | rfl | (simp; done) | (simp [*]; done)), H', ⟨by first | omega | exact Nat.le_refl _⟩, ⟨by first | exact Grow.bk BK205.out | exact BK205.out⟩, ⟨by repeat (first | (with_reducible first | exact HB.out | apply below_alloc | apply pw_below_drewN | apply below_drew1 | refine below_set ?_ GE205.out) | exact HB.out)⟩⟩
    ·
     rw [if_neg c8] at H
     have c8b0 : decide (4611686018427387904 < a0_0) = false := decide_eq_false c8
     clear c8
     by_cases c12 : a0_1 < 0
     ·
      rw [if_pos c12] at H
      have c12b0 : decide (a0_1 < 0) = true := decide_eq_true c12
      clear c12
      have H' := Aside0.mk H
      clear H
      have hcz13_0 : w3.cell? ⟨gb205, 0, none⟩ = some (.int .i64 a0_0) := (blk_cell BK205.out 0).trans rfl
      have hcz13_1 : w3.cell? ⟨gb205, 1, none⟩ = some (.int .i64 a0_1) := (blk_cell BK205.out 1).trans rfl
      have hcz13_2 : w3.cell? ⟨gb205, 2, none⟩ = some (.slice A0_2 l0_2.length c0_2) := (blk_cell BK205.out 2).trans rfl
      have hcz13_3 : w3.cell? ⟨gb205, 3, none⟩ = some (.slice A0_3 l0_3.length c0_3) := (blk_cell BK205.out 3).trans rfl
      have hfz13_0 := blk_frozen BK205.out 0
      have hfz13_1 := blk_frozen BK205.out 1
      have hfz13_2 := blk_frozen BK205.out 2
      have hfz13_3 := blk_frozen BK205.out 3
      go_wp2_with (first | (go_at_call 68; (with_reducible refine (impl_RunFault.calls k _ _ l0_2 t206 _ ?side1 ?side2 A6.out).mono ?_); (case side1 => first | exact Grow.cb HR0_2.out HB.out | exact Kd.C_below HR0_2.out HB.out); (case side2 => exact HC0_2.out); rintro e w14 ⟨rfl, hb⟩; have n0_ := Aside0.mk (blk_below (g := gb205) (o := .cells #[.int .i64 a0_0, .int .i64 a0_1, .slice A0_2 l0_2.length c0_2, .slice A0_3 l0_3.length c0_3] 56 (0, 0)) (by first | exact Grow.bk BK205.out | exact BK205.out) hb); have n1_ := Aside0.mk (below_step (by repeat (first | (with_reducible first | exact HB.out | apply below_alloc | apply pw_below_drewN | apply below_drew1 | refine below_set ?_ GE205.out) | exact HB.out)) hb); clear BK205; clear HB; have BK205 := n0_; have HB := n1_; clear n0_ n1_; (try clear hb); (try clear hb2); (try clear hk); (try clear hi); have hcz15_0 : w14.cell? ⟨gb205, 0, none⟩ = some (.int .i64 a0_0) := (blk_cell BK205.out 0).trans rfl; have hcz15_1 : w14.cell? ⟨gb205, 1, none⟩ = some (.int .i64 a0_1) := (blk_cell BK205.out 1).trans rfl; have hcz15_2 : w14.cell? ⟨gb205, 2, none⟩ = some (.slice A0_2 l0_2.length c0_2) := (blk_cell BK205.out 2).trans rfl; have hcz15_3 : w14.cell? ⟨gb205, 3, none⟩ = some (.slice A0_3 l0_3.length c0_3) := (blk_cell BK205.out 3).trans rfl; have hfz15_0 := blk_frozen BK205.out 0; have hfz15_1 := blk_frozen BK205.out 1; have hfz15_2 := blk_frozen BK205.out 2; have hfz15_3 := blk_frozen BK205.out 3))
      go_meet
      case rel => exact ⟨_, (true), (by first | rfl | (simp; done) | (simp [*]; done)), H', ⟨by first | omega | exact Nat.le_refl _⟩, ⟨by first | exact Grow.bk BK205.out | exact BK205.out⟩, ⟨by repeat (first | (with_reducible first | exact HB.out | apply below_alloc | apply pw_below_drewN | apply below_drew1 | refine below_set ?_ GE205.out) | exact HB.out)⟩⟩
     ·
      rw [if_neg c12] at H
      have c12b0 : decide (a0_1 < 0) = false := decide_eq_false c12
      clear c12
      have H' := Aside0.mk H
      clear H
      have hcz16_0 : w3.cell? ⟨gb205, 0, none⟩ = some (.int .i64 a0_0) := (blk_cell BK205.out 0).trans rfl
      have hcz16_1 : w3.cell? ⟨gb205, 1, none⟩ = some (.int .i64 a0_1) := (blk_cell BK205.out 1).trans rfl
      have hcz16_2 : w3.cell? ⟨gb205, 2, none⟩ = some (.slice A0_2 l0_2.length c0_2) := (blk_cell BK205.out 2).trans rfl
      have hcz16_3 : w3.cell? ⟨gb205, 3, none⟩ = some (.slice A0_3 l0_3.length c0_3) := (blk_cell BK205.out 3).trans rfl
      have hfz16_0 := blk_frozen BK205.out 0
      have hfz16_1 := blk_frozen BK205.out 1
      have hfz16_2 := blk_frozen BK205.out 2
      have hfz16_3 := blk_frozen BK205.out 3
      go_wp2_with (first | (go_at_call 68; (with_reducible refine (impl_RunFault.calls k _ _ l0_2 t206 _ ?side1 ?side2 A6.out).mono ?_); (case side1 => first | exact Grow.cb HR0_2.out HB.out | exact Kd.C_below HR0_2.out HB.out); (case side2 => exact HC0_2.out); rintro e w17 ⟨rfl, hb⟩; have n0_ := Aside0.mk (blk_below (g := gb205) (o := .cells #[.int .i64 a0_0, .int .i64 a0_1, .slice A0_2 l0_2.length c0_2, .slice A0_3 l0_3.length c0_3] 56 (0, 0)) (by first | exact Grow.bk BK205.out | exact BK205.out) hb); have n1_ := Aside0.mk (below_step (by repeat (first | (with_reducible first | exact HB.out | apply below_alloc | apply pw_below_drewN | apply below_drew1 | refine below_set ?_ GE205.out) | exact HB.out)) hb); clear BK205; clear HB; have BK205 := n0_; have HB := n1_; clear n0_ n1_; (try clear hb); (try clear hb2); (try clear hk); (try clear hi); have hcz18_0 : w17.cell? ⟨gb205, 0, none⟩ = some (.int .i64 a0_0) := (blk_cell BK205.out 0).trans rfl; have hcz18_1 : w17.cell? ⟨gb205, 1, none⟩ = some (.int .i64 a0_1) := (blk_cell BK205.out 1).trans rfl; have hcz18_2 : w17.cell? ⟨gb205, 2, none⟩ = some (.slice A0_2 l0_2.length c0_2) := (blk_cell BK205.out 2).trans rfl; have hcz18_3 : w17.cell? ⟨gb205, 3, none⟩ = some (.slice A0_3 l0_3.length c0_3) := (blk_cell BK205.out 3).trans rfl; have hfz18_0 := blk_frozen BK205.out 0; have hfz18_1 := blk_frozen BK205.out 1; have hfz18_2 := blk_frozen BK205.out 2; have hfz18_3 := blk_frozen BK205.out 3))
      go_meet
      case rel => exact ⟨_, (decide (a0_1 > a0_0)), (by first | rfl | (simp; done) | (simp [*]; done)), H', ⟨by first | omega | exact Nat.le_refl _⟩, ⟨by first | exact Grow.bk BK205.out | exact BK205.out⟩, ⟨by repeat (first | (with_reducible first | exact HB.out | apply below_alloc | apply pw_below_drewN | apply below_drew1 | refine below_set ?_ GE205.out) | exact HB.out)⟩⟩
   ·
    rw [if_neg c7] at H
    have c7b0 : (t206 == 0) = false := beq_eq_false_iff_ne.mpr c7
    have c7b1 : (t206 != 0) = true := bne_iff_ne.mpr c7
    have H' := Aside0.mk H
    clear H
    have hcz19_0 : w3.cell? ⟨gb205, 0, none⟩ = some (.int .i64 a0_0) := (blk_cell BK205.out 0).trans rfl
    have hcz19_1 : w3.cell? ⟨gb205, 1, none⟩ = some (.int .i64 a0_1) := (blk_cell BK205.out 1).trans rfl
    have hcz19_2 : w3.cell? ⟨gb205, 2, none⟩ = some (.slice A0_2 l0_2.length c0_2) := (blk_cell BK205.out 2).trans rfl
    have hcz19_3 : w3.cell? ⟨gb205, 3, none⟩ = some (.slice A0_3 l0_3.length c0_3) := (blk_cell BK205.out 3).trans rfl
    have hfz19_0 := blk_frozen BK205.out 0
    have hfz19_1 := blk_frozen BK205.out 1
    have hfz19_2 := blk_frozen BK205.out 2
    have hfz19_3 := blk_frozen BK205.out 3
    go_wp2_with (first | (go_at_call 68; (with_reducible refine (impl_RunFault.calls k _ _ l0_2 t206 _ ?side1 ?side2 A6.out).mono ?_); (case side1 => first | exact Grow.cb HR0_2.out HB.out | exact Kd.C_below HR0_2.out HB.out); (case side2 => exact HC0_2.out); rintro e w20 ⟨rfl, hb⟩; have n0_ := Aside0.mk (blk_below (g := gb205) (o := .cells #[.int .i64 a0_0, .int .i64 a0_1, .slice A0_2 l0_2.length c0_2, .slice A0_3 l0_3.length c0_3] 56 (0, 0)) (by first | exact Grow.bk BK205.out | exact BK205.out) hb); have n1_ := Aside0.mk (below_step (by repeat (first | (with_reducible first | exact HB.out | apply below_alloc | apply pw_below_drewN | apply below_drew1 | refine below_set ?_ GE205.out) | exact HB.out)) hb); clear BK205; clear HB; have BK205 := n0_; have HB := n1_; clear n0_ n1_; (try clear hb); (try clear hb2); (try clear hk); (try clear hi)))
    go_meet
    case rel => exact ⟨_, (true), (by first | rfl | (simp; done) | (simp [*]; done)), H', ⟨by first | omega | exact Nat.le_refl _⟩, ⟨by first | exact Grow.bk BK205.out | exact BK205.out⟩, ⟨by repeat (first | (with_reducible first | exact HB.out | apply below_alloc | apply pw_below_drewN | apply below_drew1 | refine below_set ?_ GE205.out) | exact HB.out)⟩⟩
 case rest =>
  clear HC2
  try clear c1
  try clear p2
  try clear c4
  try clear c4b0
  try clear c4b1
  try clear c7
  try clear c7b0
  try clear c7b1
  try clear c8
  try clear c8b0
  try clear c12
  try clear c12b0
  try clear c18
  try clear hcz11_0
  try clear hcz11_1
  try clear hcz11_2
  try clear hcz11_3
  try clear hcz13_0
  try clear hcz13_1
  try clear hcz13_2
  try clear hcz13_3
  try clear hcz15_0
  try clear hcz15_1
  try clear hcz15_2
  try clear hcz15_3
  try clear hcz16_0
  try clear hcz16_1
  try clear hcz16_2
  try clear hcz16_3
  try clear hcz18_0
  try clear hcz18_1
  try clear hcz18_2
  try clear hcz18_3
  try clear hcz19_0
  try clear hcz19_1
  try clear hcz19_2
  try clear hcz19_3
  try clear hcz5_0
  try clear hcz5_1
  try clear hcz5_2
  try clear hcz5_3
  try clear hcz9_0
  try clear hcz9_1
  try clear hcz9_2
  try clear hcz9_3
  try clear hfz11_0
  try clear hfz11_1
  try clear hfz11_2
  try clear hfz11_3
  try clear hfz13_0
  try clear hfz13_1
  try clear hfz13_2
  try clear hfz13_3
  try clear hfz15_0
  try clear hfz15_1
  try clear hfz15_2
  try clear hfz15_3
  try clear hfz16_0
  try clear hfz16_1
  try clear hfz16_2
  try clear hfz16_3
  try clear hfz18_0
  try clear hfz18_1
  try clear hfz18_2
  try clear hfz18_3
  try clear hfz19_0
  try clear hfz19_1
  try clear hfz19_2
  try clear hfz19_3
  try clear hfz5_0
  try clear hfz5_1
  try clear hfz5_2
  try clear hfz5_3
  try clear hfz9_0
  try clear hfz9_1
  try clear hfz9_2
  try clear hfz9_3
  obtain ⟨kq, x37_1, rfl, HA, HJ1, BK205, HB⟩ := hcut
  cases kq with
  | zero => exact absurd HA.out (by simp [impl_TableFault.j0])
  | succ kj1 =>
   have H := HA.out
   clear HA
   simp only [impl_TableFault.j0] at H
   by_cases c21 : x37_1 = true
   ·
    subst c21
    have H1 : (some 1) = some r := by rw [if_pos rfl] at H; exact H
    clear H
    have H := H1
    clear H1
    obtain rfl := Option.some.inj H
    go_wp2
    go_ret
    exact ⟨by first | rfl | (simp [errW_none, errW_some] <;> rfl) | (simp [*, errW_none, errW_some] <;> rfl), by repeat (first | (with_reducible first | exact HB.out | apply below_alloc | apply pw_below_drewN | apply below_drew1 | refine below_set ?_ GE205.out) | exact HB.out)⟩
   ·
    replace c21 := Bool.eq_false_iff.mpr c21
    subst c21
    have H1 : (impl_TableFault.l0 kj1 (([] : List Int)) 0 l0_3 (l0_3.length : Int) 0 a0_0 a0_1 l0_2 l0_3) = some r := by rw [if_neg (show ¬ (false = true) by decide)] at H; exact H
    clear H
    have H := H1
    clear H1
    obtain ⟨y207, hy207⟩ : ∃ y_ : List Int, y_ = (([] : List Int)) := ⟨_, rfl⟩
    replace H : (impl_TableFault.l0 kj1 y207 0 l0_3 (l0_3.length : Int) 0 a0_0 a0_1 l0_2 l0_3) = some r := by first | (rw [hy207]; with_reducible exact H) | (have H2_ := (Option.bind_some _ _).symm.trans H; rw [hy207]; with_reducible exact H2_) | (have H2_ := (Option.bind_some _ _).symm.trans H; with_reducible exact H2_) | with_reducible exact H | (rw [hy207]; exact H) | exact H
    have Ny207 := Aside0.mk hy207
    clear hy207
    have H' := Aside0.mk H
    clear H
    go_wp2_with (first | ((with_reducible refine gate_dst (N := 38) rfl ?_); refine MR.R_make rfl rfl rfl ?_; intro v208 w22 ho23 hb hg_ hnew_; clear hg_ hnew_; (first | rw [← Ny207.out] at ho23 | (simp only [Int.reduceToNat] at ho23; rw [← Ny207.out] at ho23)); have n0_ := Aside0.mk (MR.R_lower ho23 (below_size (by repeat (first | (with_reducible first | exact HB.out | apply below_alloc | apply pw_below_drewN | apply below_drew1 | refine below_set ?_ GE205.out) | exact HB.out)))); have n1_ := Aside0.mk (blk_below (g := gb205) (o := .cells #[.int .i64 a0_0, .int .i64 a0_1, .slice A0_2 l0_2.length c0_2, .slice A0_3 l0_3.length c0_3] 56 (0, 0)) (by first | exact Grow.bk BK205.out | exact BK205.out) hb); have n2_ := Aside0.mk (below_step (by repeat (first | (with_reducible first | exact HB.out | apply below_alloc | apply pw_below_drewN | apply below_drew1 | refine below_set ?_ GE205.out) | exact HB.out)) hb); clear BK205; clear HB; have HO209 := n0_; have BK205 := n1_; have HB := n2_; clear n0_ n1_ n2_; clear hb ho23; have hcz24_0 : w22.cell? ⟨gb205, 0, none⟩ = some (.int .i64 a0_0) := (blk_cell BK205.out 0).trans rfl; have hcz24_1 : w22.cell? ⟨gb205, 1, none⟩ = some (.int .i64 a0_1) := (blk_cell BK205.out 1).trans rfl; have hcz24_2 : w22.cell? ⟨gb205, 2, none⟩ = some (.slice A0_2 l0_2.length c0_2) := (blk_cell BK205.out 2).trans rfl; have hcz24_3 : w22.cell? ⟨gb205, 3, none⟩ = some (.slice A0_3 l0_3.length c0_3) := (blk_cell BK205.out 3).trans rfl; have hfz24_0 := blk_frozen BK205.out 0; have hfz24_1 := blk_frozen BK205.out 1; have hfz24_2 := blk_frozen BK205.out 2; have hfz24_3 := blk_frozen BK205.out 3))
    go_loopg [4, 42] kj1 (fun kq v4 v42 w' => ∃ (x3_2 : List Int) (x4_2 : Int) (x42_2 : Int), v4 = .int .i64 x4_2 ∧ v42 = .int .i64 x42_2 ∧ Aside0 (impl_TableFault.l0 kq x3_2 x4_2 l0_3 (l0_3.length : Int) x42_2 a0_0 a0_1 l0_2 l0_3 = some r) ∧ Aside0 (kq ≤ kj1) ∧ Aside0 (MR.R w' w.heap.size (fun _ => True) v208 x3_2) ∧ Aside0 (w'.heap[gb205]? = some (.cells #[.int .i64 a0_0, .int .i64 a0_1, (.slice A0_2 l0_2.length c0_2), (.slice A0_3 l0_3.length c0_3)] 56 (0, 0))) ∧ Aside0 (Below w.heap.size w w'))
    case atStart => exact ⟨(y207), (0), (0), (by first | rfl | (simp; done) | (simp [*]; done)), (by first | rfl | (simp; done) | (simp [*]; done)), H', ⟨Nat.le_refl _⟩, ⟨by (with_reducible repeat (first | apply MR.R_alloc | apply MR.R_drewN | apply MR.R_drew)); exact HO209.out⟩, ⟨by first | exact Grow.bk BK205.out | exact BK205.out⟩, ⟨by repeat (first | (with_reducible first | exact HB.out | apply below_alloc | apply pw_below_drewN | apply below_drew1 | refine below_set ?_ GE205.out) | exact HB.out)⟩⟩
    case round =>
     clear H'
     try clear c1
     try clear c2
     try clear p2
     try clear c4
     try clear c4b0
     try clear c4b1
     try clear c7
     try clear c7b0
     try clear c7b1
     try clear c8
     try clear c8b0
     try clear c12
     try clear c12b0
     try clear c18
     try clear c21
     try clear hcz11_0
     try clear hcz11_1
     try clear hcz11_2
     try clear hcz11_3
     try clear hcz13_0
     try clear hcz13_1
     try clear hcz13_2
     try clear hcz13_3
     try clear hcz15_0
     try clear hcz15_1
     try clear hcz15_2
     try clear hcz15_3
     try clear hcz16_0
     try clear hcz16_1
     try clear hcz16_2
     try clear hcz16_3
     try clear hcz18_0
     try clear hcz18_1
     try clear hcz18_2
     try clear hcz18_3
     try clear hcz19_0
     try clear hcz19_1
     try clear hcz19_2
     try clear hcz19_3
     try clear hcz24_0
     try clear hcz24_1
     try clear hcz24_2
     try clear hcz24_3
     try clear hcz5_0
     try clear hcz5_1
     try clear hcz5_2
     try clear hcz5_3
     try clear hcz9_0
     try clear hcz9_1
     try clear hcz9_2
     try clear hcz9_3
     try clear hfz11_0
     try clear hfz11_1
     try clear hfz11_2
     try clear hfz11_3
     try clear hfz13_0
     try clear hfz13_1
     try clear hfz13_2
     try clear hfz13_3
     try clear hfz15_0
     try clear hfz15_1
     try clear hfz15_2
     try clear hfz15_3
     try clear hfz16_0
     try clear hfz16_1
     try clear hfz16_2
     try clear hfz16_3
     try clear hfz18_0
     try clear hfz18_1
     try clear hfz18_2
     try clear hfz18_3
     try clear hfz19_0
     try clear hfz19_1
     try clear hfz19_2
     try clear hfz19_3
     try clear hfz24_0
     try clear hfz24_1
     try clear hfz24_2
     try clear hfz24_3
     try clear hfz5_0
     try clear hfz5_1
     try clear hfz5_2
     try clear hfz5_3
     try clear hfz9_0
     try clear hfz9_1
     try clear hfz9_2
     try clear hfz9_3
     try clear p2
     obtain ⟨x3_2, x4_2, x42_2, rfl, rfl, HA, HK2, HO_3, BK205, HB⟩ := hrel
     cases gk with
     | zero => exact absurd HA.out (by simp [impl_TableFault.l0])
     | succ k2 =>
      have H := HA.out
      clear HA
      simp only [impl_TableFault.l0] at H
      by_cases c25 : x42_2 < (l0_3.length : Int)
      ·
       rw [if_pos c25] at H
       have c25b0 : decide (x42_2 < (l0_3.length : Int)) = true := decide_eq_true c25
       clear c25
       by_cases c26 : 0 ≤ x42_2
       ·
        rw [if_pos c26] at H
        have c26b0 : decide (0 ≤ x42_2) = true := decide_eq_true c26
        clear c26
        by_cases c27 : x42_2 < (l0_3.length : Int)
        ·
         rw [if_pos c27] at H
         have c27b0 : decide (x42_2 < (l0_3.length : Int)) = true := decide_eq_true c27
         clear c27
         replace H := Option.bind_eq_some_iff.mp H
         obtain ⟨t212, A280, H⟩ := H
         replace H : (if t212 = 0 then (impl_TableFault.l1 k2 x3_2 x4_2 l0_3 (l0_3.length : Int) x42_2 ((rd_T53 l0_3 x42_2).f0) (((rd_T53 l0_3 x42_2).f0).length : Int) 0 a0_0 a0_1 l0_2 l0_3) else (some 1)) = some r := H
         have A28 := Aside0.mk A280
         clear A280
         by_cases c29 : t212 = 0
         ·
          rw [if_pos c29] at H
          have c29b0 : (t212 == 0) = true := beq_iff_eq.mpr c29
          have c29b1 : (t212 != 0) = false := bne_eq_false_iff_eq.mpr c29
          clear c29
          have H' := Aside0.mk H
          clear H
          have p210 : 0 ≤ (x42_2 : Int) := of_decide_eq_true (by first | (with_reducible assumption) | assumption)
          have q210 : x42_2 < (l0_3.length : Int) := of_decide_eq_true (by first | (with_reducible assumption) | assumption)
          obtain ⟨ad210, A210_0, c210_0, e210, hx210_0, hl210_0, hi210_0⟩ := at_T53 HR0_3.out x42_2 p210 q210
          cases e210
          replace hx210_0 := Grow.bc HB.out hx210_0
          have HR210_0 := Aside0.mk hi210_0
          have HC210_0 := Aside0.mk hl210_0
          clear hi210_0 hl210_0
          replace p210 := eq_true p210
          replace q210 := eq_true q210
          go_wp2_with (first | ((with_reducible refine gate_dst (N := 6) rfl ?_); refine box_event ?hg (N := 6) ?hd (cs := #[.slice none 0 0]) (t := 53) ?hr ?_; (case hd => rfl); (case hg => rfl); (case hr => first | (go_simp; done) | (go_simp; rfl)); intro gb211 hg w30 hbox hb; have n0_ := Aside0.mk (MR.R_below (by (with_reducible repeat (first | apply MR.R_alloc | apply MR.R_drewN | apply MR.R_drew)); exact HO_3.out) hb); have n1_ := Aside0.mk (blk_below (g := gb205) (o := .cells #[.int .i64 a0_0, .int .i64 a0_1, .slice A0_2 l0_2.length c0_2, .slice (some ad210) l0_3.length c0_3] 56 (0, 0)) (by first | exact Grow.bk BK205.out | exact BK205.out) hb); have n2_ := Aside0.mk (below_step (by repeat (first | (with_reducible first | exact HB.out | apply below_alloc | apply pw_below_drewN | apply below_drew1 | refine below_set ?_ GE205.out) | exact HB.out)) hb); have n3_ := Aside0.mk (hbox); have n4_ := Aside0.mk ((by rw [hg]; exact (below_size (by repeat (first | (with_reducible first | exact HB.out | apply below_alloc | apply pw_below_drewN | apply below_drew1 | refine below_set ?_ GE205.out) | exact HB.out))) : w.heap.size ≤ gb211)); have n5_ := Aside0.mk ((by rw [hg]; exact (below_size (by repeat (first | (with_reducible first | exact HB.out | apply below_alloc | apply pw_below_drewN | apply below_drew1 | refine below_set ?_ GE205.out) | exact HB.out))) : w.heap.size ≤ gb211)); have n6_ := Aside0.mk ((by rw [hg]; exact Nat.ne_of_lt (blk_lt (g := gb205) (o := .cells #[.int .i64 a0_0, .int .i64 a0_1, .slice A0_2 l0_2.length c0_2, .slice (some ad210) l0_3.length c0_3] 56 (0, 0)) (by first | exact Grow.bk BK205.out | exact BK205.out)) : gb205 ≠ gb211)); have n7_ := Aside0.mk ((by rw [hg]; exact Nat.ne_of_gt (blk_lt (g := gb205) (o := .cells #[.int .i64 a0_0, .int .i64 a0_1, .slice A0_2 l0_2.length c0_2, .slice (some ad210) l0_3.length c0_3] 56 (0, 0)) (by first | exact Grow.bk BK205.out | exact BK205.out)) : gb211 ≠ gb205)); clear HO_3; clear BK205; clear HB; have HO_3 := n0_; have BK205 := n1_; have HB := n2_; have BK211 := n3_; have GW211 := n4_; have GE211 := n5_; have NB205_211 := n6_; have NB211_205 := n7_; clear n0_ n1_ n2_ n3_ n4_ n5_ n6_ n7_; clear hb hbox hg; have hnb31 := NB211_205.out; have hnc31 := NB205_211.out; have hcz32_0 : w30.cell? ⟨gb211, 0, none⟩ = some (.slice none 0 0) := (blk_cell BK211.out 0).trans rfl; have hfz32_0 := blk_frozen BK211.out 0) | ((with_reducible refine gate_callee (f := 68) rfl ?_); refine goesL_ (some 47) rfl rfl Try.func68 (by kernel_rfl) rfl #[.agg #[.slice A210_0 ((rd_T53 l0_3 x42_2).f0).length c210_0]] rfl (by (try simp only [List.map_toArray, List.map_cons, List.map_nil]); first | done | rfl | (simp only [List.length_drop, List.length_take]; rfl)) ?_; (with_reducible refine (impl_RunFault.calls k2 _ _ ((rd_T53 l0_3 x42_2).f0) t212 _ ?side1 ?side2 A28.out).mono ?_); (case side1 => exact Kd.C_below HR210_0.out (by repeat (first | (with_reducible first | exact HB.out | apply below_alloc | apply pw_below_drewN | apply below_drew1 | refine below_set ?_ GE205.out | refine below_set ?_ GE211.out) | exact HB.out))); (case side2 => exact HC210_0.out); rintro e w33 ⟨rfl, hb⟩; refine ⟨_, rfl, ?_⟩; have n0_ := Aside0.mk (MR.R_below (by (with_reducible repeat (first | apply MR.R_alloc | apply MR.R_drewN | apply MR.R_drew)); exact (MR.R_mono (MR.R_far (p := ⟨gb211, 0, none⟩) (MR.R_types HO_3.out BK211.out (by decide)) (fun _ hk => hk.2) (.slice A210_0 ((rd_T53 l0_3 x42_2).f0).length c210_0)) (fun _ h_ => h_.1))) hb); have n1_ := Aside0.mk (blk_below (g := gb205) (o := .cells #[.int .i64 a0_0, .int .i64 a0_1, .slice A0_2 l0_2.length c0_2, .slice (some ad210) l0_3.length c0_3] 56 (0, 0)) (by (with_reducible repeat (first | refine blk_drewN ?_ _ | refine blk_drew ?_ | refine blk_alloc ?_ _)); refine blk_far ?_ NB205_211.out _; (with_reducible repeat (first | refine blk_drewN ?_ _ | refine blk_drew ?_ | refine blk_alloc ?_ _)); exact BK205.out) hb); have n2_ := Aside0.mk (blk_below (g := gb211) (o := .cells #[.slice A210_0 ((rd_T53 l0_3 x42_2).f0).length c210_0] 53 (0, 0)) (by (with_reducible repeat (first | refine blk_drewN ?_ _ | refine blk_drew ?_ | refine blk_alloc ?_ _)); refine blk_put (cs := #[.slice none 0 0]) ?_ 0 _ rfl; (with_reducible repeat (first | refine blk_drewN ?_ _ | refine blk_drew ?_ | refine blk_alloc ?_ _)); exact BK211.out) hb); have n3_ := Aside0.mk (below_step (by repeat (first | (with_reducible first | exact HB.out | apply below_alloc | apply pw_below_drewN | apply below_drew1 | refine below_set ?_ GE205.out | refine below_set ?_ GE211.out) | exact HB.out)) hb); clear HO_3; clear BK205; clear BK211; clear HB; have HO_3 := n0_; have BK205 := n1_; have BK211 := n2_; have HB := n3_; clear n0_ n1_ n2_ n3_; (try clear hb); (try clear hb2); (try clear hk); (try clear hi); have hcz34_0 : w33.cell? ⟨gb211, 0, none⟩ = some (.slice A210_0 ((rd_T53 l0_3 x42_2).f0).length c210_0) := (blk_cell BK211.out 0).trans rfl; have hfz34_0 := blk_frozen BK211.out 0))
          go_loopg [4, 52] k2 (fun kq v4 v52 w' => ∃ (x3_3 : List Int) (x4_3 : Int) (x52_3 : Int), v4 = .int .i64 x4_3 ∧ v52 = .int .i64 x52_3 ∧ Aside0 (impl_TableFault.l1 kq x3_3 x4_3 l0_3 (l0_3.length : Int) x42_2 ((rd_T53 l0_3 x42_2).f0) (((rd_T53 l0_3 x42_2).f0).length : Int) x52_3 a0_0 a0_1 l0_2 l0_3 = some r) ∧ Aside0 (kq ≤ k2) ∧ Aside0 (MR.R w' w.heap.size (fun _ => True) v208 x3_3) ∧ Aside0 (w'.heap[gb205]? = some (.cells #[.int .i64 a0_0, .int .i64 a0_1, (.slice A0_2 l0_2.length c0_2), (.slice (some ad210) l0_3.length c0_3)] 56 (0, 0))) ∧ Aside0 (w'.heap[gb211]? = some (.cells #[(.slice A210_0 ((rd_T53 l0_3 x42_2).f0).length c210_0)] 53 (0, 0))) ∧ Aside0 (Below w.heap.size w w'))
          case atStart => exact ⟨(x3_2), (x4_2), (0), (by first | rfl | (simp; done) | (simp [*]; done)), (by first | rfl | (simp; done) | (simp [*]; done)), H', ⟨Nat.le_refl _⟩, ⟨by (with_reducible repeat (first | apply MR.R_alloc | apply MR.R_drewN | apply MR.R_drew)); exact HO_3.out⟩, ⟨by first | exact Grow.bk BK205.out | exact BK205.out⟩, ⟨by first | exact Grow.bk BK211.out | exact BK211.out⟩, ⟨by repeat (first | (with_reducible first | exact HB.out | apply below_alloc | apply pw_below_drewN | apply below_drew1 | refine below_set ?_ GE205.out | refine below_set ?_ GE211.out) | exact HB.out)⟩⟩
          case round =>
           clear H'
           try clear c1
           try clear c2
           try clear p2
           try clear q2
           try clear hx2
           try clear c3
           try clear c4
           try clear c4b0
           try clear c4b1
           try clear c6
           try clear c7
           try clear c7b0
           try clear c7b1
           try clear c8
           try clear c8b0
           try clear c12
           try clear c12b0
           try clear c18
           try clear c21
           try clear p21
           try clear q21
           try clear hx21
           try clear c25
           try clear c25b0
           try clear c26
           try clear c26b0
           try clear c27
           try clear c27b0
           try clear c29
           try clear c29b0
           try clear c29b1
           try clear c31
           try clear hcz11_0
           try clear hcz11_1
           try clear hcz11_2
           try clear hcz11_3
           try clear hcz13_0
           try clear hcz13_1
           try clear hcz13_2
           try clear hcz13_3
           try clear hcz15_0
           try clear hcz15_1
           try clear hcz15_2
           try clear hcz15_3
           try clear hcz16_0
           try clear hcz16_1
           try clear hcz16_2
           try clear hcz16_3
           try clear hcz18_0
           try clear hcz18_1
           try clear hcz18_2
           try clear hcz18_3
           try clear hcz19_0
           try clear hcz19_1
           try clear hcz19_2
           try clear hcz19_3
           try clear hcz24_0
           try clear hcz24_1
           try clear hcz24_2
           try clear hcz24_3
           try clear hcz32_0
           try clear hcz34_0
           try clear hcz5_0
           try clear hcz5_1
           try clear hcz5_2
           try clear hcz5_3
           try clear hcz9_0
           try clear hcz9_1
           try clear hcz9_2
           try clear hcz9_3
           try clear hfz11_0
           try clear hfz11_1
           try clear hfz11_2
           try clear hfz11_3
           try clear hfz13_0
           try clear hfz13_1
           try clear hfz13_2
           try clear hfz13_3
           try clear hfz15_0
           try clear hfz15_1
           try clear hfz15_2
           try clear hfz15_3
           try clear hfz16_0
           try clear hfz16_1
           try clear hfz16_2
           try clear hfz16_3
           try clear hfz18_0
           try clear hfz18_1
           try clear hfz18_2
           try clear hfz18_3
           try clear hfz19_0
           try clear hfz19_1
           try clear hfz19_2
           try clear hfz19_3
           try clear hfz24_0
           try clear hfz24_1
           try clear hfz24_2
           try clear hfz24_3
           try clear hfz32_0
           try clear hfz34_0
           try clear hfz5_0
           try clear hfz5_1
           try clear hfz5_2
           try clear hfz5_3
           try clear hfz9_0
           try clear hfz9_1
           try clear hfz9_2
           try clear hfz9_3
           try clear hx210_0
           try clear p2
           try clear p210
           try clear q210
           obtain ⟨x3_3, x4_3, x52_3, rfl, rfl, HA, HK3, HO_3, BK205, BK211, HB⟩ := hrel
           cases gk with
           | zero => exact absurd HA.out (by simp [impl_TableFault.l1])
           | succ k3 =>
            have H := HA.out
            clear HA
            simp only [impl_TableFault.l1] at H
            by_cases c35 : x52_3 < (((rd_T53 l0_3 x42_2).f0).length : Int)
            ·
             rw [if_pos c35] at H
             have c35b0 : decide (x52_3 < (((rd_T53 l0_3 x42_2).f0).length : Int)) = true := decide_eq_true c35
             clear c35
             by_cases c36 : 0 ≤ x52_3
             ·
              rw [if_pos c36] at H
              have c36b0 : decide (0 ≤ x52_3) = true := decide_eq_true c36
              clear c36
              by_cases c37 : x52_3 < (((rd_T53 l0_3 x42_2).f0).length : Int)
              ·
               rw [if_pos c37] at H
               have c37b0 : decide (x52_3 < (((rd_T53 l0_3 x42_2).f0).length : Int)) = true := decide_eq_true c37
               clear c37
               have HC38 := Aside0.mk H
               clear H
               have p213 : 0 ≤ (x52_3 : Int) := of_decide_eq_true (by first | (with_reducible assumption) | assumption)
               have q213 : x52_3 < (((rd_T53 l0_3 x42_2).f0).length : Int) := of_decide_eq_true (by first | (with_reducible assumption) | assumption)
               obtain ⟨ad213, e213, hx213_0, hx213_1, hx213_2, hx213_3⟩ := at_T118 HR210_0.out x52_3 p213 q213
               cases e213
               replace hx213_0 := Grow.bc HB.out hx213_0
               replace hx213_1 := Grow.bc HB.out hx213_1
               replace hx213_2 := Grow.bc HB.out hx213_2
               replace hx213_3 := Grow.bc HB.out hx213_3
               replace p213 := eq_true p213
               replace q213 := eq_true q213
               go_upto_region 13 with (first | ((with_reducible refine gate_dst (N := 8) rfl ?_); refine box_event ?hg (N := 8) ?hd (cs := #[.string (⟨#[]⟩ : ByteArray), .int .i64 0, .bool false, .string (⟨#[]⟩ : ByteArray)]) (t := 118) ?hr ?_; (case hd => rfl); (case hg => rfl); (case hr => first | (go_simp; done) | (go_simp; rfl)); intro gb214 hg w39 hbox hb; have n0_ := Aside0.mk (MR.R_below (by (with_reducible repeat (first | apply MR.R_alloc | apply MR.R_drewN | apply MR.R_drew)); exact HO_3.out) hb); have n1_ := Aside0.mk (blk_below (g := gb205) (o := .cells #[.int .i64 a0_0, .int .i64 a0_1, .slice A0_2 l0_2.length c0_2, .slice (some ad210) l0_3.length c0_3] 56 (0, 0)) (by first | exact Grow.bk BK205.out | exact BK205.out) hb); have n2_ := Aside0.mk (blk_below (g := gb211) (o := .cells #[.slice (some ad213) ((rd_T53 l0_3 x42_2).f0).length c210_0] 53 (0, 0)) (by first | exact Grow.bk BK211.out | exact BK211.out) hb); have n3_ := Aside0.mk (below_step (by repeat (first | (with_reducible first | exact HB.out | apply below_alloc | apply pw_below_drewN | apply below_drew1 | refine below_set ?_ GE205.out | refine below_set ?_ GE211.out) | exact HB.out)) hb); have n4_ := Aside0.mk (hbox); have n5_ := Aside0.mk ((by rw [hg]; exact (below_size (by repeat (first | (with_reducible first | exact HB.out | apply below_alloc | apply pw_below_drewN | apply below_drew1 | refine below_set ?_ GE205.out | refine below_set ?_ GE211.out) | exact HB.out))) : w.heap.size ≤ gb214)); have n6_ := Aside0.mk ((by rw [hg]; exact (below_size (by repeat (first | (with_reducible first | exact HB.out | apply below_alloc | apply pw_below_drewN | apply below_drew1 | refine below_set ?_ GE205.out | refine below_set ?_ GE211.out) | exact HB.out))) : w.heap.size ≤ gb214)); have n7_ := Aside0.mk ((by rw [hg]; exact Nat.ne_of_lt (blk_lt (g := gb205) (o := .cells #[.int .i64 a0_0, .int .i64 a0_1, .slice A0_2 l0_2.length c0_2, .slice (some ad210) l0_3.length c0_3] 56 (0, 0)) (by first | exact Grow.bk BK205.out | exact BK205.out)) : gb205 ≠ gb214)); have n8_ := Aside0.mk ((by rw [hg]; exact Nat.ne_of_gt (blk_lt (g := gb205) (o := .cells #[.int .i64 a0_0, .int .i64 a0_1, .slice A0_2 l0_2.length c0_2, .slice (some ad210) l0_3.length c0_3] 56 (0, 0)) (by first | exact Grow.bk BK205.out | exact BK205.out)) : gb214 ≠ gb205)); have n9_ := Aside0.mk ((by rw [hg]; exact Nat.ne_of_lt (blk_lt (g := gb211) (o := .cells #[.slice (some ad213) ((rd_T53 l0_3 x42_2).f0).length c210_0] 53 (0, 0)) (by first | exact Grow.bk BK211.out | exact BK211.out)) : gb211 ≠ gb214)); have n10_ := Aside0.mk ((by rw [hg]; exact Nat.ne_of_gt (blk_lt (g := gb211) (o := .cells #[.slice (some ad213) ((rd_T53 l0_3 x42_2).f0).length c210_0] 53 (0, 0)) (by first | exact Grow.bk BK211.out | exact BK211.out)) : gb214 ≠ gb211)); clear HO_3; clear BK205; clear BK211; clear HB; have HO_3 := n0_; have BK205 := n1_; have BK211 := n2_; have HB := n3_; have BK214 := n4_; have GW214 := n5_; have GE214 := n6_; have NB205_214 := n7_; have NB214_205 := n8_; have NB211_214 := n9_; have NB214_211 := n10_; clear n0_ n1_ n2_ n3_ n4_ n5_ n6_ n7_ n8_ n9_ n10_; clear hb hbox hg; have hnb40 := NB214_205.out; have hnc40 := NB205_214.out; have hnb41 := NB214_211.out; have hnc41 := NB211_214.out; have hcz42_0 : w39.cell? ⟨gb214, 0, none⟩ = some (.string (⟨#[]⟩ : ByteArray)) := (blk_cell BK214.out 0).trans rfl; have hcz42_1 : w39.cell? ⟨gb214, 1, none⟩ = some (.int .i64 0) := (blk_cell BK214.out 1).trans rfl; have hcz42_2 : w39.cell? ⟨gb214, 2, none⟩ = some (.bool false) := (blk_cell BK214.out 2).trans rfl; have hcz42_3 : w39.cell? ⟨gb214, 3, none⟩ = some (.string (⟨#[]⟩ : ByteArray)) := (blk_cell BK214.out 3).trans rfl; have hfz42_0 := blk_frozen BK214.out 0; have hfz42_1 := blk_frozen BK214.out 1; have hfz42_2 := blk_frozen BK214.out 2; have hfz42_3 := blk_frozen BK214.out 3))
               (try simp only [Act.put, List.setIfInBounds_toArray, List.set_cons_zero, List.set_cons_succ])
               go_cut [66] (fun v66 wc => ∃ (kq : Nat) (x66_37 : Bool), v66 = .bool x66_37 ∧ Aside0 (impl_TableFault.j3 kq x3_3 x4_3 l0_3 (l0_3.length : Int) x42_2 ((rd_T53 l0_3 x42_2).f0) (((rd_T53 l0_3 x42_2).f0).length : Int) x52_3 x66_37 a0_0 a0_1 l0_2 l0_3 ((rd_T118 ((rd_T53 l0_3 x42_2).f0) x52_3).f0) ((rd_T118 ((rd_T53 l0_3 x42_2).f0) x52_3).f1) ((rd_T118 ((rd_T53 l0_3 x42_2).f0) x52_3).f2) ((rd_T118 ((rd_T53 l0_3 x42_2).f0) x52_3).f3) = some r) ∧ Aside0 (kq ≤ k3) ∧ Aside0 (MR.R wc w.heap.size (fun _ => True) v208 x3_3) ∧ Aside0 (wc.heap[gb205]? = some (.cells #[.int .i64 a0_0, .int .i64 a0_1, (.slice A0_2 l0_2.length c0_2), (.slice (some ad210) l0_3.length c0_3)] 56 (0, 0))) ∧ Aside0 (wc.heap[gb211]? = some (.cells #[(.slice (some ad213) ((rd_T53 l0_3 x42_2).f0).length c210_0)] 53 (0, 0))) ∧ Aside0 (wc.heap[gb214]? = some (.cells #[.string ((rd_T118 ((rd_T53 l0_3 x42_2).f0) x52_3).f0), .int .i64 ((rd_T118 ((rd_T53 l0_3 x42_2).f0) x52_3).f1), .bool ((rd_T118 ((rd_T53 l0_3 x42_2).f0) x52_3).f2), .string ((rd_T118 ((rd_T53 l0_3 x42_2).f0) x52_3).f3)] 118 (0, 0))) ∧ Aside0 (Below w.heap.size w wc))
               case first =>
                have H := HC38.out
                clear HC38
                replace H := Option.bind_eq_some_iff.mp H
                obtain ⟨t215, A430, H⟩ := H
                replace H : (if t215 = true then (impl_TableFault.j3 k3 x3_3 x4_3 l0_3 (l0_3.length : Int) x42_2 ((rd_T53 l0_3 x42_2).f0) (((rd_T53 l0_3 x42_2).f0).length : Int) x52_3 true a0_0 a0_1 l0_2 l0_3 ((rd_T118 ((rd_T53 l0_3 x42_2).f0) x52_3).f0) ((rd_T118 ((rd_T53 l0_3 x42_2).f0) x52_3).f1) ((rd_T118 ((rd_T53 l0_3 x42_2).f0) x52_3).f2) ((rd_T118 ((rd_T53 l0_3 x42_2).f0) x52_3).f3)) else (impl_TableFault.j3 k3 x3_3 x4_3 l0_3 (l0_3.length : Int) x42_2 ((rd_T53 l0_3 x42_2).f0) (((rd_T53 l0_3 x42_2).f0).length : Int) x52_3 (decide (((rd_T118 ((rd_T53 l0_3 x42_2).f0) x52_3).f1) > a0_0)) a0_0 a0_1 l0_2 l0_3 ((rd_T118 ((rd_T53 l0_3 x42_2).f0) x52_3).f0) ((rd_T118 ((rd_T53 l0_3 x42_2).f0) x52_3).f1) ((rd_T118 ((rd_T53 l0_3 x42_2).f0) x52_3).f2) ((rd_T118 ((rd_T53 l0_3 x42_2).f0) x52_3).f3))) = some r := H
                have A43 := Aside0.mk A430
                clear A430
                by_cases c44 : t215 = true
                ·
                 subst c44
                 have H1 : (impl_TableFault.j3 k3 x3_3 x4_3 l0_3 (l0_3.length : Int) x42_2 ((rd_T53 l0_3 x42_2).f0) (((rd_T53 l0_3 x42_2).f0).length : Int) x52_3 true a0_0 a0_1 l0_2 l0_3 ((rd_T118 ((rd_T53 l0_3 x42_2).f0) x52_3).f0) ((rd_T118 ((rd_T53 l0_3 x42_2).f0) x52_3).f1) ((rd_T118 ((rd_T53 l0_3 x42_2).f0) x52_3).f2) ((rd_T118 ((rd_T53 l0_3 x42_2).f0) x52_3).f3)) = some r := by rw [if_pos rfl] at H; exact H
                 clear H
                 have H := H1
                 clear H1
                 have H' := Aside0.mk H
                 clear H
                 have hnb45 := NB214_205.out
                 have hnc45 := NB205_214.out
                 have hnb46 := NB214_211.out
                 have hnc46 := NB211_214.out
                 have hcz47_0 : w39.cell? ⟨gb214, 0, none⟩ = some (.string (⟨#[]⟩ : ByteArray)) := (blk_cell BK214.out 0).trans rfl
                 have hcz47_1 : w39.cell? ⟨gb214, 1, none⟩ = some (.int .i64 0) := (blk_cell BK214.out 1).trans rfl
                 have hcz47_2 : w39.cell? ⟨gb214, 2, none⟩ = some (.bool false) := (blk_cell BK214.out 2).trans rfl
                 have hcz47_3 : w39.cell? ⟨gb214, 3, none⟩ = some (.string (⟨#[]⟩ : ByteArray)) := (blk_cell BK214.out 3).trans rfl
                 have hfz47_0 := blk_frozen BK214.out 0
                 have hfz47_1 := blk_frozen BK214.out 1
                 have hfz47_2 := blk_frozen BK214.out 2
                 have hfz47_3 := blk_frozen BK214.out 3
                 obtain ⟨bo48, eo48⟩ := MR.R_map HO_3.out
                 subst eo48
                 go_wp2_with (first | ((with_reducible refine gate_dst (N := 59) rfl ?_); (try (refine gate_guard (by rfl) ?_; dsimp only)); refine MR.R_look (base := w.heap.size) (ok := fun _ => True) (xs := x3_3) (y := ((rd_T118 ((rd_T53 l0_3 x42_2).f0) x52_3).f1)) (t := true) rfl rfl rfl rfl (by (with_reducible repeat (first | apply MR.R_alloc | apply MR.R_drewN | apply MR.R_drew)); exact (MR.R_mono (MR.R_far (p := ⟨gb214, 3, none⟩) (MR.R_far (p := ⟨gb214, 2, none⟩) (MR.R_far (p := ⟨gb214, 1, none⟩) (MR.R_far (p := ⟨gb214, 0, none⟩) (MR.R_types HO_3.out BK214.out (by decide)) (fun _ hk => hk.2) (.string ((rd_T118 ((rd_T53 l0_3 x42_2).f0) x52_3).f0))) (fun _ hk => hk.2) (.int .i64 ((rd_T118 ((rd_T53 l0_3 x42_2).f0) x52_3).f1))) (fun _ hk => hk.2) (.bool ((rd_T118 ((rd_T53 l0_3 x42_2).f0) x52_3).f2))) (fun _ hk => hk.2) (.string ((rd_T118 ((rd_T53 l0_3 x42_2).f0) x52_3).f3))) (fun _ h_ => h_.1))) (mapHas.of A43.out).1 (mapHas.of A43.out).2 ?_))
                 go_meet
                 case rel => exact ⟨_, (true), (by first | rfl | (simp; done) | (simp [*]; done)), H', ⟨by have := HJ1.out; have := HK2.out; have := HK3.out; first | omega | exact Nat.le_refl _⟩, ⟨by (with_reducible repeat (first | apply MR.R_alloc | apply MR.R_drewN | apply MR.R_drew)); exact MR.R_mono (MR.R_far (p := ⟨gb214, 3, none⟩) (MR.R_far (p := ⟨gb214, 2, none⟩) (MR.R_far (p := ⟨gb214, 1, none⟩) (MR.R_far (p := ⟨gb214, 0, none⟩) (MR.R_types HO_3.out BK214.out (by decide)) (fun _ hk => hk.2) (.string ((rd_T118 ((rd_T53 l0_3 x42_2).f0) x52_3).f0))) (fun _ hk => hk.2) (.int .i64 ((rd_T118 ((rd_T53 l0_3 x42_2).f0) x52_3).f1))) (fun _ hk => hk.2) (.bool ((rd_T118 ((rd_T53 l0_3 x42_2).f0) x52_3).f2))) (fun _ hk => hk.2) (.string ((rd_T118 ((rd_T53 l0_3 x42_2).f0) x52_3).f3))) (fun _ hk => trivial)⟩, ⟨by (with_reducible repeat (first | refine blk_drewN ?_ _ | refine blk_drew ?_ | refine blk_alloc ?_ _)); refine blk_far ?_ NB205_214.out _; (with_reducible repeat (first | refine blk_drewN ?_ _ | refine blk_drew ?_ | refine blk_alloc ?_ _)); refine blk_far ?_ NB205_214.out _; (with_reducible repeat (first | refine blk_drewN ?_ _ | refine blk_drew ?_ | refine blk_alloc ?_ _)); refine blk_far ?_ NB205_214.out _; (with_reducible repeat (first | refine blk_drewN ?_ _ | refine blk_drew ?_ | refine blk_alloc ?_ _)); refine blk_far ?_ NB205_214.out _; (with_reducible repeat (first | refine blk_drewN ?_ _ | refine blk_drew ?_ | refine blk_alloc ?_ _)); exact BK205.out⟩, ⟨by (with_reducible repeat (first | refine blk_drewN ?_ _ | refine blk_drew ?_ | refine blk_alloc ?_ _)); refine blk_far ?_ NB211_214.out _; (with_reducible repeat (first | refine blk_drewN ?_ _ | refine blk_drew ?_ | refine blk_alloc ?_ _)); refine blk_far ?_ NB211_214.out _; (with_reducible repeat (first | refine blk_drewN ?_ _ | refine blk_drew ?_ | refine blk_alloc ?_ _)); refine blk_far ?_ NB211_214.out _; (with_reducible repeat (first | refine blk_drewN ?_ _ | refine blk_drew ?_ | refine blk_alloc ?_ _)); refine blk_far ?_ NB211_214.out _; (with_reducible repeat (first | refine blk_drewN ?_ _ | refine blk_drew ?_ | refine blk_alloc ?_ _)); exact BK211.out⟩, ⟨by (with_reducible repeat (first | refine blk_drewN ?_ _ | refine blk_drew ?_ | refine blk_alloc ?_ _)); refine blk_put (cs := #[.string ((rd_T118 ((rd_T53 l0_3 x42_2).f0) x52_3).f0), .int .i64 ((rd_T118 ((rd_T53 l0_3 x42_2).f0) x52_3).f1), .bool ((rd_T118 ((rd_T53 l0_3 x42_2).f0) x52_3).f2), .string (⟨#[]⟩ : ByteArray)]) ?_ 3 _ rfl; (with_reducible repeat (first | refine blk_drewN ?_ _ | refine blk_drew ?_ | refine blk_alloc ?_ _)); refine blk_put (cs := #[.string ((rd_T118 ((rd_T53 l0_3 x42_2).f0) x52_3).f0), .int .i64 ((rd_T118 ((rd_T53 l0_3 x42_2).f0) x52_3).f1), .bool false, .string (⟨#[]⟩ : ByteArray)]) ?_ 2 _ rfl; (with_reducible repeat (first | refine blk_drewN ?_ _ | refine blk_drew ?_ | refine blk_alloc ?_ _)); refine blk_put (cs := #[.string ((rd_T118 ((rd_T53 l0_3 x42_2).f0) x52_3).f0), .int .i64 0, .bool false, .string (⟨#[]⟩ : ByteArray)]) ?_ 1 _ rfl; (with_reducible repeat (first | refine blk_drewN ?_ _ | refine blk_drew ?_ | refine blk_alloc ?_ _)); refine blk_put (cs := #[.string (⟨#[]⟩ : ByteArray), .int .i64 0, .bool false, .string (⟨#[]⟩ : ByteArray)]) ?_ 0 _ rfl; (with_reducible repeat (first | refine blk_drewN ?_ _ | refine blk_drew ?_ | refine blk_alloc ?_ _)); exact BK214.out⟩, ⟨by repeat (first | (with_reducible first | exact HB.out | apply below_alloc | apply pw_below_drewN | apply below_drew1 | refine below_set ?_ GE205.out | refine below_set ?_ GE211.out | refine below_set ?_ GE214.out) | exact HB.out)⟩⟩
                ·
                 replace c44 := Bool.eq_false_iff.mpr c44
                 subst c44
                 have H1 : (impl_TableFault.j3 k3 x3_3 x4_3 l0_3 (l0_3.length : Int) x42_2 ((rd_T53 l0_3 x42_2).f0) (((rd_T53 l0_3 x42_2).f0).length : Int) x52_3 (decide (((rd_T118 ((rd_T53 l0_3 x42_2).f0) x52_3).f1) > a0_0)) a0_0 a0_1 l0_2 l0_3 ((rd_T118 ((rd_T53 l0_3 x42_2).f0) x52_3).f0) ((rd_T118 ((rd_T53 l0_3 x42_2).f0) x52_3).f1) ((rd_T118 ((rd_T53 l0_3 x42_2).f0) x52_3).f2) ((rd_T118 ((rd_T53 l0_3 x42_2).f0) x52_3).f3)) = some r := by rw [if_neg (show ¬ (false = true) by decide)] at H; exact H
                 clear H
                 have H := H1
                 clear H1
                 have H' := Aside0.mk H
                 clear H
                 have hnb49 := NB214_205.out
                 have hnc49 := NB205_214.out
                 have hnb50 := NB214_211.out
                 have hnc50 := NB211_214.out
                 have hcz51_0 : w39.cell? ⟨gb214, 0, none⟩ = some (.string (⟨#[]⟩ : ByteArray)) := (blk_cell BK214.out 0).trans rfl
                 have hcz51_1 : w39.cell? ⟨gb214, 1, none⟩ = some (.int .i64 0) := (blk_cell BK214.out 1).trans rfl
                 have hcz51_2 : w39.cell? ⟨gb214, 2, none⟩ = some (.bool false) := (blk_cell BK214.out 2).trans rfl
                 have hcz51_3 : w39.cell? ⟨gb214, 3, none⟩ = some (.string (⟨#[]⟩ : ByteArray)) := (blk_cell BK214.out 3).trans rfl
                 have hfz51_0 := blk_frozen BK214.out 0
                 have hfz51_1 := blk_frozen BK214.out 1
                 have hfz51_2 := blk_frozen BK214.out 2
                 have hfz51_3 := blk_frozen BK214.out 3
                 obtain ⟨bo52, eo52⟩ := MR.R_map HO_3.out
                 subst eo52
                 go_wp2_with (first | ((with_reducible refine gate_dst (N := 59) rfl ?_); (try (refine gate_guard (by rfl) ?_; dsimp only)); refine MR.R_look (base := w.heap.size) (ok := fun _ => True) (xs := x3_3) (y := ((rd_T118 ((rd_T53 l0_3 x42_2).f0) x52_3).f1)) (t := false) rfl rfl rfl rfl (by (with_reducible repeat (first | apply MR.R_alloc | apply MR.R_drewN | apply MR.R_drew)); exact (MR.R_mono (MR.R_far (p := ⟨gb214, 3, none⟩) (MR.R_far (p := ⟨gb214, 2, none⟩) (MR.R_far (p := ⟨gb214, 1, none⟩) (MR.R_far (p := ⟨gb214, 0, none⟩) (MR.R_types HO_3.out BK214.out (by decide)) (fun _ hk => hk.2) (.string ((rd_T118 ((rd_T53 l0_3 x42_2).f0) x52_3).f0))) (fun _ hk => hk.2) (.int .i64 ((rd_T118 ((rd_T53 l0_3 x42_2).f0) x52_3).f1))) (fun _ hk => hk.2) (.bool ((rd_T118 ((rd_T53 l0_3 x42_2).f0) x52_3).f2))) (fun _ hk => hk.2) (.string ((rd_T118 ((rd_T53 l0_3 x42_2).f0) x52_3).f3))) (fun _ h_ => h_.1))) (mapHas.of A43.out).1 (mapHas.of A43.out).2 ?_; have hnb53 := NB205_211.out; have hnc53 := NB211_205.out; have hcz54_0 : w39.cell? ⟨gb205, 0, none⟩ = some (.int .i64 a0_0) := (blk_cell BK205.out 0).trans rfl; have hcz54_1 : w39.cell? ⟨gb205, 1, none⟩ = some (.int .i64 a0_1) := (blk_cell BK205.out 1).trans rfl; have hcz54_2 : w39.cell? ⟨gb205, 2, none⟩ = some (.slice A0_2 l0_2.length c0_2) := (blk_cell BK205.out 2).trans rfl; have hcz54_3 : w39.cell? ⟨gb205, 3, none⟩ = some (.slice (some ad210) l0_3.length c0_3) := (blk_cell BK205.out 3).trans rfl; have hfz54_0 := blk_frozen BK205.out 0; have hfz54_1 := blk_frozen BK205.out 1; have hfz54_2 := blk_frozen BK205.out 2; have hfz54_3 := blk_frozen BK205.out 3))
                 go_meet
                 case rel => exact ⟨_, (decide (((rd_T118 ((rd_T53 l0_3 x42_2).f0) x52_3).f1) > a0_0)), (by first | rfl | (simp; done) | (simp [*]; done)), H', ⟨by have := HJ1.out; have := HK2.out; have := HK3.out; first | omega | exact Nat.le_refl _⟩, ⟨by (with_reducible repeat (first | apply MR.R_alloc | apply MR.R_drewN | apply MR.R_drew)); exact MR.R_mono (MR.R_far (p := ⟨gb214, 3, none⟩) (MR.R_far (p := ⟨gb214, 2, none⟩) (MR.R_far (p := ⟨gb214, 1, none⟩) (MR.R_far (p := ⟨gb214, 0, none⟩) (MR.R_types HO_3.out BK214.out (by decide)) (fun _ hk => hk.2) (.string ((rd_T118 ((rd_T53 l0_3 x42_2).f0) x52_3).f0))) (fun _ hk => hk.2) (.int .i64 ((rd_T118 ((rd_T53 l0_3 x42_2).f0) x52_3).f1))) (fun _ hk => hk.2) (.bool ((rd_T118 ((rd_T53 l0_3 x42_2).f0) x52_3).f2))) (fun _ hk => hk.2) (.string ((rd_T118 ((rd_T53 l0_3 x42_2).f0) x52_3).f3))) (fun _ hk => trivial)⟩, ⟨by (with_reducible repeat (first | refine blk_drewN ?_ _ | refine blk_drew ?_ | refine blk_alloc ?_ _)); refine blk_far ?_ NB205_214.out _; (with_reducible repeat (first | refine blk_drewN ?_ _ | refine blk_drew ?_ | refine blk_alloc ?_ _)); refine blk_far ?_ NB205_214.out _; (with_reducible repeat (first | refine blk_drewN ?_ _ | refine blk_drew ?_ | refine blk_alloc ?_ _)); refine blk_far ?_ NB205_214.out _; (with_reducible repeat (first | refine blk_drewN ?_ _ | refine blk_drew ?_ | refine blk_alloc ?_ _)); refine blk_far ?_ NB205_214.out _; (with_reducible repeat (first | refine blk_drewN ?_ _ | refine blk_drew ?_ | refine blk_alloc ?_ _)); exact BK205.out⟩, ⟨by (with_reducible repeat (first | refine blk_drewN ?_ _ | refine blk_drew ?_ | refine blk_alloc ?_ _)); refine blk_far ?_ NB211_214.out _; (with_reducible repeat (first | refine blk_drewN ?_ _ | refine blk_drew ?_ | refine blk_alloc ?_ _)); refine blk_far ?_ NB211_214.out _; (with_reducible repeat (first | refine blk_drewN ?_ _ | refine blk_drew ?_ | refine blk_alloc ?_ _)); refine blk_far ?_ NB211_214.out _; (with_reducible repeat (first | refine blk_drewN ?_ _ | refine blk_drew ?_ | refine blk_alloc ?_ _)); refine blk_far ?_ NB211_214.out _; (with_reducible repeat (first | refine blk_drewN ?_ _ | refine blk_drew ?_ | refine blk_alloc ?_ _)); exact BK211.out⟩, ⟨by (with_reducible repeat (first | refine blk_drewN ?_ _ | refine blk_drew ?_ | refine blk_alloc ?_ _)); refine blk_put (cs := #[.string ((rd_T118 ((rd_T53 l0_3 x42_2).f0) x52_3).f0), .int .i64 ((rd_T118 ((rd_T53 l0_3 x42_2).f0) x52_3).f1), .bool ((rd_T118 ((rd_T53 l0_3 x42_2).f0) x52_3).f2), .string (⟨#[]⟩ : ByteArray)]) ?_ 3 _ rfl; (with_reducible repeat (first | refine blk_drewN ?_ _ | refine blk_drew ?_ | refine blk_alloc ?_ _)); refine blk_put (cs := #[.string ((rd_T118 ((rd_T53 l0_3 x42_2).f0) x52_3).f0), .int .i64 ((rd_T118 ((rd_T53 l0_3 x42_2).f0) x52_3).f1), .bool false, .string (⟨#[]⟩ : ByteArray)]) ?_ 2 _ rfl; (with_reducible repeat (first | refine blk_drewN ?_ _ | refine blk_drew ?_ | refine blk_alloc ?_ _)); refine blk_put (cs := #[.string ((rd_T118 ((rd_T53 l0_3 x42_2).f0) x52_3).f0), .int .i64 0, .bool false, .string (⟨#[]⟩ : ByteArray)]) ?_ 1 _ rfl; (with_reducible repeat (first | refine blk_drewN ?_ _ | refine blk_drew ?_ | refine blk_alloc ?_ _)); refine blk_put (cs := #[.string (⟨#[]⟩ : ByteArray), .int .i64 0, .bool false, .string (⟨#[]⟩ : ByteArray)]) ?_ 0 _ rfl; (with_reducible repeat (first | refine blk_drewN ?_ _ | refine blk_drew ?_ | refine blk_alloc ?_ _)); exact BK214.out⟩, ⟨by repeat (first | (with_reducible first | exact HB.out | apply below_alloc | apply pw_below_drewN | apply below_drew1 | refine below_set ?_ GE205.out | refine below_set ?_ GE211.out | refine below_set ?_ GE214.out) | exact HB.out)⟩⟩
               case rest =>
                clear HC38
                try clear c1
                try clear c2
                try clear p2
                try clear q2
                try clear hx2
                try clear c3
                try clear c4
                try clear c4b0
                try clear c4b1
                try clear c5
                try clear c6
                try clear c7
                try clear c7b0
                try clear c7b1
                try clear c8
                try clear c8b0
                try clear c9
                try clear c12
                try clear c12b0
                try clear c18
                try clear c21
                try clear p21
                try clear q21
                try clear hx21
                try clear c25
                try clear c25b0
                try clear c26
                try clear c26b0
                try clear c27
                try clear c27b0
                try clear c29
                try clear c29b0
                try clear c29b1
                try clear c31
                try clear c35
                try clear c35b0
                try clear c36
                try clear c36b0
                try clear c37
                try clear c37b0
                try clear c40
                try clear c41
                try clear c44
                try clear c45
                try clear c46
                try clear c49
                try clear c50
                try clear c53
                try clear hcz11_0
                try clear hcz11_1
                try clear hcz11_2
                try clear hcz11_3
                try clear hcz13_0
                try clear hcz13_1
                try clear hcz13_2
                try clear hcz13_3
                try clear hcz15_0
                try clear hcz15_1
                try clear hcz15_2
                try clear hcz15_3
                try clear hcz16_0
                try clear hcz16_1
                try clear hcz16_2
                try clear hcz16_3
                try clear hcz18_0
                try clear hcz18_1
                try clear hcz18_2
                try clear hcz18_3
                try clear hcz19_0
                try clear hcz19_1
                try clear hcz19_2
                try clear hcz19_3
                try clear hcz24_0
                try clear hcz24_1
                try clear hcz24_2
                try clear hcz24_3
                try clear hcz32_0
                try clear hcz34_0
                try clear hcz42_0
                try clear hcz42_1
                try clear hcz42_2
                try clear hcz42_3
                try clear hcz47_0
                try clear hcz47_1
                try clear hcz47_2
                try clear hcz47_3
                try clear hcz51_0
                try clear hcz51_1
                try clear hcz51_2
                try clear hcz51_3
                try clear hcz54_0
                try clear hcz54_1
                try clear hcz54_2
                try clear hcz54_3
                try clear hcz5_0
                try clear hcz5_1
                try clear hcz5_2
                try clear hcz5_3
                try clear hcz9_0
                try clear hcz9_1
                try clear hcz9_2
                try clear hcz9_3
                try clear hfz11_0
                try clear hfz11_1
                try clear hfz11_2
                try clear hfz11_3
                try clear hfz13_0
                try clear hfz13_1
                try clear hfz13_2
                try clear hfz13_3
                try clear hfz15_0
                try clear hfz15_1
                try clear hfz15_2
                try clear hfz15_3
                try clear hfz16_0
                try clear hfz16_1
                try clear hfz16_2
                try clear hfz16_3
                try clear hfz18_0
                try clear hfz18_1
                try clear hfz18_2
                try clear hfz18_3
                try clear hfz19_0
                try clear hfz19_1
                try clear hfz19_2
                try clear hfz19_3
                try clear hfz24_0
                try clear hfz24_1
                try clear hfz24_2
                try clear hfz24_3
                try clear hfz32_0
                try clear hfz34_0
                try clear hfz42_0
                try clear hfz42_1
                try clear hfz42_2
                try clear hfz42_3
                try clear hfz47_0
                try clear hfz47_1
                try clear hfz47_2
                try clear hfz47_3
                try clear hfz51_0
                try clear hfz51_1
                try clear hfz51_2
                try clear hfz51_3
                try clear hfz54_0
                try clear hfz54_1
                try clear hfz54_2
                try clear hfz54_3
                try clear hfz5_0
                try clear hfz5_1
                try clear hfz5_2
                try clear hfz5_3
                try clear hfz9_0
                try clear hfz9_1
                try clear hfz9_2
                try clear hfz9_3
                try clear hx210_0
                try clear hx213_0
                try clear hx213_1
                try clear hx213_2
                try clear hx213_3
                try clear p2
                try clear p21
                try clear p210
                try clear p213
                try clear q2
                try clear q21
                try clear q210
                try clear q213
                obtain ⟨kq, x66_37, rfl, HA, HJ37, HO_3, BK205, BK211, BK214, HB⟩ := hcut
                cases kq with
                | zero => exact absurd HA.out (by simp [impl_TableFault.j3])
                | succ kj37 =>
                 have H := HA.out
                 clear HA
                 simp only [impl_TableFault.j3] at H
                 by_cases c55 : x66_37 = true
                 ·
                  subst c55
                  have H1 : (some 1) = some r := by rw [if_pos rfl] at H; exact H
                  clear H
                  have H := H1
                  clear H1
                  obtain rfl := Option.some.inj H
                  go_wp2
                  go_ret
                  exact ⟨by first | rfl | (simp [errW_none, errW_some] <;> rfl) | (simp [*, errW_none, errW_some] <;> rfl), by repeat (first | (with_reducible first | exact HB.out | apply below_alloc | apply pw_below_drewN | apply below_drew1 | refine below_set ?_ GE205.out | refine below_set ?_ GE211.out | refine below_set ?_ GE214.out) | exact HB.out)⟩
                 ·
                  replace c55 := Bool.eq_false_iff.mpr c55
                  subst c55
                  have H1 : ((keyIn.f ((rd_T118 ((rd_T53 l0_3 x42_2).f0) x52_3).f1)).bind fun t216 => (if x3_3.length < 17592186044416 then (impl_TableFault.l1 kj37 (x3_3 ++ [t216]) (mx x4_3 ((rd_T118 ((rd_T53 l0_3 x42_2).f0) x52_3).f1)) l0_3 (l0_3.length : Int) x42_2 ((rd_T53 l0_3 x42_2).f0) (((rd_T53 l0_3 x42_2).f0).length : Int) (wrap64 (x52_3 + 1)) a0_0 a0_1 l0_2 l0_3) else (none))) = some r := by rw [if_neg (show ¬ (false = true) by decide)] at H; exact H
                  clear H
                  have H := H1
                  clear H1
                  replace H := Option.bind_eq_some_iff.mp H
                  obtain ⟨t216, A560, H⟩ := H
                  replace H : (if x3_3.length < 17592186044416 then (impl_TableFault.l1 kj37 (x3_3 ++ [t216]) (mx x4_3 ((rd_T118 ((rd_T53 l0_3 x42_2).f0) x52_3).f1)) l0_3 (l0_3.length : Int) x42_2 ((rd_T53 l0_3 x42_2).f0) (((rd_T53 l0_3 x42_2).f0).length : Int) (wrap64 (x52_3 + 1)) a0_0 a0_1 l0_2 l0_3) else (none)) = some r := H
                  have A56 := Aside0.mk A560
                  clear A560
                  by_cases c57 : x3_3.length < 17592186044416
                  ·
                   rw [if_pos c57] at H
                   have LMc57 := Aside0.mk c57
                   clear c57
                   obtain ⟨y217, hy217⟩ : ∃ y_ : List Int, y_ = (x3_3 ++ [t216]) := ⟨_, rfl⟩
                   replace H : (impl_TableFault.l1 kj37 y217 (mx x4_3 ((rd_T118 ((rd_T53 l0_3 x42_2).f0) x52_3).f1)) l0_3 (l0_3.length : Int) x42_2 ((rd_T53 l0_3 x42_2).f0) (((rd_T53 l0_3 x42_2).f0).length : Int) (wrap64 (x52_3 + 1)) a0_0 a0_1 l0_2 l0_3) = some r := by first | (rw [hy217]; with_reducible exact H) | (have H2_ := (Option.bind_some _ _).symm.trans H; rw [hy217]; with_reducible exact H2_) | (have H2_ := (Option.bind_some _ _).symm.trans H; with_reducible exact H2_) | with_reducible exact H | (rw [hy217]; exact H) | exact H
                   have Ny217 := Aside0.mk hy217
                   clear hy217
                   obtain ⟨ji58, hji58⟩ : ∃ j_ : Int, (mx x4_3 ((rd_T118 ((rd_T53 l0_3 x42_2).f0) x52_3).f1)) = j_ := ⟨_, rfl⟩
                   replace H : (impl_TableFault.l1 kj37 y217 ji58 l0_3 (l0_3.length : Int) x42_2 ((rd_T53 l0_3 x42_2).f0) (((rd_T53 l0_3 x42_2).f0).length : Int) (wrap64 (x52_3 + 1)) a0_0 a0_1 l0_2 l0_3) = some r := by first | (rw [hji58] at H; exact H) | (simp only [hji58] at H ⊢; exact H)
                   (try rw [hji58] at A56)
                   have hji58_ : (if x4_3 < ((rd_T118 ((rd_T53 l0_3 x42_2).f0) x52_3).f1) then ((rd_T118 ((rd_T53 l0_3 x42_2).f0) x52_3).f1) else x4_3) = ji58 := hji58
                   have H' := Aside0.mk H
                   clear H
                   have hnb59 := NB214_205.out
                   have hnc59 := NB205_214.out
                   have hnb60 := NB214_211.out
                   have hnc60 := NB211_214.out
                   have hcz61_0 : wc.cell? ⟨gb214, 0, none⟩ = some (.string ((rd_T118 ((rd_T53 l0_3 x42_2).f0) x52_3).f0)) := (blk_cell BK214.out 0).trans rfl
                   have hcz61_1 : wc.cell? ⟨gb214, 1, none⟩ = some (.int .i64 ((rd_T118 ((rd_T53 l0_3 x42_2).f0) x52_3).f1)) := (blk_cell BK214.out 1).trans rfl
                   have hcz61_2 : wc.cell? ⟨gb214, 2, none⟩ = some (.bool ((rd_T118 ((rd_T53 l0_3 x42_2).f0) x52_3).f2)) := (blk_cell BK214.out 2).trans rfl
                   have hcz61_3 : wc.cell? ⟨gb214, 3, none⟩ = some (.string ((rd_T118 ((rd_T53 l0_3 x42_2).f0) x52_3).f3)) := (blk_cell BK214.out 3).trans rfl
                   have hfz61_0 := blk_frozen BK214.out 0
                   have hfz61_1 := blk_frozen BK214.out 1
                   have hfz61_2 := blk_frozen BK214.out 2
                   have hfz61_3 := blk_frozen BK214.out 3
                   go_wp2_with (first | (at_mapUpdate; refine MR.R_put (w0 := w) (base := w.heap.size) (ok := fun _ => True) rfl rfl rfl rfl rfl (by (with_reducible repeat (first | apply MR.R_alloc | apply MR.R_drewN | apply MR.R_drew)); exact HO_3.out) (keyIn.of A56.out).1 (by have := LMc57.out; simp only [maxLen]; omega) (by repeat (first | (with_reducible first | exact HB.out | apply below_alloc | apply pw_below_drewN | apply below_drew1 | refine below_set ?_ GE205.out | refine below_set ?_ GE211.out | refine below_set ?_ GE214.out) | exact HB.out)) ?_; intro w62 ho hb hg; rw [(keyIn.of A56.out).2] at ho; rw [← Ny217.out] at ho; have n0_ := Aside0.mk (blk_grown (g := gb205) (o := .cells #[.int .i64 a0_0, .int .i64 a0_1, .slice A0_2 l0_2.length c0_2, .slice (some ad210) l0_3.length c0_3] 56 (0, 0)) (by first | exact Grow.bk BK205.out | exact BK205.out) hg (MR.R_ne HO_3.out BK205.out (by decide))); have n1_ := Aside0.mk (blk_grown (g := gb211) (o := .cells #[.slice (some ad213) ((rd_T53 l0_3 x42_2).f0).length c210_0] 53 (0, 0)) (by first | exact Grow.bk BK211.out | exact BK211.out) hg (MR.R_ne HO_3.out BK211.out (by decide))); have n2_ := Aside0.mk (blk_grown (g := gb214) (o := .cells #[.string ((rd_T118 ((rd_T53 l0_3 x42_2).f0) x52_3).f0), .int .i64 ((rd_T118 ((rd_T53 l0_3 x42_2).f0) x52_3).f1), .bool ((rd_T118 ((rd_T53 l0_3 x42_2).f0) x52_3).f2), .string ((rd_T118 ((rd_T53 l0_3 x42_2).f0) x52_3).f3)] 118 (0, 0)) (by first | exact Grow.bk BK214.out | exact BK214.out) hg (MR.R_ne HO_3.out BK214.out (by decide))); have n3_ := Aside0.mk (hb); have n4_ := Aside0.mk (ho); clear BK205; clear BK211; clear BK214; clear HB; clear HO_3; have BK205 := n0_; have BK211 := n1_; have BK214 := n2_; have HB := n3_; have HO219 := n4_; clear n0_ n1_ n2_ n3_ n4_; clear ho hb hg; have hcz63_0 : w62.cell? ⟨gb214, 0, none⟩ = some (.string ((rd_T118 ((rd_T53 l0_3 x42_2).f0) x52_3).f0)) := (blk_cell BK214.out 0).trans rfl; have hcz63_1 : w62.cell? ⟨gb214, 1, none⟩ = some (.int .i64 ((rd_T118 ((rd_T53 l0_3 x42_2).f0) x52_3).f1)) := (blk_cell BK214.out 1).trans rfl; have hcz63_2 : w62.cell? ⟨gb214, 2, none⟩ = some (.bool ((rd_T118 ((rd_T53 l0_3 x42_2).f0) x52_3).f2)) := (blk_cell BK214.out 2).trans rfl; have hcz63_3 : w62.cell? ⟨gb214, 3, none⟩ = some (.string ((rd_T118 ((rd_T53 l0_3 x42_2).f0) x52_3).f3)) := (blk_cell BK214.out 3).trans rfl; have hfz63_0 := blk_frozen BK214.out 0; have hfz63_1 := blk_frozen BK214.out 1; have hfz63_2 := blk_frozen BK214.out 2; have hfz63_3 := blk_frozen BK214.out 3))
                   go_roundg kj37
                   case measure => have := HJ1.out; have := HK2.out; have := HK3.out; have := HJ37.out; omega
                   case rel => exact ⟨(y217), (ji58), (wrap64 (x52_3 + 1)), (by first | rfl | (simp; done) | (simp only [← hji58] <;> (first | rfl | simp)) | (simp [*]; done)), (by first | rfl | (simp; done) | (simp [*]; done)), H', ⟨by have := HJ1.out; have := HK2.out; have := HK3.out; have := HJ37.out; omega⟩, ⟨by (with_reducible repeat (first | apply MR.R_alloc | apply MR.R_drewN | apply MR.R_drew)); exact HO219.out⟩, ⟨by first | exact Grow.bk BK205.out | exact BK205.out⟩, ⟨by first | exact Grow.bk BK211.out | exact BK211.out⟩, ⟨by repeat (first | (with_reducible first | exact HB.out | apply below_alloc | apply pw_below_drewN | apply below_drew1 | refine below_set ?_ GE205.out | refine below_set ?_ GE211.out | refine below_set ?_ GE214.out) | exact HB.out)⟩⟩
                  ·
                   rw [if_neg c57] at H
                   exact absurd H (by simp)
              ·
               rw [if_neg c37] at H
               exact absurd H (by simp)
             ·
              rw [if_neg c36] at H
              exact absurd H (by simp)
            ·
             rw [if_neg c35] at H
             have c35b0 : decide (x52_3 < (((rd_T53 l0_3 x42_2).f0).length : Int)) = false := decide_eq_false c35
             clear c35
             have H' := Aside0.mk H
             clear H
             go_wp2
             go_roundg k3
             case measure => have := HJ1.out; have := HK2.out; have := HK3.out; omega
             case rel => exact ⟨(x3_3), (x4_3), (wrap64 (x42_2 + 1)), (by first | rfl | (simp; done) | (simp [*]; done)), (by first | rfl | (simp; done) | (simp [*]; done)), H', ⟨by have := HJ1.out; have := HK2.out; have := HK3.out; omega⟩, ⟨by (with_reducible repeat (first | apply MR.R_alloc | apply MR.R_drewN | apply MR.R_drew)); exact HO_3.out⟩, ⟨by first | exact Grow.bk BK205.out | exact BK205.out⟩, ⟨by repeat (first | (with_reducible first | exact HB.out | apply below_alloc | apply pw_below_drewN | apply below_drew1 | refine below_set ?_ GE205.out | refine below_set ?_ GE211.out) | exact HB.out)⟩⟩
         ·
          rw [if_neg c29] at H
          have c29b0 : (t212 == 0) = false := beq_eq_false_iff_ne.mpr c29
          have c29b1 : (t212 != 0) = true := bne_iff_ne.mpr c29
          obtain rfl := Option.some.inj H
          have p210 : 0 ≤ (x42_2 : Int) := of_decide_eq_true (by first | (with_reducible assumption) | assumption)
          have q210 : x42_2 < (l0_3.length : Int) := of_decide_eq_true (by first | (with_reducible assumption) | assumption)
          obtain ⟨ad210, A210_0, c210_0, e210, hx210_0, hl210_0, hi210_0⟩ := at_T53 HR0_3.out x42_2 p210 q210
          cases e210
          replace hx210_0 := Grow.bc HB.out hx210_0
          have HR210_0 := Aside0.mk hi210_0
          have HC210_0 := Aside0.mk hl210_0
          clear hi210_0 hl210_0
          replace p210 := eq_true p210
          replace q210 := eq_true q210
          go_wp2_with (first | ((with_reducible refine gate_dst (N := 6) rfl ?_); refine box_event ?hg (N := 6) ?hd (cs := #[.slice none 0 0]) (t := 53) ?hr ?_; (case hd => rfl); (case hg => rfl); (case hr => first | (go_simp; done) | (go_simp; rfl)); intro gb211 hg w64 hbox hb; have n0_ := Aside0.mk (MR.R_below (by (with_reducible repeat (first | apply MR.R_alloc | apply MR.R_drewN | apply MR.R_drew)); exact HO_3.out) hb); have n1_ := Aside0.mk (blk_below (g := gb205) (o := .cells #[.int .i64 a0_0, .int .i64 a0_1, .slice A0_2 l0_2.length c0_2, .slice (some ad210) l0_3.length c0_3] 56 (0, 0)) (by first | exact Grow.bk BK205.out | exact BK205.out) hb); have n2_ := Aside0.mk (below_step (by repeat (first | (with_reducible first | exact HB.out | apply below_alloc | apply pw_below_drewN | apply below_drew1 | refine below_set ?_ GE205.out) | exact HB.out)) hb); have n3_ := Aside0.mk (hbox); have n4_ := Aside0.mk ((by rw [hg]; exact (below_size (by repeat (first | (with_reducible first | exact HB.out | apply below_alloc | apply pw_below_drewN | apply below_drew1 | refine below_set ?_ GE205.out) | exact HB.out))) : w.heap.size ≤ gb211)); have n5_ := Aside0.mk ((by rw [hg]; exact (below_size (by repeat (first | (with_reducible first | exact HB.out | apply below_alloc | apply pw_below_drewN | apply below_drew1 | refine below_set ?_ GE205.out) | exact HB.out))) : w.heap.size ≤ gb211)); have n6_ := Aside0.mk ((by rw [hg]; exact Nat.ne_of_lt (blk_lt (g := gb205) (o := .cells #[.int .i64 a0_0, .int .i64 a0_1, .slice A0_2 l0_2.length c0_2, .slice (some ad210) l0_3.length c0_3] 56 (0, 0)) (by first | exact Grow.bk BK205.out | exact BK205.out)) : gb205 ≠ gb211)); have n7_ := Aside0.mk ((by rw [hg]; exact Nat.ne_of_gt (blk_lt (g := gb205) (o := .cells #[.int .i64 a0_0, .int .i64 a0_1, .slice A0_2 l0_2.length c0_2, .slice (some ad210) l0_3.length c0_3] 56 (0, 0)) (by first | exact Grow.bk BK205.out | exact BK205.out)) : gb211 ≠ gb205)); clear HO_3; clear BK205; clear HB; have HO_3 := n0_; have BK205 := n1_; have HB := n2_; have BK211 := n3_; have GW211 := n4_; have GE211 := n5_; have NB205_211 := n6_; have NB211_205 := n7_; clear n0_ n1_ n2_ n3_ n4_ n5_ n6_ n7_; clear hb hbox hg; have hnb65 := NB211_205.out; have hnc65 := NB205_211.out; have hcz66_0 : w64.cell? ⟨gb211, 0, none⟩ = some (.slice none 0 0) := (blk_cell BK211.out 0).trans rfl; have hfz66_0 := blk_frozen BK211.out 0) | ((with_reducible refine gate_callee (f := 68) rfl ?_); refine goesL_ (some 47) rfl rfl Try.func68 (by kernel_rfl) rfl #[.agg #[.slice A210_0 ((rd_T53 l0_3 x42_2).f0).length c210_0]] rfl (by (try simp only [List.map_toArray, List.map_cons, List.map_nil]); first | done | rfl | (simp only [List.length_drop, List.length_take]; rfl)) ?_; (with_reducible refine (impl_RunFault.calls k2 _ _ ((rd_T53 l0_3 x42_2).f0) t212 _ ?side1 ?side2 A28.out).mono ?_); (case side1 => exact Kd.C_below HR210_0.out (by repeat (first | (with_reducible first | exact HB.out | apply below_alloc | apply pw_below_drewN | apply below_drew1 | refine below_set ?_ GE205.out | refine below_set ?_ GE211.out) | exact HB.out))); (case side2 => exact HC210_0.out); rintro e w67 ⟨rfl, hb⟩; refine ⟨_, rfl, ?_⟩; have n0_ := Aside0.mk (MR.R_below (by (with_reducible repeat (first | apply MR.R_alloc | apply MR.R_drewN | apply MR.R_drew)); exact (MR.R_mono (MR.R_far (p := ⟨gb211, 0, none⟩) (MR.R_types HO_3.out BK211.out (by decide)) (fun _ hk => hk.2) (.slice A210_0 ((rd_T53 l0_3 x42_2).f0).length c210_0)) (fun _ h_ => h_.1))) hb); have n1_ := Aside0.mk (blk_below (g := gb205) (o := .cells #[.int .i64 a0_0, .int .i64 a0_1, .slice A0_2 l0_2.length c0_2, .slice (some ad210) l0_3.length c0_3] 56 (0, 0)) (by (with_reducible repeat (first | refine blk_drewN ?_ _ | refine blk_drew ?_ | refine blk_alloc ?_ _)); refine blk_far ?_ NB205_211.out _; (with_reducible repeat (first | refine blk_drewN ?_ _ | refine blk_drew ?_ | refine blk_alloc ?_ _)); exact BK205.out) hb); have n2_ := Aside0.mk (blk_below (g := gb211) (o := .cells #[.slice A210_0 ((rd_T53 l0_3 x42_2).f0).length c210_0] 53 (0, 0)) (by (with_reducible repeat (first | refine blk_drewN ?_ _ | refine blk_drew ?_ | refine blk_alloc ?_ _)); refine blk_put (cs := #[.slice none 0 0]) ?_ 0 _ rfl; (with_reducible repeat (first | refine blk_drewN ?_ _ | refine blk_drew ?_ | refine blk_alloc ?_ _)); exact BK211.out) hb); have n3_ := Aside0.mk (below_step (by repeat (first | (with_reducible first | exact HB.out | apply below_alloc | apply pw_below_drewN | apply below_drew1 | refine below_set ?_ GE205.out | refine below_set ?_ GE211.out) | exact HB.out)) hb); clear HO_3; clear BK205; clear BK211; clear HB; have HO_3 := n0_; have BK205 := n1_; have BK211 := n2_; have HB := n3_; clear n0_ n1_ n2_ n3_; (try clear hb); (try clear hb2); (try clear hk); (try clear hi)))
          go_ret
          exact ⟨by first | rfl | (simp [errW_none, errW_some] <;> rfl) | (simp [*, errW_none, errW_some] <;> rfl), by repeat (first | (with_reducible first | exact HB.out | apply below_alloc | apply pw_below_drewN | apply below_drew1 | refine below_set ?_ GE205.out | refine below_set ?_ GE211.out) | exact HB.out)⟩
        ·
         rw [if_neg c27] at H
         exact absurd H (by simp)
       ·
        rw [if_neg c26] at H
        exact absurd H (by simp)
      ·
       rw [if_neg c25] at H
       have c25b0 : decide (x42_2 < (l0_3.length : Int)) = false := decide_eq_false c25
       clear c25
       have H' := Aside0.mk H
       clear H
       have hcz68_0 : wr.cell? ⟨gb205, 0, none⟩ = some (.int .i64 a0_0) := (blk_cell BK205.out 0).trans rfl
       have hcz68_1 : wr.cell? ⟨gb205, 1, none⟩ = some (.int .i64 a0_1) := (blk_cell BK205.out 1).trans rfl
       have hcz68_2 : wr.cell? ⟨gb205, 2, none⟩ = some (.slice A0_2 l0_2.length c0_2) := (blk_cell BK205.out 2).trans rfl
       have hcz68_3 : wr.cell? ⟨gb205, 3, none⟩ = some (.slice A0_3 l0_3.length c0_3) := (blk_cell BK205.out 3).trans rfl
       have hfz68_0 := blk_frozen BK205.out 0
       have hfz68_1 := blk_frozen BK205.out 1
       have hfz68_2 := blk_frozen BK205.out 2
       have hfz68_3 := blk_frozen BK205.out 3
       go_wp2
       go_loopg [80] k2 (fun kq v80 w' => ∃ (x80_3 : Int), v80 = .int .i64 x80_3 ∧ Aside0 (impl_TableFault.l2 kq x3_2 x4_2 l0_2 (l0_2.length : Int) x80_3 a0_0 a0_1 l0_2 l0_3 = some r) ∧ Aside0 (kq ≤ k2) ∧ Aside0 (MR.R w' w.heap.size (fun _ => True) v208 x3_2) ∧ Aside0 (w'.heap[gb205]? = some (.cells #[.int .i64 a0_0, .int .i64 a0_1, (.slice A0_2 l0_2.length c0_2), (.slice A0_3 l0_3.length c0_3)] 56 (0, 0))) ∧ Aside0 (Below w.heap.size w w'))
       case atStart => exact ⟨(0), (by first | rfl | (simp; done) | (simp [*]; done)), H', ⟨Nat.le_refl _⟩, ⟨by (with_reducible repeat (first | apply MR.R_alloc | apply MR.R_drewN | apply MR.R_drew)); exact HO_3.out⟩, ⟨by first | exact Grow.bk BK205.out | exact BK205.out⟩, ⟨by repeat (first | (with_reducible first | exact HB.out | apply below_alloc | apply pw_below_drewN | apply below_drew1 | refine below_set ?_ GE205.out) | exact HB.out)⟩⟩
       case round =>
        clear H'
        try clear c1
        try clear c2
        try clear p2
        try clear q2
        try clear hx2
        try clear c3
        try clear c4
        try clear c4b0
        try clear c4b1
        try clear c5
        try clear c6
        try clear p6
        try clear c7
        try clear c7b0
        try clear c7b1
        try clear c8
        try clear c8b0
        try clear c9
        try clear c12
        try clear c12b0
        try clear c18
        try clear c21
        try clear p21
        try clear q21
        try clear hx21
        try clear c25
        try clear c25b0
        try clear c26
        try clear c26b0
        try clear c27
        try clear c27b0
        try clear c29
        try clear c29b0
        try clear c29b1
        try clear c31
        try clear c35
        try clear c35b0
        try clear c36
        try clear c36b0
        try clear c37
        try clear c37b0
        try clear c40
        try clear c41
        try clear c44
        try clear c45
        try clear c46
        try clear c49
        try clear c50
        try clear c53
        try clear c55
        try clear c57
        try clear c59
        try clear c60
        try clear p64
        try clear c65
        try clear c68
        try clear hcz11_0
        try clear hcz11_1
        try clear hcz11_2
        try clear hcz11_3
        try clear hcz13_0
        try clear hcz13_1
        try clear hcz13_2
        try clear hcz13_3
        try clear hcz15_0
        try clear hcz15_1
        try clear hcz15_2
        try clear hcz15_3
        try clear hcz16_0
        try clear hcz16_1
        try clear hcz16_2
        try clear hcz16_3
        try clear hcz18_0
        try clear hcz18_1
        try clear hcz18_2
        try clear hcz18_3
        try clear hcz19_0
        try clear hcz19_1
        try clear hcz19_2
        try clear hcz19_3
        try clear hcz24_0
        try clear hcz24_1
        try clear hcz24_2
        try clear hcz24_3
        try clear hcz32_0
        try clear hcz34_0
        try clear hcz42_0
        try clear hcz42_1
        try clear hcz42_2
        try clear hcz42_3
        try clear hcz47_0
        try clear hcz47_1
        try clear hcz47_2
        try clear hcz47_3
        try clear hcz51_0
        try clear hcz51_1
        try clear hcz51_2
        try clear hcz51_3
        try clear hcz54_0
        try clear hcz54_1
        try clear hcz54_2
        try clear hcz54_3
        try clear hcz5_0
        try clear hcz5_1
        try clear hcz5_2
        try clear hcz5_3
        try clear hcz61_0
        try clear hcz61_1
        try clear hcz61_2
        try clear hcz61_3
        try clear hcz63_0
        try clear hcz63_1
        try clear hcz63_2
        try clear hcz63_3
        try clear hcz66_0
        try clear hcz68_0
        try clear hcz68_1
        try clear hcz68_2
        try clear hcz68_3
        try clear hcz9_0
        try clear hcz9_1
        try clear hcz9_2
        try clear hcz9_3
        try clear hfz11_0
        try clear hfz11_1
        try clear hfz11_2
        try clear hfz11_3
        try clear hfz13_0
        try clear hfz13_1
        try clear hfz13_2
        try clear hfz13_3
        try clear hfz15_0
        try clear hfz15_1
        try clear hfz15_2
        try clear hfz15_3
        try clear hfz16_0
        try clear hfz16_1
        try clear hfz16_2
        try clear hfz16_3
        try clear hfz18_0
        try clear hfz18_1
        try clear hfz18_2
        try clear hfz18_3
        try clear hfz19_0
        try clear hfz19_1
        try clear hfz19_2
        try clear hfz19_3
        try clear hfz24_0
        try clear hfz24_1
        try clear hfz24_2
        try clear hfz24_3
        try clear hfz32_0
        try clear hfz34_0
        try clear hfz42_0
        try clear hfz42_1
        try clear hfz42_2
        try clear hfz42_3
        try clear hfz47_0
        try clear hfz47_1
        try clear hfz47_2
        try clear hfz47_3
        try clear hfz51_0
        try clear hfz51_1
        try clear hfz51_2
        try clear hfz51_3
        try clear hfz54_0
        try clear hfz54_1
        try clear hfz54_2
        try clear hfz54_3
        try clear hfz5_0
        try clear hfz5_1
        try clear hfz5_2
        try clear hfz5_3
        try clear hfz61_0
        try clear hfz61_1
        try clear hfz61_2
        try clear hfz61_3
        try clear hfz63_0
        try clear hfz63_1
        try clear hfz63_2
        try clear hfz63_3
        try clear hfz66_0
        try clear hfz68_0
        try clear hfz68_1
        try clear hfz68_2
        try clear hfz68_3
        try clear hfz9_0
        try clear hfz9_1
        try clear hfz9_2
        try clear hfz9_3
        try clear hx210_0
        try clear hx213_0
        try clear hx213_1
        try clear hx213_2
        try clear hx213_3
        try clear p2
        try clear p21
        try clear p210
        try clear p213
        try clear q2
        try clear q21
        try clear q210
        try clear q213
        obtain ⟨x80_3, rfl, HA, HK3, HO_3, BK205, HB⟩ := hrel
        cases gk with
        | zero => exact absurd HA.out (by simp [impl_TableFault.l2])
        | succ k3 =>
         have H := HA.out
         clear HA
         simp only [impl_TableFault.l2] at H
         by_cases c69 : x80_3 < (l0_2.length : Int)
         ·
          rw [if_pos c69] at H
          have c69b0 : decide (x80_3 < (l0_2.length : Int)) = true := decide_eq_true c69
          clear c69
          by_cases c70 : 0 ≤ x80_3
          ·
           rw [if_pos c70] at H
           have c70b0 : decide (0 ≤ x80_3) = true := decide_eq_true c70
           clear c70
           by_cases c71 : x80_3 < (l0_2.length : Int)
           ·
            rw [if_pos c71] at H
            have c71b0 : decide (x80_3 < (l0_2.length : Int)) = true := decide_eq_true c71
            clear c71
            have HC72 := Aside0.mk H
            clear H
            have p220 : 0 ≤ (x80_3 : Int) := of_decide_eq_true (by first | (with_reducible assumption) | assumption)
            have q220 : x80_3 < (l0_2.length : Int) := of_decide_eq_true (by first | (with_reducible assumption) | assumption)
            obtain ⟨ad220, e220, hx220_0, hx220_1, hx220_2, hx220_3⟩ := at_T118 HR0_2.out x80_3 p220 q220
            cases e220
            replace hx220_0 := Grow.bc HB.out hx220_0
            replace hx220_1 := Grow.bc HB.out hx220_1
            replace hx220_2 := Grow.bc HB.out hx220_2
            replace hx220_3 := Grow.bc HB.out hx220_3
            replace p220 := eq_true p220
            replace q220 := eq_true q220
            go_upto_region 22 with (first | ((with_reducible refine gate_dst (N := 10) rfl ?_); refine box_event ?hg (N := 10) ?hd (cs := #[.string (⟨#[]⟩ : ByteArray), .int .i64 0, .bool false, .string (⟨#[]⟩ : ByteArray)]) (t := 118) ?hr ?_; (case hd => rfl); (case hg => rfl); (case hr => first | (go_simp; done) | (go_simp; rfl)); intro gb221 hg w73 hbox hb; have n0_ := Aside0.mk (MR.R_below (by (with_reducible repeat (first | apply MR.R_alloc | apply MR.R_drewN | apply MR.R_drew)); exact HO_3.out) hb); have n1_ := Aside0.mk (blk_below (g := gb205) (o := .cells #[.int .i64 a0_0, .int .i64 a0_1, .slice (some ad220) l0_2.length c0_2, .slice A0_3 l0_3.length c0_3] 56 (0, 0)) (by first | exact Grow.bk BK205.out | exact BK205.out) hb); have n2_ := Aside0.mk (below_step (by repeat (first | (with_reducible first | exact HB.out | apply below_alloc | apply pw_below_drewN | apply below_drew1 | refine below_set ?_ GE205.out) | exact HB.out)) hb); have n3_ := Aside0.mk (hbox); have n4_ := Aside0.mk ((by rw [hg]; exact (below_size (by repeat (first | (with_reducible first | exact HB.out | apply below_alloc | apply pw_below_drewN | apply below_drew1 | refine below_set ?_ GE205.out) | exact HB.out))) : w.heap.size ≤ gb221)); have n5_ := Aside0.mk ((by rw [hg]; exact (below_size (by repeat (first | (with_reducible first | exact HB.out | apply below_alloc | apply pw_below_drewN | apply below_drew1 | refine below_set ?_ GE205.out) | exact HB.out))) : w.heap.size ≤ gb221)); have n6_ := Aside0.mk ((by rw [hg]; exact Nat.ne_of_lt (blk_lt (g := gb205) (o := .cells #[.int .i64 a0_0, .int .i64 a0_1, .slice (some ad220) l0_2.length c0_2, .slice A0_3 l0_3.length c0_3] 56 (0, 0)) (by first | exact Grow.bk BK205.out | exact BK205.out)) : gb205 ≠ gb221)); have n7_ := Aside0.mk ((by rw [hg]; exact Nat.ne_of_gt (blk_lt (g := gb205) (o := .cells #[.int .i64 a0_0, .int .i64 a0_1, .slice (some ad220) l0_2.length c0_2, .slice A0_3 l0_3.length c0_3] 56 (0, 0)) (by first | exact Grow.bk BK205.out | exact BK205.out)) : gb221 ≠ gb205)); clear HO_3; clear BK205; clear HB; have HO_3 := n0_; have BK205 := n1_; have HB := n2_; have BK221 := n3_; have GW221 := n4_; have GE221 := n5_; have NB205_221 := n6_; have NB221_205 := n7_; clear n0_ n1_ n2_ n3_ n4_ n5_ n6_ n7_; clear hb hbox hg; have hnb74 := NB221_205.out; have hnc74 := NB205_221.out; have hcz75_0 : w73.cell? ⟨gb221, 0, none⟩ = some (.string (⟨#[]⟩ : ByteArray)) := (blk_cell BK221.out 0).trans rfl; have hcz75_1 : w73.cell? ⟨gb221, 1, none⟩ = some (.int .i64 0) := (blk_cell BK221.out 1).trans rfl; have hcz75_2 : w73.cell? ⟨gb221, 2, none⟩ = some (.bool false) := (blk_cell BK221.out 2).trans rfl; have hcz75_3 : w73.cell? ⟨gb221, 3, none⟩ = some (.string (⟨#[]⟩ : ByteArray)) := (blk_cell BK221.out 3).trans rfl; have hfz75_0 := blk_frozen BK221.out 0; have hfz75_1 := blk_frozen BK221.out 1; have hfz75_2 := blk_frozen BK221.out 2; have hfz75_3 := blk_frozen BK221.out 3))
            (try simp only [Act.put, List.setIfInBounds_toArray, List.set_cons_zero, List.set_cons_succ])
            go_cut [94] (fun v94 wc => ∃ (kq : Nat) (x94_71 : Bool), v94 = .bool x94_71 ∧ Aside0 (impl_TableFault.j5 kq x3_2 x4_2 l0_2 (l0_2.length : Int) x80_3 x94_71 a0_0 a0_1 l0_2 l0_3 = some r) ∧ Aside0 (kq ≤ k3) ∧ Aside0 (MR.R wc w.heap.size (fun _ => True) v208 x3_2) ∧ Aside0 (wc.heap[gb205]? = some (.cells #[.int .i64 a0_0, .int .i64 a0_1, (.slice (some ad220) l0_2.length c0_2), (.slice A0_3 l0_3.length c0_3)] 56 (0, 0))) ∧ Aside0 (wc.heap[gb221]? = some (.cells #[.string ((rd_T118 l0_2 x80_3).f0), .int .i64 ((rd_T118 l0_2 x80_3).f1), .bool ((rd_T118 l0_2 x80_3).f2), .string ((rd_T118 l0_2 x80_3).f3)] 118 (0, 0))) ∧ Aside0 (Below w.heap.size w wc))
            case first =>
             have H := HC72.out
             clear HC72
             by_cases c76 : ((rd_T118 l0_2 x80_3).f1) ≤ x4_2
             ·
              rw [if_pos c76] at H
              have c76b0 : decide (((rd_T118 l0_2 x80_3).f1) ≤ x4_2) = true := decide_eq_true c76
              clear c76
              (first | rw [c76b0] | (simp only [i64_w, i32_w]; rw [c76b0]) | skip)
              have H' := Aside0.mk H
              clear H
              have hnb77 := NB221_205.out
              have hnc77 := NB205_221.out
              have hcz78_0 : w73.cell? ⟨gb221, 0, none⟩ = some (.string (⟨#[]⟩ : ByteArray)) := (blk_cell BK221.out 0).trans rfl
              have hcz78_1 : w73.cell? ⟨gb221, 1, none⟩ = some (.int .i64 0) := (blk_cell BK221.out 1).trans rfl
              have hcz78_2 : w73.cell? ⟨gb221, 2, none⟩ = some (.bool false) := (blk_cell BK221.out 2).trans rfl
              have hcz78_3 : w73.cell? ⟨gb221, 3, none⟩ = some (.string (⟨#[]⟩ : ByteArray)) := (blk_cell BK221.out 3).trans rfl
              have hfz78_0 := blk_frozen BK221.out 0
              have hfz78_1 := blk_frozen BK221.out 1
              have hfz78_2 := blk_frozen BK221.out 2
              have hfz78_3 := blk_frozen BK221.out 3
              go_wp2
              go_meet
              case rel => exact ⟨_, (true), (by first | rfl | (simp; done) | (simp [*]; done)), H', ⟨by have := HJ1.out; have := HK2.out; have := HK3.out; first | omega | exact Nat.le_refl _⟩, ⟨by (with_reducible repeat (first | apply MR.R_alloc | apply MR.R_drewN | apply MR.R_drew)); exact MR.R_mono (MR.R_far (p := ⟨gb221, 3, none⟩) (MR.R_far (p := ⟨gb221, 2, none⟩) (MR.R_far (p := ⟨gb221, 1, none⟩) (MR.R_far (p := ⟨gb221, 0, none⟩) (MR.R_types HO_3.out BK221.out (by decide)) (fun _ hk => hk.2) (.string ((rd_T118 l0_2 x80_3).f0))) (fun _ hk => hk.2) (.int .i64 ((rd_T118 l0_2 x80_3).f1))) (fun _ hk => hk.2) (.bool ((rd_T118 l0_2 x80_3).f2))) (fun _ hk => hk.2) (.string ((rd_T118 l0_2 x80_3).f3))) (fun _ hk => trivial)⟩, ⟨by (with_reducible repeat (first | refine blk_drewN ?_ _ | refine blk_drew ?_ | refine blk_alloc ?_ _)); refine blk_far ?_ NB205_221.out _; (with_reducible repeat (first | refine blk_drewN ?_ _ | refine blk_drew ?_ | refine blk_alloc ?_ _)); refine blk_far ?_ NB205_221.out _; (with_reducible repeat (first | refine blk_drewN ?_ _ | refine blk_drew ?_ | refine blk_alloc ?_ _)); refine blk_far ?_ NB205_221.out _; (with_reducible repeat (first | refine blk_drewN ?_ _ | refine blk_drew ?_ | refine blk_alloc ?_ _)); refine blk_far ?_ NB205_221.out _; (with_reducible repeat (first | refine blk_drewN ?_ _ | refine blk_drew ?_ | refine blk_alloc ?_ _)); exact BK205.out⟩, ⟨by (with_reducible repeat (first | refine blk_drewN ?_ _ | refine blk_drew ?_ | refine blk_alloc ?_ _)); refine blk_put (cs := #[.string ((rd_T118 l0_2 x80_3).f0), .int .i64 ((rd_T118 l0_2 x80_3).f1), .bool ((rd_T118 l0_2 x80_3).f2), .string (⟨#[]⟩ : ByteArray)]) ?_ 3 _ rfl; (with_reducible repeat (first | refine blk_drewN ?_ _ | refine blk_drew ?_ | refine blk_alloc ?_ _)); refine blk_put (cs := #[.string ((rd_T118 l0_2 x80_3).f0), .int .i64 ((rd_T118 l0_2 x80_3).f1), .bool false, .string (⟨#[]⟩ : ByteArray)]) ?_ 2 _ rfl; (with_reducible repeat (first | refine blk_drewN ?_ _ | refine blk_drew ?_ | refine blk_alloc ?_ _)); refine blk_put (cs := #[.string ((rd_T118 l0_2 x80_3).f0), .int .i64 0, .bool false, .string (⟨#[]⟩ : ByteArray)]) ?_ 1 _ rfl; (with_reducible repeat (first | refine blk_drewN ?_ _ | refine blk_drew ?_ | refine blk_alloc ?_ _)); refine blk_put (cs := #[.string (⟨#[]⟩ : ByteArray), .int .i64 0, .bool false, .string (⟨#[]⟩ : ByteArray)]) ?_ 0 _ rfl; (with_reducible repeat (first | refine blk_drewN ?_ _ | refine blk_drew ?_ | refine blk_alloc ?_ _)); exact BK221.out⟩, ⟨by repeat (first | (with_reducible first | exact HB.out | apply below_alloc | apply pw_below_drewN | apply below_drew1 | refine below_set ?_ GE205.out | refine below_set ?_ GE221.out) | exact HB.out)⟩⟩
             ·
              rw [if_neg c76] at H
              have c76b0 : decide (((rd_T118 l0_2 x80_3).f1) ≤ x4_2) = false := decide_eq_false c76
              clear c76
              (first | rw [c76b0] | (simp only [i64_w, i32_w]; rw [c76b0]) | skip)
              have H' := Aside0.mk H
              clear H
              have hnb79 := NB221_205.out
              have hnc79 := NB205_221.out
              have hcz80_0 : w73.cell? ⟨gb221, 0, none⟩ = some (.string (⟨#[]⟩ : ByteArray)) := (blk_cell BK221.out 0).trans rfl
              have hcz80_1 : w73.cell? ⟨gb221, 1, none⟩ = some (.int .i64 0) := (blk_cell BK221.out 1).trans rfl
              have hcz80_2 : w73.cell? ⟨gb221, 2, none⟩ = some (.bool false) := (blk_cell BK221.out 2).trans rfl
              have hcz80_3 : w73.cell? ⟨gb221, 3, none⟩ = some (.string (⟨#[]⟩ : ByteArray)) := (blk_cell BK221.out 3).trans rfl
              have hfz80_0 := blk_frozen BK221.out 0
              have hfz80_1 := blk_frozen BK221.out 1
              have hfz80_2 := blk_frozen BK221.out 2
              have hfz80_3 := blk_frozen BK221.out 3
              have hcz81_0 : w73.cell? ⟨gb205, 0, none⟩ = some (.int .i64 a0_0) := (blk_cell BK205.out 0).trans rfl
              have hcz81_1 : w73.cell? ⟨gb205, 1, none⟩ = some (.int .i64 a0_1) := (blk_cell BK205.out 1).trans rfl
              have hcz81_2 : w73.cell? ⟨gb205, 2, none⟩ = some (.slice (some ad220) l0_2.length c0_2) := (blk_cell BK205.out 2).trans rfl
              have hcz81_3 : w73.cell? ⟨gb205, 3, none⟩ = some (.slice A0_3 l0_3.length c0_3) := (blk_cell BK205.out 3).trans rfl
              have hfz81_0 := blk_frozen BK205.out 0
              have hfz81_1 := blk_frozen BK205.out 1
              have hfz81_2 := blk_frozen BK205.out 2
              have hfz81_3 := blk_frozen BK205.out 3
              go_wp2
              go_meet
              case rel => exact ⟨_, (decide (((rd_T118 l0_2 x80_3).f1) > a0_0)), (by first | rfl | (simp; done) | (simp [*]; done)), H', ⟨by have := HJ1.out; have := HK2.out; have := HK3.out; first | omega | exact Nat.le_refl _⟩, ⟨by (with_reducible repeat (first | apply MR.R_alloc | apply MR.R_drewN | apply MR.R_drew)); exact MR.R_mono (MR.R_far (p := ⟨gb221, 3, none⟩) (MR.R_far (p := ⟨gb221, 2, none⟩) (MR.R_far (p := ⟨gb221, 1, none⟩) (MR.R_far (p := ⟨gb221, 0, none⟩) (MR.R_types HO_3.out BK221.out (by decide)) (fun _ hk => hk.2) (.string ((rd_T118 l0_2 x80_3).f0))) (fun _ hk => hk.2) (.int .i64 ((rd_T118 l0_2 x80_3).f1))) (fun _ hk => hk.2) (.bool ((rd_T118 l0_2 x80_3).f2))) (fun _ hk => hk.2) (.string ((rd_T118 l0_2 x80_3).f3))) (fun _ hk => trivial)⟩, ⟨by (with_reducible repeat (first | refine blk_drewN ?_ _ | refine blk_drew ?_ | refine blk_alloc ?_ _)); refine blk_far ?_ NB205_221.out _; (with_reducible repeat (first | refine blk_drewN ?_ _ | refine blk_drew ?_ | refine blk_alloc ?_ _)); refine blk_far ?_ NB205_221.out _; (with_reducible repeat (first | refine blk_drewN ?_ _ | refine blk_drew ?_ | refine blk_alloc ?_ _)); refine blk_far ?_ NB205_221.out _; (with_reducible repeat (first | refine blk_drewN ?_ _ | refine blk_drew ?_ | refine blk_alloc ?_ _)); refine blk_far ?_ NB205_221.out _; (with_reducible repeat (first | refine blk_drewN ?_ _ | refine blk_drew ?_ | refine blk_alloc ?_ _)); exact BK205.out⟩, ⟨by (with_reducible repeat (first | refine blk_drewN ?_ _ | refine blk_drew ?_ | refine blk_alloc ?_ _)); refine blk_put (cs := #[.string ((rd_T118 l0_2 x80_3).f0), .int .i64 ((rd_T118 l0_2 x80_3).f1), .bool ((rd_T118 l0_2 x80_3).f2), .string (⟨#[]⟩ : ByteArray)]) ?_ 3 _ rfl; (with_reducible repeat (first | refine blk_drewN ?_ _ | refine blk_drew ?_ | refine blk_alloc ?_ _)); refine blk_put (cs := #[.string ((rd_T118 l0_2 x80_3).f0), .int .i64 ((rd_T118 l0_2 x80_3).f1), .bool false, .string (⟨#[]⟩ : ByteArray)]) ?_ 2 _ rfl; (with_reducible repeat (first | refine blk_drewN ?_ _ | refine blk_drew ?_ | refine blk_alloc ?_ _)); refine blk_put (cs := #[.string ((rd_T118 l0_2 x80_3).f0), .int .i64 0, .bool false, .string (⟨#[]⟩ : ByteArray)]) ?_ 1 _ rfl; (with_reducible repeat (first | refine blk_drewN ?_ _ | refine blk_drew ?_ | refine blk_alloc ?_ _)); refine blk_put (cs := #[.string (⟨#[]⟩ : ByteArray), .int .i64 0, .bool false, .string (⟨#[]⟩ : ByteArray)]) ?_ 0 _ rfl; (with_reducible repeat (first | refine blk_drewN ?_ _ | refine blk_drew ?_ | refine blk_alloc ?_ _)); exact BK221.out⟩, ⟨by repeat (first | (with_reducible first | exact HB.out | apply below_alloc | apply pw_below_drewN | apply below_drew1 | refine below_set ?_ GE205.out | refine below_set ?_ GE221.out) | exact HB.out)⟩⟩
            case rest =>
             clear HC72
             try clear c1
             try clear c2
             try clear p2
             try clear q2
             try clear hx2
             try clear c3
             try clear c4
             try clear c4b0
             try clear c4b1
             try clear c5
             try clear c6
             try clear p6
             try clear c7
             try clear c7b0
             try clear c7b1
             try clear c8
             try clear c8b0
             try clear c9
             try clear c12
             try clear c12b0
             try clear c18
             try clear c21
             try clear p21
             try clear q21
             try clear hx21
             try clear p22
             try clear q22
             try clear hx22
             try clear c25
             try clear c25b0
             try clear c26
             try clear c26b0
             try clear c27
             try clear c27b0
             try clear c29
             try clear c29b0
             try clear c29b1
             try clear c31
             try clear c35
             try clear c35b0
             try clear c36
             try clear c36b0
             try clear c37
             try clear c37b0
             try clear c40
             try clear c41
             try clear c44
             try clear c45
             try clear c46
             try clear c49
             try clear c50
             try clear c53
             try clear c55
             try clear c57
             try clear c59
             try clear c60
             try clear p64
             try clear c65
             try clear c68
             try clear c69
             try clear c69b0
             try clear c70
             try clear c70b0
             try clear c71
             try clear c71b0
             try clear c74
             try clear c76
             try clear c76b0
             try clear c77
             try clear c79
             try clear hcz11_0
             try clear hcz11_1
             try clear hcz11_2
             try clear hcz11_3
             try clear hcz13_0
             try clear hcz13_1
             try clear hcz13_2
             try clear hcz13_3
             try clear hcz15_0
             try clear hcz15_1
             try clear hcz15_2
             try clear hcz15_3
             try clear hcz16_0
             try clear hcz16_1
             try clear hcz16_2
             try clear hcz16_3
             try clear hcz18_0
             try clear hcz18_1
             try clear hcz18_2
             try clear hcz18_3
             try clear hcz19_0
             try clear hcz19_1
             try clear hcz19_2
             try clear hcz19_3
             try clear hcz24_0
             try clear hcz24_1
             try clear hcz24_2
             try clear hcz24_3
             try clear hcz32_0
             try clear hcz34_0
             try clear hcz42_0
             try clear hcz42_1
             try clear hcz42_2
             try clear hcz42_3
             try clear hcz47_0
             try clear hcz47_1
             try clear hcz47_2
             try clear hcz47_3
             try clear hcz51_0
             try clear hcz51_1
             try clear hcz51_2
             try clear hcz51_3
             try clear hcz54_0
             try clear hcz54_1
             try clear hcz54_2
             try clear hcz54_3
             try clear hcz5_0
             try clear hcz5_1
             try clear hcz5_2
             try clear hcz5_3
             try clear hcz61_0
             try clear hcz61_1
             try clear hcz61_2
             try clear hcz61_3
             try clear hcz63_0
             try clear hcz63_1
             try clear hcz63_2
             try clear hcz63_3
             try clear hcz66_0
             try clear hcz68_0
             try clear hcz68_1
             try clear hcz68_2
             try clear hcz68_3
             try clear hcz75_0
             try clear hcz75_1
             try clear hcz75_2
             try clear hcz75_3
             try clear hcz78_0
             try clear hcz78_1
             try clear hcz78_2
             try clear hcz78_3
             try clear hcz80_0
             try clear hcz80_1
             try clear hcz80_2
             try clear hcz80_3
             try clear hcz81_0
             try clear hcz81_1
             try clear hcz81_2
             try clear hcz81_3
             try clear hcz9_0
             try clear hcz9_1
             try clear hcz9_2
             try clear hcz9_3
             try clear hfz11_0
             try clear hfz11_1
             try clear hfz11_2
             try clear hfz11_3
             try clear hfz13_0
             try clear hfz13_1
             try clear hfz13_2
             try clear hfz13_3
             try clear hfz15_0
             try clear hfz15_1
             try clear hfz15_2
             try clear hfz15_3
             try clear hfz16_0
             try clear hfz16_1
             try clear hfz16_2
             try clear hfz16_3
             try clear hfz18_0
             try clear hfz18_1
             try clear hfz18_2
             try clear hfz18_3
             try clear hfz19_0
             try clear hfz19_1
             try clear hfz19_2
             try clear hfz19_3
             try clear hfz24_0
             try clear hfz24_1
             try clear hfz24_2
             try clear hfz24_3
             try clear hfz32_0
             try clear hfz34_0
             try clear hfz42_0
             try clear hfz42_1
             try clear hfz42_2
             try clear hfz42_3
             try clear hfz47_0
             try clear hfz47_1
             try clear hfz47_2
             try clear hfz47_3
             try clear hfz51_0
             try clear hfz51_1
             try clear hfz51_2
             try clear hfz51_3
             try clear hfz54_0
             try clear hfz54_1
             try clear hfz54_2
             try clear hfz54_3
             try clear hfz5_0
             try clear hfz5_1
             try clear hfz5_2
             try clear hfz5_3
             try clear hfz61_0
             try clear hfz61_1
             try clear hfz61_2
             try clear hfz61_3
             try clear hfz63_0
             try clear hfz63_1
             try clear hfz63_2
             try clear hfz63_3
             try clear hfz66_0
             try clear hfz68_0
             try clear hfz68_1
             try clear hfz68_2
             try clear hfz68_3
             try clear hfz75_0
             try clear hfz75_1
             try clear hfz75_2
             try clear hfz75_3
             try clear hfz78_0
             try clear hfz78_1
             try clear hfz78_2
             try clear hfz78_3
             try clear hfz80_0
             try clear hfz80_1
             try clear hfz80_2
             try clear hfz80_3
             try clear hfz81_0
             try clear hfz81_1
             try clear hfz81_2
             try clear hfz81_3
             try clear hfz9_0
             try clear hfz9_1
             try clear hfz9_2
             try clear hfz9_3
             try clear hx210_0
             try clear hx213_0
             try clear hx213_1
             try clear hx213_2
             try clear hx213_3
             try clear hx220_0
             try clear hx220_1
             try clear hx220_2
             try clear hx220_3
             try clear p2
             try clear p21
             try clear p210
             try clear p213
             try clear p220
             try clear p6
             try clear p64
             try clear q2
             try clear q21
             try clear q210
             try clear q213
             try clear q220
             obtain ⟨kq, x94_71, rfl, HA, HJ71, HO_3, BK205, BK221, HB⟩ := hcut
             cases kq with
             | zero => exact absurd HA.out (by simp [impl_TableFault.j5])
             | succ kj71 =>
              have H := HA.out
              clear HA
              simp only [impl_TableFault.j5] at H
              by_cases c82 : x94_71 = true
              ·
               subst c82
               have H1 : (some 1) = some r := by rw [if_pos rfl] at H; exact H
               clear H
               have H := H1
               clear H1
               obtain rfl := Option.some.inj H
               go_wp2
               go_ret
               exact ⟨by first | rfl | (simp [errW_none, errW_some] <;> rfl) | (simp [*, errW_none, errW_some] <;> rfl), by repeat (first | (with_reducible first | exact HB.out | apply below_alloc | apply pw_below_drewN | apply below_drew1 | refine below_set ?_ GE205.out | refine below_set ?_ GE221.out) | exact HB.out)⟩
              ·
               replace c82 := Bool.eq_false_iff.mpr c82
               subst c82
               have H1 : (impl_TableFault.l2 kj71 x3_2 x4_2 l0_2 (l0_2.length : Int) (wrap64 (x80_3 + 1)) a0_0 a0_1 l0_2 l0_3) = some r := by rw [if_neg (show ¬ (false = true) by decide)] at H; exact H
               clear H
               have H := H1
               clear H1
               have H' := Aside0.mk H
               clear H
               go_wp2
               go_roundg kj71
               case measure => have := HJ1.out; have := HK2.out; have := HK3.out; have := HJ71.out; omega
               case rel => exact ⟨(wrap64 (x80_3 + 1)), (by first | rfl | (simp; done) | (simp [*]; done)), H', ⟨by have := HJ1.out; have := HK2.out; have := HK3.out; have := HJ71.out; omega⟩, ⟨by (with_reducible repeat (first | apply MR.R_alloc | apply MR.R_drewN | apply MR.R_drew)); exact HO_3.out⟩, ⟨by first | exact Grow.bk BK205.out | exact BK205.out⟩, ⟨by repeat (first | (with_reducible first | exact HB.out | apply below_alloc | apply pw_below_drewN | apply below_drew1 | refine below_set ?_ GE205.out | refine below_set ?_ GE221.out) | exact HB.out)⟩⟩
           ·
            rw [if_neg c71] at H
            exact absurd H (by simp)
          ·
           rw [if_neg c70] at H
           exact absurd H (by simp)
         ·
          rw [if_neg c69] at H
          have c69b0 : decide (x80_3 < (l0_2.length : Int)) = false := decide_eq_false c69
          clear c69
          replace H := Option.bind_eq_some_iff.mp H
          obtain ⟨t222, A830, H⟩ := H
          replace H : (if (wrap64 (t222 + (l0_2.length : Int))) > 1000 then (some 1) else (some 0)) = some r := H
          have A83 := Aside0.mk A830
          clear A830
          by_cases c84 : (wrap64 (t222 + (l0_2.length : Int))) > 1000
          ·
           rw [if_pos c84] at H
           have c84b0 : decide (1000 < (wrap64 (t222 + (l0_2.length : Int)))) = true := decide_eq_true c84
           clear c84
           obtain rfl := Option.some.inj H
           obtain ⟨bo85, eo85⟩ := MR.R_map HO_3.out
           subst eo85
           go_wp2_with (first | ((with_reducible refine gate_builtin (b := .len) (xs := #[.tmp 96]) rfl ?_); (try (refine gate_guard (by rfl) ?_; dsimp only)); refine MR.R_len (base := w.heap.size) (ok := fun _ => True) (xs := x3_2) rfl rfl rfl (by (with_reducible repeat (first | apply MR.R_alloc | apply MR.R_drewN | apply MR.R_drew)); exact HO_3.out) (mapLen.of A83.out).1 ?_; rw [(mapLen.of A83.out).2]; have hcz86_0 : wr.cell? ⟨gb205, 0, none⟩ = some (.int .i64 a0_0) := (blk_cell BK205.out 0).trans rfl; have hcz86_1 : wr.cell? ⟨gb205, 1, none⟩ = some (.int .i64 a0_1) := (blk_cell BK205.out 1).trans rfl; have hcz86_2 : wr.cell? ⟨gb205, 2, none⟩ = some (.slice A0_2 l0_2.length c0_2) := (blk_cell BK205.out 2).trans rfl; have hcz86_3 : wr.cell? ⟨gb205, 3, none⟩ = some (.slice A0_3 l0_3.length c0_3) := (blk_cell BK205.out 3).trans rfl; have hfz86_0 := blk_frozen BK205.out 0; have hfz86_1 := blk_frozen BK205.out 1; have hfz86_2 := blk_frozen BK205.out 2; have hfz86_3 := blk_frozen BK205.out 3))
           go_ret
           exact ⟨by first | rfl | (simp [errW_none, errW_some] <;> rfl) | (simp [*, errW_none, errW_some] <;> rfl), by repeat (first | (with_reducible first | exact HB.out | apply below_alloc | apply pw_below_drewN | apply below_drew1 | refine below_set ?_ GE205.out) | exact HB.out)⟩
          ·
           rw [if_neg c84] at H
           have c84b0 : decide (1000 < (wrap64 (t222 + (l0_2.length : Int)))) = false := decide_eq_false c84
           clear c84
           obtain rfl := Option.some.inj H
           obtain ⟨bo87, eo87⟩ := MR.R_map HO_3.out
           subst eo87
           go_wp2_with (first | ((with_reducible refine gate_builtin (b := .len) (xs := #[.tmp 96]) rfl ?_); (try (refine gate_guard (by rfl) ?_; dsimp only)); refine MR.R_len (base := w.heap.size) (ok := fun _ => True) (xs := x3_2) rfl rfl rfl (by (with_reducible repeat (first | apply MR.R_alloc | apply MR.R_drewN | apply MR.R_drew)); exact HO_3.out) (mapLen.of A83.out).1 ?_; rw [(mapLen.of A83.out).2]; have hcz88_0 : wr.cell? ⟨gb205, 0, none⟩ = some (.int .i64 a0_0) := (blk_cell BK205.out 0).trans rfl; have hcz88_1 : wr.cell? ⟨gb205, 1, none⟩ = some (.int .i64 a0_1) := (blk_cell BK205.out 1).trans rfl; have hcz88_2 : wr.cell? ⟨gb205, 2, none⟩ = some (.slice A0_2 l0_2.length c0_2) := (blk_cell BK205.out 2).trans rfl; have hcz88_3 : wr.cell? ⟨gb205, 3, none⟩ = some (.slice A0_3 l0_3.length c0_3) := (blk_cell BK205.out 3).trans rfl; have hfz88_0 := blk_frozen BK205.out 0; have hfz88_1 := blk_frozen BK205.out 1; have hfz88_2 := blk_frozen BK205.out 2; have hfz88_3 := blk_frozen BK205.out 3))
           go_ret
           exact ⟨by first | rfl | (simp [errW_none, errW_some] <;> rfl) | (simp [*, errW_none, errW_some] <;> rfl), by repeat (first | (with_reducible first | exact HB.out | apply below_alloc | apply pw_below_drewN | apply below_drew1 | refine below_set ?_ GE205.out) | exact HB.out)⟩
end Go.Proofs.Ytflpkbegdmihdaa.QFnExactTableFault
