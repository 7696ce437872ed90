-- A text of this session, printed by a program of its own (wip/tools: xpatch.py, xprint.sh, mkq.py). No condition.
import Derived.Test.YtflpkbegdmihdaaVFnExactJudgeQFnExactJudgex10
import Derived.Test.YtflpkbegdmihdaaVFnExactJudgeQFnExactJudgex0
import Derived.Test.YtflpkbegdmihdaaVFnExactJudgeQFnExactJudgex13
namespace Go.Proofs.Ytflpkbegdmihdaa.QFnExactJudge
open Go.RowKit Go.Proofs.YtflpkbegdmihdaaW.PrintWords Go.Proofs.YtflpkbegdmihdaaW.PrintLast Go.Proofs.YtflpkbegdmihdaaW.PrintMore
attribute [local go_sem] max2_int min2_int max_two min_two max_three min_three max_four min_four
set_option linter.unusedVariables false
set_option linter.unusedSimpArgs false
theorem disp0 (c1 : ByteArray) (q : Value) (W : World) : (invoke (.fn (.method "loop.example/g00020/impl.holds") #[]) #[.iface 187 (.agg #[.string c1]), q]).run Try.prog W = .ok (.enter 165 #[.agg #[.string c1], q]) W := by kernel_rfl
theorem disp1 (c1 : ByteArray) (q : Value) (W : World) : (invoke (.fn (.method "loop.example/g00020/impl.holds") #[]) #[.iface 189 (.agg #[.string c1]), q]).run Try.prog W = .ok (.enter 168 #[.agg #[.string c1], q]) W := by kernel_rfl
theorem disp2 (c1 : Int) (b : Bool) (q : Value) (W : World) : (invoke (.fn (.method "loop.example/g00020/impl.holds") #[]) #[.iface 191 (.agg #[.int .i64 c1, .bool b]), q]).run Try.prog W = .ok (.enter 169 #[.agg #[.int .i64 c1, .bool b], q]) W := by kernel_rfl
def holdsOf.f (k : Nat) (c0 : Int) (c1 : ByteArray) (c2 : Int) (q0 q1 q2 q3 : ByteArray) (q4 : Int) : Option (Bool) :=
  if c0 = 1 then (impl_prefixTest_holds.f c1 q0 q1 q2 q3 q4) else (if c0 = 2 then (impl_timeTest_holds.f c2 false q0 q1 q2 q3 q4) else (if c0 = 3 then (impl_timeTest_holds.f c2 true q0 q1 q2 q3 q4) else (if c0 = 4 then (impl_fromTest_holds.f k c1 q0 q1 q2 q3 q4) else (none))))
theorem holdsOf.mono : ∀ a0 a1 a2 a3 a4 a5 a6 a7 k, LeO (holdsOf.f k a0 a1 a2 a3 a4 a5 a6 a7) (holdsOf.f (k + 1) a0 a1 a2 a3 a4 a5 a6 a7) := by
  intro a0 a1 a2 a3 a4 a5 a6 a7 k
  unfold holdsOf.f
  repeat' first
      | (with_reducible exact impl_fromTest_holds.mono _ _ _ _ _ _ _)
      | (with_reducible exact LeO.refl _)
      | (with_reducible refine LeO.ite ?_ ?_)
section
variable {ops : Array Oper} {Q : Exit → Act → World → Prop} {K : Act → World → Prop}
theorem inv_ {oi : Oper} {N : Option Tmp} {a : Act} {w : World} {f : FuncId} {r x : Tmp} {ty : TypeId} {v q : Value} {args : Array Value} (hw : Region.wanted oi (yielded ops a.tmps) = true) (hN : oi.dst = N)
    (hop : oi.op = .call { callee := .invoke (.tmp r) "loop.example/g00020/impl.holds", args := #[.tmp x], argTypes := #[ty] }) (hr : a.eval (.tmp r) = v) (hx : a.eval (.tmp x) = q)
    (hd : (invoke (.fn (.method "loop.example/g00020/impl.holds") #[]) #[v, q]).run Try.prog w = .ok (.enter f args) w)
    (h : Calls Try.prog f args w fun e w' => ∃ v, e = .returned v ∧ K (a.put N v) w') : if Region.wanted oi (yielded ops a.tmps) = true then Oper.wp Try.prog oi a w K Q else K (a.put N undef) w := by
  refine call_ f args hw hN ?_ h
  unfold execOp
  simp only [Act.eval] at hr hx
  simp [hop, resolve, Act.eval, hr, hx, hd]
theorem holds_ (k : Nat) (c0 : Int) (c1 : ByteArray) (c2 : Int) (q0 q1 q2 q3 : ByteArray) (q4 : Int) (t : Bool) (h : holdsOf.f k c0 c1 c2 q0 q1 q2 q3 q4 = some t) {oi : Oper} {N : Option Tmp} {a : Act} {w : World} {r x : Tmp} {ty : TypeId} (hw : Region.wanted oi (yielded ops a.tmps) = true) (hN : oi.dst = N)
    (hop : oi.op = .call { callee := .invoke (.tmp r) "loop.example/g00020/impl.holds", args := #[.tmp x], argTypes := #[ty] }) (hr : a.eval (.tmp r) = testV c0 c1 c2) (hx : a.eval (.tmp x) = .agg #[.string q0, .string q1, .string q2, .string q3, .int .i64 q4])
    (hk : ∀ w', Below w.heap.size w w' → K (a.put N (.bool t)) w') : if Region.wanted oi (yielded ops a.tmps) = true then Oper.wp Try.prog oi a w K Q else K (a.put N undef) w := by
  unfold holdsOf.f at h
  by_cases h1 : c0 = 1
  · rw [if_pos h1] at h
    exact inv_ hw hN hop (hr.trans (by unfold testV; rw [if_pos h1])) hx (disp0 _ _ _) ((impl_prefixTest_holds.calls c1 q0 q1 q2 q3 q4 t w h).mono (fun e w' hh => by obtain ⟨rfl, hb⟩ := hh; exact ⟨_, rfl, hk w' hb⟩))
  · rw [if_neg h1] at h
    by_cases h2 : c0 = 2
    · rw [if_pos h2] at h
      exact inv_ hw hN hop (hr.trans (by unfold testV; rw [if_neg h1, if_pos h2])) hx (disp2 _ _ _ _) ((impl_timeTest_holds.calls c2 false q0 q1 q2 q3 q4 t w h).mono (fun e w' hh => by obtain ⟨rfl, hb⟩ := hh; exact ⟨_, rfl, hk w' hb⟩))
    · rw [if_neg h2] at h
      by_cases h3 : c0 = 3
      · rw [if_pos h3] at h
        exact inv_ hw hN hop (hr.trans (by unfold testV; rw [if_neg h1, if_neg h2, if_pos h3])) hx (disp2 _ _ _ _) ((impl_timeTest_holds.calls c2 true q0 q1 q2 q3 q4 t w h).mono (fun e w' hh => by obtain ⟨rfl, hb⟩ := hh; exact ⟨_, rfl, hk w' hb⟩))
      · rw [if_neg h3] at h
        by_cases h4 : c0 = 4
        · rw [if_pos h4] at h
          exact inv_ hw hN hop (hr.trans (by unfold testV; rw [if_neg h1, if_neg h2, if_neg h3, if_pos h4])) hx (disp1 _ _ _) ((impl_fromTest_holds.calls k c1 q0 q1 q2 q3 q4 t w h).mono (fun e w' hh => by obtain ⟨rfl, hb⟩ := hh; exact ⟨_, rfl, hk w' hb⟩))
        · rw [if_neg h4] at h
          exact absurd h (by simp)
end
mutual
def impl_Statement_fits.j0 : Nat → Bool → Int → List ByteArray → List ByteArray → List ByteArray → List (S136) → ByteArray → ByteArray → ByteArray → ByteArray → Int → Option (Bool)
  | 0, _, _, _, _, _, _, _, _, _, _, _ => none
  | k + 1, x28, x271000, x271001, x271002, x271003, x271004, x272000, x272001, x272002, x272003, x272004 => if x28 = true then (some false) else (impl_Statement_fits.l0 k x271004 (x271004.length : Int) 0 x272000 x272001 x272002 x272003 x272004)
def impl_Statement_fits.l0 : Nat → List (S136) → Int → Int → ByteArray → ByteArray → ByteArray → ByteArray → Int → Option (Bool)
  | 0, _, _, _, _, _, _, _, _ => none
  | k + 1, x30, x31, x32, x272000, x272001, x272002, x272003, x272004 => if x32 < x31 then (if 0 ≤ x32 then (if x32 < (x30.length : Int) then ((holdsOf.f k ((rd_T136 x30 x32).f0) ((rd_T136 x30 x32).f1) ((rd_T136 x30 x32).f2) x272000 x272001 x272002 x272003 x272004).bind fun t277 => (if t277 = true then (impl_Statement_fits.l0 k x30 x31 (wrap64 (x32 + 1)) x272000 x272001 x272002 x272003 x272004) else (some false))) else (none)) else (none)) else (some true)
end
def impl_Statement_fits.f (k : Nat) (a0_0 : Int) (l0_1 : List ByteArray) (l0_2 : List ByteArray) (l0_3 : List ByteArray) (l0_4 : List (S136)) (a1_0 : ByteArray) (a1_1 : ByteArray) (a1_2 : ByteArray) (a1_3 : ByteArray) (a1_4 : Int) : Option (Bool) := (impl_someFits.f k l0_1 a1_0).bind fun t272 => (if t272 = true then ((impl_someFits.f k l0_2 a1_1).bind fun t273 => (if t273 = true then ((impl_someFits.f k l0_3 a1_2).bind fun t274 => (impl_Statement_fits.j0 k (!t274) a0_0 l0_1 l0_2 l0_3 l0_4 a1_0 a1_1 a1_2 a1_3 a1_4)) else (impl_Statement_fits.j0 k true a0_0 l0_1 l0_2 l0_3 l0_4 a1_0 a1_1 a1_2 a1_3 a1_4))) else (impl_Statement_fits.j0 k true a0_0 l0_1 l0_2 l0_3 l0_4 a1_0 a1_1 a1_2 a1_3 a1_4))
theorem impl_Statement_fits.mono_l : ∀ k, (∀ y0 y1 y2 y3 y4 y5 y6 y7 y8 y9 y10, LeO (impl_Statement_fits.j0 k y0 y1 y2 y3 y4 y5 y6 y7 y8 y9 y10) (impl_Statement_fits.j0 (k + 1) y0 y1 y2 y3 y4 y5 y6 y7 y8 y9 y10)) ∧ (∀ y0 y1 y2 y3 y4 y5 y6 y7, LeO (impl_Statement_fits.l0 k y0 y1 y2 y3 y4 y5 y6 y7) (impl_Statement_fits.l0 (k + 1) y0 y1 y2 y3 y4 y5 y6 y7))
  | 0 => ⟨fun _ _ _ _ _ _ _ _ _ _ _ r h => by simp [impl_Statement_fits.j0] at h, fun _ _ _ _ _ _ _ _ r h => by simp [impl_Statement_fits.l0] at h⟩
  | k + 1 => by
    obtain ⟨ih0, ih1⟩ := impl_Statement_fits.mono_l k
    refine ⟨?_, ?_⟩
    · intro y0 y1 y2 y3 y4 y5 y6 y7 y8 y9 y10
      unfold impl_Statement_fits.j0
      repeat' first
      | (with_reducible exact ih0 _ _ _ _ _ _ _ _ _ _ _)
      | (with_reducible exact ih1 _ _ _ _ _ _ _ _)
      | (with_reducible exact holdsOf.mono _ _ _ _ _ _ _ _ _)
      | (with_reducible exact impl_someFits.mono _ _ _)
      | (with_reducible exact LeO.refl _)
      | (with_reducible exact LeO.none _)
      | (with_reducible refine LeO.ite ?_ ?_)
      | (with_reducible refine LeO.bind ?_ (fun _ => ?_))
      | exact ih0 _ _ _ _ _ _ _ _ _ _ _
      | exact ih1 _ _ _ _ _ _ _ _
      | exact holdsOf.mono _ _ _ _ _ _ _ _ _
      | exact impl_someFits.mono _ _ _
      | exact LeO.none _
      | refine LeO.ite ?_ ?_
      | refine LeO.bind ?_ (fun _ => ?_)
    · intro y0 y1 y2 y3 y4 y5 y6 y7
      unfold impl_Statement_fits.l0
      repeat' first
      | (with_reducible exact ih0 _ _ _ _ _ _ _ _ _ _ _)
      | (with_reducible exact ih1 _ _ _ _ _ _ _ _)
      | (with_reducible exact holdsOf.mono _ _ _ _ _ _ _ _ _)
      | (with_reducible exact impl_someFits.mono _ _ _)
      | (with_reducible exact LeO.refl _)
      | (with_reducible exact LeO.none _)
      | (with_reducible refine LeO.ite ?_ ?_)
      | (with_reducible refine LeO.bind ?_ (fun _ => ?_))
      | exact ih0 _ _ _ _ _ _ _ _ _ _ _
      | exact ih1 _ _ _ _ _ _ _ _
      | exact holdsOf.mono _ _ _ _ _ _ _ _ _
      | exact impl_someFits.mono _ _ _
      | exact LeO.none _
      | refine LeO.ite ?_ ?_
      | refine LeO.bind ?_ (fun _ => ?_)
theorem impl_Statement_fits.mono : ∀ a0 a1 a2 a3 a4 a5 a6 a7 a8 a9 k, LeO (impl_Statement_fits.f k a0 a1 a2 a3 a4 a5 a6 a7 a8 a9) (impl_Statement_fits.f (k + 1) a0 a1 a2 a3 a4 a5 a6 a7 a8 a9) := by
  intro a0 a1 a2 a3 a4 a5 a6 a7 a8 a9 k
  obtain ⟨ih0, ih1⟩ := impl_Statement_fits.mono_l k
  unfold impl_Statement_fits.f
  repeat' first
      | (with_reducible exact ih0 _ _ _ _ _ _ _ _ _ _ _)
      | (with_reducible exact ih1 _ _ _ _ _ _ _ _)
      | (with_reducible exact holdsOf.mono _ _ _ _ _ _ _ _ _)
      | (with_reducible exact impl_someFits.mono _ _ _)
      | (with_reducible exact LeO.refl _)
      | (with_reducible exact LeO.none _)
      | (with_reducible refine LeO.ite ?_ ?_)
      | (with_reducible refine LeO.bind ?_ (fun _ => ?_))
      | exact ih0 _ _ _ _ _ _ _ _ _ _ _
      | exact ih1 _ _ _ _ _ _ _ _
      | exact holdsOf.mono _ _ _ _ _ _ _ _ _
      | exact impl_someFits.mono _ _ _
      | exact LeO.none _
      | refine LeO.ite ?_ ?_
      | refine LeO.bind ?_ (fun _ => ?_)
set_option maxHeartbeats 8000000 in
set_option maxRecDepth 100000 in
theorem impl_Statement_fits.calls (k : Nat) (a0_0 : Int) (A0_1 : Option Addr) (c0_1 : Nat) (l0_1 : List ByteArray) (A0_2 : Option Addr) (c0_2 : Nat) (l0_2 : List ByteArray) (A0_3 : Option Addr) (c0_3 : Nat) (l0_3 : List ByteArray) (A0_4 : Option Addr) (c0_4 : Nat) (l0_4 : List (S136)) (a1_0 : ByteArray) (a1_1 : ByteArray) (a1_2 : ByteArray) (a1_3 : ByteArray) (a1_4 : Int) (r : Bool) (w : World) (hr0_1 : Kd.C Kd.string w A0_1 l0_1.length l0_1) (hc0_1 : l0_1.length ≤ c0_1) (hr0_2 : Kd.C Kd.string w A0_2 l0_2.length l0_2) (hc0_2 : l0_2.length ≤ c0_2) (hr0_3 : Kd.C Kd.string w A0_3 l0_3.length l0_3) (hc0_3 : l0_3.length ≤ c0_3) (hr0_4 : Kd.C k136 w A0_4 l0_4.length l0_4) (hc0_4 : l0_4.length ≤ c0_4) (h : impl_Statement_fits.f k a0_0 l0_1 l0_2 l0_3 l0_4 a1_0 a1_1 a1_2 a1_3 a1_4 = some r) :
  Calls Try.prog 95 #[.agg #[.int .i64 a0_0, .slice A0_1 l0_1.length c0_1, .slice A0_2 l0_2.length c0_2, .slice A0_3 l0_3.length c0_3, .slice A0_4 l0_4.length c0_4], .agg #[.string a1_0, .string a1_1, .string a1_2, .string a1_3, .int .i64 a1_4]] w fun e w' => e = .returned (.bool r) ∧ Below w.heap.size w w' := by
 have hu132 := Try.underlying132
 have hu96 := Try.underlying96
 have hu136 := Try.underlying136
 have HR0_1 := Aside0.mk hr0_1
 have HC0_1 := Aside0.mk hc0_1
 clear hr0_1 hc0_1
 have HR0_2 := Aside0.mk hr0_2
 have HC0_2 := Aside0.mk hc0_2
 clear hr0_2 hc0_2
 have HR0_3 := Aside0.mk hr0_3
 have HC0_3 := Aside0.mk hc0_3
 clear hr0_3 hc0_3
 have HR0_4 := Aside0.mk hr0_4
 have HC0_4 := Aside0.mk hc0_4
 clear hr0_4 hc0_4
 have HB := Aside0.mk (Below.refl w.heap.size w)
 have H : ((impl_someFits.f k l0_1 a1_0).bind fun t272 => (if t272 = true then ((impl_someFits.f k l0_2 a1_1).bind fun t273 => (if t273 = true then ((impl_someFits.f k l0_3 a1_2).bind fun t274 => (impl_Statement_fits.j0 k (!t274) a0_0 l0_1 l0_2 l0_3 l0_4 a1_0 a1_1 a1_2 a1_3 a1_4)) else (impl_Statement_fits.j0 k true a0_0 l0_1 l0_2 l0_3 l0_4 a1_0 a1_1 a1_2 a1_3 a1_4))) else (impl_Statement_fits.j0 k true a0_0 l0_1 l0_2 l0_3 l0_4 a1_0 a1_1 a1_2 a1_3 a1_4))) = some r := h
 clear h
 have HC3 := Aside0.mk H
 clear H
 go_enter Try.func95, Try.ntmps95
 go_upto_region 1 with (first | ((with_reducible refine gate_dst (N := 2) rfl ?_); refine box_event ?hg (N := 2) ?hd (cs := #[.int .i64 a0_0, .slice A0_1 l0_1.length c0_1, .slice A0_2 l0_2.length c0_2, .slice A0_3 l0_3.length c0_3, .slice A0_4 l0_4.length c0_4]) (t := 132) ?hr ?_; (case hd => rfl); (case hg => rfl); (case hr => first | (go_simp; done) | (go_simp; rfl)); intro gb270 hg w4 hbox hb; have n0_ := Aside0.mk (below_step (by first | exact Grow.bl HB.out | exact HB.out) hb); have n1_ := Aside0.mk (hbox); have n2_ := Aside0.mk ((by rw [hg]; exact (below_size (by first | exact Grow.bl HB.out | exact HB.out)) : w.heap.size ≤ gb270)); have n3_ := Aside0.mk ((by rw [hg]; exact (below_size (by first | exact Grow.bl HB.out | exact HB.out)) : w.heap.size ≤ gb270)); clear HB; have HB := n0_; have BK270 := n1_; have GW270 := n2_; have GE270 := n3_; clear n0_ n1_ n2_ n3_; clear hb hbox hg) | ((with_reducible refine gate_dst (N := 3) rfl ?_); refine box_event ?hg (N := 3) ?hd (cs := #[.string a1_0, .string a1_1, .string a1_2, .string a1_3, .int .i64 a1_4]) (t := 96) ?hr ?_; (case hd => rfl); (case hg => rfl); (case hr => first | (go_simp; done) | (go_simp; rfl)); intro gb271 hg w5 hbox hb; have n0_ := Aside0.mk (blk_below (g := gb270) (o := .cells #[.int .i64 a0_0, .slice A0_1 l0_1.length c0_1, .slice A0_2 l0_2.length c0_2, .slice A0_3 l0_3.length c0_3, .slice A0_4 l0_4.length c0_4] 132 (0, 0)) (by first | exact Grow.bk BK270.out | exact BK270.out) hb); have n1_ := Aside0.mk (below_step (by repeat (first | (with_reducible first | exact HB.out | apply below_alloc | apply pw_below_drewN | apply below_drew1 | refine below_set ?_ GE270.out) | exact HB.out)) hb); have n2_ := Aside0.mk (hbox); have n3_ := Aside0.mk ((by rw [hg]; exact (below_size (by repeat (first | (with_reducible first | exact HB.out | apply below_alloc | apply pw_below_drewN | apply below_drew1 | refine below_set ?_ GE270.out) | exact HB.out))) : w.heap.size ≤ gb271)); have n4_ := Aside0.mk ((by rw [hg]; exact (below_size (by repeat (first | (with_reducible first | exact HB.out | apply below_alloc | apply pw_below_drewN | apply below_drew1 | refine below_set ?_ GE270.out) | exact HB.out))) : w.heap.size ≤ gb271)); have n5_ := Aside0.mk ((by rw [hg]; exact Nat.ne_of_lt (blk_lt (g := gb270) (o := .cells #[.int .i64 a0_0, .slice A0_1 l0_1.length c0_1, .slice A0_2 l0_2.length c0_2, .slice A0_3 l0_3.length c0_3, .slice A0_4 l0_4.length c0_4] 132 (0, 0)) (by first | exact Grow.bk BK270.out | exact BK270.out)) : gb270 ≠ gb271)); have n6_ := Aside0.mk ((by rw [hg]; exact Nat.ne_of_gt (blk_lt (g := gb270) (o := .cells #[.int .i64 a0_0, .slice A0_1 l0_1.length c0_1, .slice A0_2 l0_2.length c0_2, .slice A0_3 l0_3.length c0_3, .slice A0_4 l0_4.length c0_4] 132 (0, 0)) (by first | exact Grow.bk BK270.out | exact BK270.out)) : gb271 ≠ gb270)); clear BK270; clear HB; have BK270 := n0_; have HB := n1_; have BK271 := n2_; have GW271 := n3_; have GE271 := n4_; have NB270_271 := n5_; have NB271_270 := n6_; clear n0_ n1_ n2_ n3_ n4_ n5_ n6_; clear hb hbox hg))
 (try simp only [Act.put, List.setIfInBounds_toArray, List.set_cons_zero, List.set_cons_succ])
 go_cut [28] (fun v28 wc => ∃ (kq : Nat) (x28_2 : Bool), v28 = .bool x28_2 ∧ Aside0 (impl_Statement_fits.j0 kq x28_2 a0_0 l0_1 l0_2 l0_3 l0_4 a1_0 a1_1 a1_2 a1_3 a1_4 = some r) ∧ Aside0 (kq ≤ k) ∧ Aside0 (wc.heap[gb270]? = some (.cells #[.int .i64 a0_0, (.slice A0_1 l0_1.length c0_1), (.slice A0_2 l0_2.length c0_2), (.slice A0_3 l0_3.length c0_3), (.slice A0_4 l0_4.length c0_4)] 132 (0, 0))) ∧ Aside0 (wc.heap[gb271]? = some (.cells #[.string a1_0, .string a1_1, .string a1_2, .string a1_3, .int .i64 a1_4] 96 (0, 0))) ∧ Aside0 (Below w.heap.size w wc))
 case first =>
  have H := HC3.out
  clear HC3
  replace H := Option.bind_eq_some_iff.mp H
  obtain ⟨t272, A60, H⟩ := H
  replace H : (if t272 = true then ((impl_someFits.f k l0_2 a1_1).bind fun t273 => (if t273 = true then ((impl_someFits.f k l0_3 a1_2).bind fun t274 => (impl_Statement_fits.j0 k (!t274) a0_0 l0_1 l0_2 l0_3 l0_4 a1_0 a1_1 a1_2 a1_3 a1_4)) else (impl_Statement_fits.j0 k true a0_0 l0_1 l0_2 l0_3 l0_4 a1_0 a1_1 a1_2 a1_3 a1_4))) else (impl_Statement_fits.j0 k true a0_0 l0_1 l0_2 l0_3 l0_4 a1_0 a1_1 a1_2 a1_3 a1_4)) = some r := H
  have A6 := Aside0.mk A60
  clear A60
  by_cases c7 : t272 = true
  ·
   subst c7
   have H1 : ((impl_someFits.f k l0_2 a1_1).bind fun t273 => (if t273 = true then ((impl_someFits.f k l0_3 a1_2).bind fun t274 => (impl_Statement_fits.j0 k (!t274) a0_0 l0_1 l0_2 l0_3 l0_4 a1_0 a1_1 a1_2 a1_3 a1_4)) else (impl_Statement_fits.j0 k true a0_0 l0_1 l0_2 l0_3 l0_4 a1_0 a1_1 a1_2 a1_3 a1_4))) = some r := by rw [if_pos rfl] at H; exact H
   clear H
   have H := H1
   clear H1
   replace H := Option.bind_eq_some_iff.mp H
   obtain ⟨t273, A80, H⟩ := H
   replace H : (if t273 = true then ((impl_someFits.f k l0_3 a1_2).bind fun t274 => (impl_Statement_fits.j0 k (!t274) a0_0 l0_1 l0_2 l0_3 l0_4 a1_0 a1_1 a1_2 a1_3 a1_4)) else (impl_Statement_fits.j0 k true a0_0 l0_1 l0_2 l0_3 l0_4 a1_0 a1_1 a1_2 a1_3 a1_4)) = some r := H
   have A8 := Aside0.mk A80
   clear A80
   by_cases c9 : t273 = true
   ·
    subst c9
    have H1 : ((impl_someFits.f k l0_3 a1_2).bind fun t274 => (impl_Statement_fits.j0 k (!t274) a0_0 l0_1 l0_2 l0_3 l0_4 a1_0 a1_1 a1_2 a1_3 a1_4)) = some r := by rw [if_pos rfl] at H; exact H
    clear H
    have H := H1
    clear H1
    replace H := Option.bind_eq_some_iff.mp H
    obtain ⟨t274, A100, H⟩ := H
    replace H : (impl_Statement_fits.j0 k (!t274) a0_0 l0_1 l0_2 l0_3 l0_4 a1_0 a1_1 a1_2 a1_3 a1_4) = some r := H
    have A10 := Aside0.mk A100
    clear A100
    have H' := Aside0.mk H
    clear H
    have hnb11 := NB270_271.out
    have hnc11 := NB271_270.out
    have hcz12_0 : w5.cell? ⟨gb270, 0, none⟩ = some (.int .i64 a0_0) := (blk_cell BK270.out 0).trans rfl
    have hcz12_1 : w5.cell? ⟨gb270, 1, none⟩ = some (.slice A0_1 l0_1.length c0_1) := (blk_cell BK270.out 1).trans rfl
    have hcz12_2 : w5.cell? ⟨gb270, 2, none⟩ = some (.slice A0_2 l0_2.length c0_2) := (blk_cell BK270.out 2).trans rfl
    have hcz12_3 : w5.cell? ⟨gb270, 3, none⟩ = some (.slice A0_3 l0_3.length c0_3) := (blk_cell BK270.out 3).trans rfl
    have hcz12_4 : w5.cell? ⟨gb270, 4, none⟩ = some (.slice A0_4 l0_4.length c0_4) := (blk_cell BK270.out 4).trans rfl
    have hfz12_0 := blk_frozen BK270.out 0
    have hfz12_1 := blk_frozen BK270.out 1
    have hfz12_2 := blk_frozen BK270.out 2
    have hfz12_3 := blk_frozen BK270.out 3
    have hfz12_4 := blk_frozen BK270.out 4
    have hcz13_0 : w5.cell? ⟨gb271, 0, none⟩ = some (.string a1_0) := (blk_cell BK271.out 0).trans rfl
    have hcz13_1 : w5.cell? ⟨gb271, 1, none⟩ = some (.string a1_1) := (blk_cell BK271.out 1).trans rfl
    have hcz13_2 : w5.cell? ⟨gb271, 2, none⟩ = some (.string a1_2) := (blk_cell BK271.out 2).trans rfl
    have hcz13_3 : w5.cell? ⟨gb271, 3, none⟩ = some (.string a1_3) := (blk_cell BK271.out 3).trans rfl
    have hcz13_4 : w5.cell? ⟨gb271, 4, none⟩ = some (.int .i64 a1_4) := (blk_cell BK271.out 4).trans rfl
    have hfz13_0 := blk_frozen BK271.out 0
    have hfz13_1 := blk_frozen BK271.out 1
    have hfz13_2 := blk_frozen BK271.out 2
    have hfz13_3 := blk_frozen BK271.out 3
    have hfz13_4 := blk_frozen BK271.out 4
    go_wp2_with (first | ((with_reducible refine gate_callee (f := 124) rfl ?_); refine goesL_ (some 11) rfl rfl Try.func124 (by kernel_rfl) rfl #[.slice A0_1 l0_1.length c0_1, .string a1_0] rfl (by (try simp only [List.map_toArray, List.map_cons, List.map_nil]); first | done | rfl | (simp only [List.length_drop, List.length_take]; rfl)) ?_; (with_reducible refine (impl_someFits.calls k _ _ l0_1 a1_0 true _ ?side1 ?side2 A6.out).mono ?_); (case side1 => first | exact Grow.cb HR0_1.out HB.out | exact Kd.C_below HR0_1.out HB.out); (case side2 => exact HC0_1.out); rintro e w14 ⟨rfl, hb⟩; refine ⟨_, rfl, ?_⟩; have n0_ := Aside0.mk (blk_below (g := gb270) (o := .cells #[.int .i64 a0_0, .slice A0_1 l0_1.length c0_1, .slice A0_2 l0_2.length c0_2, .slice A0_3 l0_3.length c0_3, .slice A0_4 l0_4.length c0_4] 132 (0, 0)) (by first | exact Grow.bk BK270.out | exact BK270.out) hb); have n1_ := Aside0.mk (blk_below (g := gb271) (o := .cells #[.string a1_0, .string a1_1, .string a1_2, .string a1_3, .int .i64 a1_4] 96 (0, 0)) (by first | exact Grow.bk BK271.out | exact BK271.out) hb); have n2_ := Aside0.mk (below_step (by repeat (first | (with_reducible first | exact HB.out | apply below_alloc | apply pw_below_drewN | apply below_drew1 | refine below_set ?_ GE270.out | refine below_set ?_ GE271.out) | exact HB.out)) hb); clear BK270; clear BK271; clear HB; have BK270 := n0_; have BK271 := n1_; have HB := n2_; clear n0_ n1_ n2_; (try clear hb); (try clear hb2); (try clear hk); (try clear hi); have hcz15_0 : w14.cell? ⟨gb270, 0, none⟩ = some (.int .i64 a0_0) := (blk_cell BK270.out 0).trans rfl; have hcz15_1 : w14.cell? ⟨gb270, 1, none⟩ = some (.slice A0_1 l0_1.length c0_1) := (blk_cell BK270.out 1).trans rfl; have hcz15_2 : w14.cell? ⟨gb270, 2, none⟩ = some (.slice A0_2 l0_2.length c0_2) := (blk_cell BK270.out 2).trans rfl; have hcz15_3 : w14.cell? ⟨gb270, 3, none⟩ = some (.slice A0_3 l0_3.length c0_3) := (blk_cell BK270.out 3).trans rfl; have hcz15_4 : w14.cell? ⟨gb270, 4, none⟩ = some (.slice A0_4 l0_4.length c0_4) := (blk_cell BK270.out 4).trans rfl; have hfz15_0 := blk_frozen BK270.out 0; have hfz15_1 := blk_frozen BK270.out 1; have hfz15_2 := blk_frozen BK270.out 2; have hfz15_3 := blk_frozen BK270.out 3; have hfz15_4 := blk_frozen BK270.out 4; have hcz16_0 : w14.cell? ⟨gb271, 0, none⟩ = some (.string a1_0) := (blk_cell BK271.out 0).trans rfl; have hcz16_1 : w14.cell? ⟨gb271, 1, none⟩ = some (.string a1_1) := (blk_cell BK271.out 1).trans rfl; have hcz16_2 : w14.cell? ⟨gb271, 2, none⟩ = some (.string a1_2) := (blk_cell BK271.out 2).trans rfl; have hcz16_3 : w14.cell? ⟨gb271, 3, none⟩ = some (.string a1_3) := (blk_cell BK271.out 3).trans rfl; have hcz16_4 : w14.cell? ⟨gb271, 4, none⟩ = some (.int .i64 a1_4) := (blk_cell BK271.out 4).trans rfl; have hfz16_0 := blk_frozen BK271.out 0; have hfz16_1 := blk_frozen BK271.out 1; have hfz16_2 := blk_frozen BK271.out 2; have hfz16_3 := blk_frozen BK271.out 3; have hfz16_4 := blk_frozen BK271.out 4) | (go_at_call 124; (with_reducible refine (impl_someFits.calls k _ _ l0_2 a1_1 true _ ?side1 ?side2 A8.out).mono ?_); (case side1 => first | exact Grow.cb HR0_2.out HB.out | exact Kd.C_below HR0_2.out HB.out); (case side2 => exact HC0_2.out); rintro e w17 ⟨rfl, hb⟩; have n0_ := Aside0.mk (blk_below (g := gb270) (o := .cells #[.int .i64 a0_0, .slice A0_1 l0_1.length c0_1, .slice A0_2 l0_2.length c0_2, .slice A0_3 l0_3.length c0_3, .slice A0_4 l0_4.length c0_4] 132 (0, 0)) (by first | exact Grow.bk BK270.out | exact BK270.out) hb); have n1_ := Aside0.mk (blk_below (g := gb271) (o := .cells #[.string a1_0, .string a1_1, .string a1_2, .string a1_3, .int .i64 a1_4] 96 (0, 0)) (by first | exact Grow.bk BK271.out | exact BK271.out) hb); have n2_ := Aside0.mk (below_step (by repeat (first | (with_reducible first | exact HB.out | apply below_alloc | apply pw_below_drewN | apply below_drew1 | refine below_set ?_ GE270.out | refine below_set ?_ GE271.out) | exact HB.out)) hb); clear BK270; clear BK271; clear HB; have BK270 := n0_; have BK271 := n1_; have HB := n2_; clear n0_ n1_ n2_; (try clear hb); (try clear hb2); (try clear hk); (try clear hi); have hcz18_0 : w17.cell? ⟨gb270, 0, none⟩ = some (.int .i64 a0_0) := (blk_cell BK270.out 0).trans rfl; have hcz18_1 : w17.cell? ⟨gb270, 1, none⟩ = some (.slice A0_1 l0_1.length c0_1) := (blk_cell BK270.out 1).trans rfl; have hcz18_2 : w17.cell? ⟨gb270, 2, none⟩ = some (.slice A0_2 l0_2.length c0_2) := (blk_cell BK270.out 2).trans rfl; have hcz18_3 : w17.cell? ⟨gb270, 3, none⟩ = some (.slice A0_3 l0_3.length c0_3) := (blk_cell BK270.out 3).trans rfl; have hcz18_4 : w17.cell? ⟨gb270, 4, none⟩ = some (.slice A0_4 l0_4.length c0_4) := (blk_cell BK270.out 4).trans rfl; have hfz18_0 := blk_frozen BK270.out 0; have hfz18_1 := blk_frozen BK270.out 1; have hfz18_2 := blk_frozen BK270.out 2; have hfz18_3 := blk_frozen BK270.out 3; have hfz18_4 := blk_frozen BK270.out 4; have hcz19_0 : w17.cell? ⟨gb271, 0, none⟩ = some (.string a1_0) := (blk_cell BK271.out 0).trans rfl; have hcz19_1 : w17.cell? ⟨gb271, 1, none⟩ = some (.string a1_1) := (blk_cell BK271.out 1).trans rfl; have hcz19_2 : w17.cell? ⟨gb271, 2, none⟩ = some (.string a1_2) := (blk_cell BK271.out 2).trans rfl; have hcz19_3 : w17.cell? ⟨gb271, 3, none⟩ = some (.string a1_3) := (blk_cell BK271.out 3).trans rfl; have hcz19_4 : w17.cell? ⟨gb271, 4, none⟩ = some (.int .i64 a1_4) := (blk_cell BK271.out 4).trans rfl; have hfz19_0 := blk_frozen BK271.out 0; have hfz19_1 := blk_frozen BK271.out 1; have hfz19_2 := blk_frozen BK271.out 2; have hfz19_3 := blk_frozen BK271.out 3; have hfz19_4 := blk_frozen BK271.out 4) | (go_at_call 124; (with_reducible refine (impl_someFits.calls k _ _ l0_3 a1_2 t274 _ ?side1 ?side2 A10.out).mono ?_); (case side1 => first | exact Grow.cb HR0_3.out HB.out | exact Kd.C_below HR0_3.out HB.out); (case side2 => exact HC0_3.out); rintro e w20 ⟨rfl, hb⟩; have n0_ := Aside0.mk (blk_below (g := gb270) (o := .cells #[.int .i64 a0_0, .slice A0_1 l0_1.length c0_1, .slice A0_2 l0_2.length c0_2, .slice A0_3 l0_3.length c0_3, .slice A0_4 l0_4.length c0_4] 132 (0, 0)) (by first | exact Grow.bk BK270.out | exact BK270.out) hb); have n1_ := Aside0.mk (blk_below (g := gb271) (o := .cells #[.string a1_0, .string a1_1, .string a1_2, .string a1_3, .int .i64 a1_4] 96 (0, 0)) (by first | exact Grow.bk BK271.out | exact BK271.out) hb); have n2_ := Aside0.mk (below_step (by repeat (first | (with_reducible first | exact HB.out | apply below_alloc | apply pw_below_drewN | apply below_drew1 | refine below_set ?_ GE270.out | refine below_set ?_ GE271.out) | exact HB.out)) hb); clear BK270; clear BK271; clear HB; have BK270 := n0_; have BK271 := n1_; have HB := n2_; clear n0_ n1_ n2_; (try clear hb); (try clear hb2); (try clear hk); (try clear hi)))
    go_meet
    case rel => exact ⟨_, (!t274), (by first | rfl | (simp; done) | (simp [*]; done)), H', ⟨by first | omega | exact Nat.le_refl _⟩, ⟨by first | exact Grow.bk BK270.out | exact BK270.out⟩, ⟨by first | exact Grow.bk BK271.out | exact BK271.out⟩, ⟨by repeat (first | (with_reducible first | exact HB.out | apply below_alloc | apply pw_below_drewN | apply below_drew1 | refine below_set ?_ GE270.out | refine below_set ?_ GE271.out) | exact HB.out)⟩⟩
   ·
    replace c9 := Bool.eq_false_iff.mpr c9
    subst c9
    have H1 : (impl_Statement_fits.j0 k true a0_0 l0_1 l0_2 l0_3 l0_4 a1_0 a1_1 a1_2 a1_3 a1_4) = some r := by rw [if_neg (show ¬ (false = true) by decide)] at H; exact H
    clear H
    have H := H1
    clear H1
    have H' := Aside0.mk H
    clear H
    have hnb21 := NB270_271.out
    have hnc21 := NB271_270.out
    have hcz22_0 : w5.cell? ⟨gb270, 0, none⟩ = some (.int .i64 a0_0) := (blk_cell BK270.out 0).trans rfl
    have hcz22_1 : w5.cell? ⟨gb270, 1, none⟩ = some (.slice A0_1 l0_1.length c0_1) := (blk_cell BK270.out 1).trans rfl
    have hcz22_2 : w5.cell? ⟨gb270, 2, none⟩ = some (.slice A0_2 l0_2.length c0_2) := (blk_cell BK270.out 2).trans rfl
    have hcz22_3 : w5.cell? ⟨gb270, 3, none⟩ = some (.slice A0_3 l0_3.length c0_3) := (blk_cell BK270.out 3).trans rfl
    have hcz22_4 : w5.cell? ⟨gb270, 4, none⟩ = some (.slice A0_4 l0_4.length c0_4) := (blk_cell BK270.out 4).trans rfl
    have hfz22_0 := blk_frozen BK270.out 0
    have hfz22_1 := blk_frozen BK270.out 1
    have hfz22_2 := blk_frozen BK270.out 2
    have hfz22_3 := blk_frozen BK270.out 3
    have hfz22_4 := blk_frozen BK270.out 4
    have hcz23_0 : w5.cell? ⟨gb271, 0, none⟩ = some (.string a1_0) := (blk_cell BK271.out 0).trans rfl
    have hcz23_1 : w5.cell? ⟨gb271, 1, none⟩ = some (.string a1_1) := (blk_cell BK271.out 1).trans rfl
    have hcz23_2 : w5.cell? ⟨gb271, 2, none⟩ = some (.string a1_2) := (blk_cell BK271.out 2).trans rfl
    have hcz23_3 : w5.cell? ⟨gb271, 3, none⟩ = some (.string a1_3) := (blk_cell BK271.out 3).trans rfl
    have hcz23_4 : w5.cell? ⟨gb271, 4, none⟩ = some (.int .i64 a1_4) := (blk_cell BK271.out 4).trans rfl
    have hfz23_0 := blk_frozen BK271.out 0
    have hfz23_1 := blk_frozen BK271.out 1
    have hfz23_2 := blk_frozen BK271.out 2
    have hfz23_3 := blk_frozen BK271.out 3
    have hfz23_4 := blk_frozen BK271.out 4
    go_wp2_with (first | ((with_reducible refine gate_callee (f := 124) rfl ?_); refine goesL_ (some 11) rfl rfl Try.func124 (by kernel_rfl) rfl #[.slice A0_1 l0_1.length c0_1, .string a1_0] rfl (by (try simp only [List.map_toArray, List.map_cons, List.map_nil]); first | done | rfl | (simp only [List.length_drop, List.length_take]; rfl)) ?_; (with_reducible refine (impl_someFits.calls k _ _ l0_1 a1_0 true _ ?side1 ?side2 A6.out).mono ?_); (case side1 => first | exact Grow.cb HR0_1.out HB.out | exact Kd.C_below HR0_1.out HB.out); (case side2 => exact HC0_1.out); rintro e w24 ⟨rfl, hb⟩; refine ⟨_, rfl, ?_⟩; have n0_ := Aside0.mk (blk_below (g := gb270) (o := .cells #[.int .i64 a0_0, .slice A0_1 l0_1.length c0_1, .slice A0_2 l0_2.length c0_2, .slice A0_3 l0_3.length c0_3, .slice A0_4 l0_4.length c0_4] 132 (0, 0)) (by first | exact Grow.bk BK270.out | exact BK270.out) hb); have n1_ := Aside0.mk (blk_below (g := gb271) (o := .cells #[.string a1_0, .string a1_1, .string a1_2, .string a1_3, .int .i64 a1_4] 96 (0, 0)) (by first | exact Grow.bk BK271.out | exact BK271.out) hb); have n2_ := Aside0.mk (below_step (by repeat (first | (with_reducible first | exact HB.out | apply below_alloc | apply pw_below_drewN | apply below_drew1 | refine below_set ?_ GE270.out | refine below_set ?_ GE271.out) | exact HB.out)) hb); clear BK270; clear BK271; clear HB; have BK270 := n0_; have BK271 := n1_; have HB := n2_; clear n0_ n1_ n2_; (try clear hb); (try clear hb2); (try clear hk); (try clear hi); have hcz25_0 : w24.cell? ⟨gb270, 0, none⟩ = some (.int .i64 a0_0) := (blk_cell BK270.out 0).trans rfl; have hcz25_1 : w24.cell? ⟨gb270, 1, none⟩ = some (.slice A0_1 l0_1.length c0_1) := (blk_cell BK270.out 1).trans rfl; have hcz25_2 : w24.cell? ⟨gb270, 2, none⟩ = some (.slice A0_2 l0_2.length c0_2) := (blk_cell BK270.out 2).trans rfl; have hcz25_3 : w24.cell? ⟨gb270, 3, none⟩ = some (.slice A0_3 l0_3.length c0_3) := (blk_cell BK270.out 3).trans rfl; have hcz25_4 : w24.cell? ⟨gb270, 4, none⟩ = some (.slice A0_4 l0_4.length c0_4) := (blk_cell BK270.out 4).trans rfl; have hfz25_0 := blk_frozen BK270.out 0; have hfz25_1 := blk_frozen BK270.out 1; have hfz25_2 := blk_frozen BK270.out 2; have hfz25_3 := blk_frozen BK270.out 3; have hfz25_4 := blk_frozen BK270.out 4; have hcz26_0 : w24.cell? ⟨gb271, 0, none⟩ = some (.string a1_0) := (blk_cell BK271.out 0).trans rfl; have hcz26_1 : w24.cell? ⟨gb271, 1, none⟩ = some (.string a1_1) := (blk_cell BK271.out 1).trans rfl; have hcz26_2 : w24.cell? ⟨gb271, 2, none⟩ = some (.string a1_2) := (blk_cell BK271.out 2).trans rfl; have hcz26_3 : w24.cell? ⟨gb271, 3, none⟩ = some (.string a1_3) := (blk_cell BK271.out 3).trans rfl; have hcz26_4 : w24.cell? ⟨gb271, 4, none⟩ = some (.int .i64 a1_4) := (blk_cell BK271.out 4).trans rfl; have hfz26_0 := blk_frozen BK271.out 0; have hfz26_1 := blk_frozen BK271.out 1; have hfz26_2 := blk_frozen BK271.out 2; have hfz26_3 := blk_frozen BK271.out 3; have hfz26_4 := blk_frozen BK271.out 4) | (go_at_call 124; (with_reducible refine (impl_someFits.calls k _ _ l0_2 a1_1 false _ ?side1 ?side2 A8.out).mono ?_); (case side1 => first | exact Grow.cb HR0_2.out HB.out | exact Kd.C_below HR0_2.out HB.out); (case side2 => exact HC0_2.out); rintro e w27 ⟨rfl, hb⟩; have n0_ := Aside0.mk (blk_below (g := gb270) (o := .cells #[.int .i64 a0_0, .slice A0_1 l0_1.length c0_1, .slice A0_2 l0_2.length c0_2, .slice A0_3 l0_3.length c0_3, .slice A0_4 l0_4.length c0_4] 132 (0, 0)) (by first | exact Grow.bk BK270.out | exact BK270.out) hb); have n1_ := Aside0.mk (blk_below (g := gb271) (o := .cells #[.string a1_0, .string a1_1, .string a1_2, .string a1_3, .int .i64 a1_4] 96 (0, 0)) (by first | exact Grow.bk BK271.out | exact BK271.out) hb); have n2_ := Aside0.mk (below_step (by repeat (first | (with_reducible first | exact HB.out | apply below_alloc | apply pw_below_drewN | apply below_drew1 | refine below_set ?_ GE270.out | refine below_set ?_ GE271.out) | exact HB.out)) hb); clear BK270; clear BK271; clear HB; have BK270 := n0_; have BK271 := n1_; have HB := n2_; clear n0_ n1_ n2_; (try clear hb); (try clear hb2); (try clear hk); (try clear hi)))
    go_meet
    case rel => exact ⟨_, (true), (by first | rfl | (simp; done) | (simp [*]; done)), H', ⟨by first | omega | exact Nat.le_refl _⟩, ⟨by first | exact Grow.bk BK270.out | exact BK270.out⟩, ⟨by first | exact Grow.bk BK271.out | exact BK271.out⟩, ⟨by repeat (first | (with_reducible first | exact HB.out | apply below_alloc | apply pw_below_drewN | apply below_drew1 | refine below_set ?_ GE270.out | refine below_set ?_ GE271.out) | exact HB.out)⟩⟩
  ·
   replace c7 := Bool.eq_false_iff.mpr c7
   subst c7
   have H1 : (impl_Statement_fits.j0 k true a0_0 l0_1 l0_2 l0_3 l0_4 a1_0 a1_1 a1_2 a1_3 a1_4) = some r := by rw [if_neg (show ¬ (false = true) by decide)] at H; exact H
   clear H
   have H := H1
   clear H1
   have H' := Aside0.mk H
   clear H
   have hnb28 := NB270_271.out
   have hnc28 := NB271_270.out
   have hcz29_0 : w5.cell? ⟨gb270, 0, none⟩ = some (.int .i64 a0_0) := (blk_cell BK270.out 0).trans rfl
   have hcz29_1 : w5.cell? ⟨gb270, 1, none⟩ = some (.slice A0_1 l0_1.length c0_1) := (blk_cell BK270.out 1).trans rfl
   have hcz29_2 : w5.cell? ⟨gb270, 2, none⟩ = some (.slice A0_2 l0_2.length c0_2) := (blk_cell BK270.out 2).trans rfl
   have hcz29_3 : w5.cell? ⟨gb270, 3, none⟩ = some (.slice A0_3 l0_3.length c0_3) := (blk_cell BK270.out 3).trans rfl
   have hcz29_4 : w5.cell? ⟨gb270, 4, none⟩ = some (.slice A0_4 l0_4.length c0_4) := (blk_cell BK270.out 4).trans rfl
   have hfz29_0 := blk_frozen BK270.out 0
   have hfz29_1 := blk_frozen BK270.out 1
   have hfz29_2 := blk_frozen BK270.out 2
   have hfz29_3 := blk_frozen BK270.out 3
   have hfz29_4 := blk_frozen BK270.out 4
   have hcz30_0 : w5.cell? ⟨gb271, 0, none⟩ = some (.string a1_0) := (blk_cell BK271.out 0).trans rfl
   have hcz30_1 : w5.cell? ⟨gb271, 1, none⟩ = some (.string a1_1) := (blk_cell BK271.out 1).trans rfl
   have hcz30_2 : w5.cell? ⟨gb271, 2, none⟩ = some (.string a1_2) := (blk_cell BK271.out 2).trans rfl
   have hcz30_3 : w5.cell? ⟨gb271, 3, none⟩ = some (.string a1_3) := (blk_cell BK271.out 3).trans rfl
   have hcz30_4 : w5.cell? ⟨gb271, 4, none⟩ = some (.int .i64 a1_4) := (blk_cell BK271.out 4).trans rfl
   have hfz30_0 := blk_frozen BK271.out 0
   have hfz30_1 := blk_frozen BK271.out 1
   have hfz30_2 := blk_frozen BK271.out 2
   have hfz30_3 := blk_frozen BK271.out 3
   have hfz30_4 := blk_frozen BK271.out 4
   go_wp2_with (first | ((with_reducible refine gate_callee (f := 124) rfl ?_); refine goesL_ (some 11) rfl rfl Try.func124 (by kernel_rfl) rfl #[.slice A0_1 l0_1.length c0_1, .string a1_0] rfl (by (try simp only [List.map_toArray, List.map_cons, List.map_nil]); first | done | rfl | (simp only [List.length_drop, List.length_take]; rfl)) ?_; (with_reducible refine (impl_someFits.calls k _ _ l0_1 a1_0 false _ ?side1 ?side2 A6.out).mono ?_); (case side1 => first | exact Grow.cb HR0_1.out HB.out | exact Kd.C_below HR0_1.out HB.out); (case side2 => exact HC0_1.out); rintro e w31 ⟨rfl, hb⟩; refine ⟨_, rfl, ?_⟩; have n0_ := Aside0.mk (blk_below (g := gb270) (o := .cells #[.int .i64 a0_0, .slice A0_1 l0_1.length c0_1, .slice A0_2 l0_2.length c0_2, .slice A0_3 l0_3.length c0_3, .slice A0_4 l0_4.length c0_4] 132 (0, 0)) (by first | exact Grow.bk BK270.out | exact BK270.out) hb); have n1_ := Aside0.mk (blk_below (g := gb271) (o := .cells #[.string a1_0, .string a1_1, .string a1_2, .string a1_3, .int .i64 a1_4] 96 (0, 0)) (by first | exact Grow.bk BK271.out | exact BK271.out) hb); have n2_ := Aside0.mk (below_step (by repeat (first | (with_reducible first | exact HB.out | apply below_alloc | apply pw_below_drewN | apply below_drew1 | refine below_set ?_ GE270.out | refine below_set ?_ GE271.out) | exact HB.out)) hb); clear BK270; clear BK271; clear HB; have BK270 := n0_; have BK271 := n1_; have HB := n2_; clear n0_ n1_ n2_; (try clear hb); (try clear hb2); (try clear hk); (try clear hi)))
   go_meet
   case rel => exact ⟨_, (true), (by first | rfl | (simp; done) | (simp [*]; done)), H', ⟨by first | omega | exact Nat.le_refl _⟩, ⟨by first | exact Grow.bk BK270.out | exact BK270.out⟩, ⟨by first | exact Grow.bk BK271.out | exact BK271.out⟩, ⟨by repeat (first | (with_reducible first | exact HB.out | apply below_alloc | apply pw_below_drewN | apply below_drew1 | refine below_set ?_ GE270.out | refine below_set ?_ GE271.out) | exact HB.out)⟩⟩
 case rest =>
  clear HC3
  try clear c1
  try clear c2
  try clear p2
  try clear c7
  try clear c9
  try clear c11
  try clear c12
  try clear c21
  try clear c28
  try clear hcz12_0
  try clear hcz12_1
  try clear hcz12_2
  try clear hcz12_3
  try clear hcz12_4
  try clear hcz13_0
  try clear hcz13_1
  try clear hcz13_2
  try clear hcz13_3
  try clear hcz13_4
  try clear hcz15_0
  try clear hcz15_1
  try clear hcz15_2
  try clear hcz15_3
  try clear hcz15_4
  try clear hcz16_0
  try clear hcz16_1
  try clear hcz16_2
  try clear hcz16_3
  try clear hcz16_4
  try clear hcz18_0
  try clear hcz18_1
  try clear hcz18_2
  try clear hcz18_3
  try clear hcz18_4
  try clear hcz19_0
  try clear hcz19_1
  try clear hcz19_2
  try clear hcz19_3
  try clear hcz19_4
  try clear hcz22_0
  try clear hcz22_1
  try clear hcz22_2
  try clear hcz22_3
  try clear hcz22_4
  try clear hcz23_0
  try clear hcz23_1
  try clear hcz23_2
  try clear hcz23_3
  try clear hcz23_4
  try clear hcz25_0
  try clear hcz25_1
  try clear hcz25_2
  try clear hcz25_3
  try clear hcz25_4
  try clear hcz26_0
  try clear hcz26_1
  try clear hcz26_2
  try clear hcz26_3
  try clear hcz26_4
  try clear hcz29_0
  try clear hcz29_1
  try clear hcz29_2
  try clear hcz29_3
  try clear hcz29_4
  try clear hcz30_0
  try clear hcz30_1
  try clear hcz30_2
  try clear hcz30_3
  try clear hcz30_4
  try clear hfz12_0
  try clear hfz12_1
  try clear hfz12_2
  try clear hfz12_3
  try clear hfz12_4
  try clear hfz13_0
  try clear hfz13_1
  try clear hfz13_2
  try clear hfz13_3
  try clear hfz13_4
  try clear hfz15_0
  try clear hfz15_1
  try clear hfz15_2
  try clear hfz15_3
  try clear hfz15_4
  try clear hfz16_0
  try clear hfz16_1
  try clear hfz16_2
  try clear hfz16_3
  try clear hfz16_4
  try clear hfz18_0
  try clear hfz18_1
  try clear hfz18_2
  try clear hfz18_3
  try clear hfz18_4
  try clear hfz19_0
  try clear hfz19_1
  try clear hfz19_2
  try clear hfz19_3
  try clear hfz19_4
  try clear hfz22_0
  try clear hfz22_1
  try clear hfz22_2
  try clear hfz22_3
  try clear hfz22_4
  try clear hfz23_0
  try clear hfz23_1
  try clear hfz23_2
  try clear hfz23_3
  try clear hfz23_4
  try clear hfz25_0
  try clear hfz25_1
  try clear hfz25_2
  try clear hfz25_3
  try clear hfz25_4
  try clear hfz26_0
  try clear hfz26_1
  try clear hfz26_2
  try clear hfz26_3
  try clear hfz26_4
  try clear hfz29_0
  try clear hfz29_1
  try clear hfz29_2
  try clear hfz29_3
  try clear hfz29_4
  try clear hfz30_0
  try clear hfz30_1
  try clear hfz30_2
  try clear hfz30_3
  try clear hfz30_4
  obtain ⟨kq, x28_2, rfl, HA, HJ2, BK270, BK271, HB⟩ := hcut
  cases kq with
  | zero => exact absurd HA.out (by simp [impl_Statement_fits.j0])
  | succ kj2 =>
   have H := HA.out
   clear HA
   simp only [impl_Statement_fits.j0] at H
   by_cases c32 : x28_2 = true
   ·
    subst c32
    have H1 : (some false) = some r := by rw [if_pos rfl] at H; exact H
    clear H
    have H := H1
    clear H1
    obtain rfl := Option.some.inj H
    go_wp2
    go_ret
    exact ⟨by first | rfl | (simp [errW_none, errW_some] <;> rfl) | (simp [*, errW_none, errW_some] <;> rfl), by repeat (first | (with_reducible first | exact HB.out | apply below_alloc | apply pw_below_drewN | apply below_drew1 | refine below_set ?_ GE270.out | refine below_set ?_ GE271.out) | exact HB.out)⟩
   ·
    replace c32 := Bool.eq_false_iff.mpr c32
    subst c32
    have H1 : (impl_Statement_fits.l0 kj2 l0_4 (l0_4.length : Int) 0 a1_0 a1_1 a1_2 a1_3 a1_4) = some r := by rw [if_neg (show ¬ (false = true) by decide)] at H; exact H
    clear H
    have H := H1
    clear H1
    have H' := Aside0.mk H
    clear H
    have hnb33 := NB270_271.out
    have hnc33 := NB271_270.out
    have hcz34_0 : wc.cell? ⟨gb270, 0, none⟩ = some (.int .i64 a0_0) := (blk_cell BK270.out 0).trans rfl
    have hcz34_1 : wc.cell? ⟨gb270, 1, none⟩ = some (.slice A0_1 l0_1.length c0_1) := (blk_cell BK270.out 1).trans rfl
    have hcz34_2 : wc.cell? ⟨gb270, 2, none⟩ = some (.slice A0_2 l0_2.length c0_2) := (blk_cell BK270.out 2).trans rfl
    have hcz34_3 : wc.cell? ⟨gb270, 3, none⟩ = some (.slice A0_3 l0_3.length c0_3) := (blk_cell BK270.out 3).trans rfl
    have hcz34_4 : wc.cell? ⟨gb270, 4, none⟩ = some (.slice A0_4 l0_4.length c0_4) := (blk_cell BK270.out 4).trans rfl
    have hfz34_0 := blk_frozen BK270.out 0
    have hfz34_1 := blk_frozen BK270.out 1
    have hfz34_2 := blk_frozen BK270.out 2
    have hfz34_3 := blk_frozen BK270.out 3
    have hfz34_4 := blk_frozen BK270.out 4
    go_wp2
    go_loopg [32] kj2 (fun kq v32 w' => ∃ (x32_2 : Int), v32 = .int .i64 x32_2 ∧ Aside0 (impl_Statement_fits.l0 kq l0_4 (l0_4.length : Int) x32_2 a1_0 a1_1 a1_2 a1_3 a1_4 = some r) ∧ Aside0 (kq ≤ kj2) ∧ Aside0 (w'.heap[gb270]? = some (.cells #[.int .i64 a0_0, (.slice A0_1 l0_1.length c0_1), (.slice A0_2 l0_2.length c0_2), (.slice A0_3 l0_3.length c0_3), (.slice A0_4 l0_4.length c0_4)] 132 (0, 0))) ∧ Aside0 (w'.heap[gb271]? = some (.cells #[.string a1_0, .string a1_1, .string a1_2, .string a1_3, .int .i64 a1_4] 96 (0, 0))) ∧ Aside0 (Below w.heap.size w w'))
    case atStart => exact ⟨(0), (by first | rfl | (simp; done) | (simp [*]; done)), H', ⟨Nat.le_refl _⟩, ⟨by first | exact Grow.bk BK270.out | exact BK270.out⟩, ⟨by first | exact Grow.bk BK271.out | exact BK271.out⟩, ⟨by repeat (first | (with_reducible first | exact HB.out | apply below_alloc | apply pw_below_drewN | apply below_drew1 | refine below_set ?_ GE270.out | refine below_set ?_ GE271.out) | exact HB.out)⟩⟩
    case round =>
     clear H'
     try clear c1
     try clear c2
     try clear p2
     try clear c3
     try clear c7
     try clear c9
     try clear c11
     try clear c12
     try clear c21
     try clear c28
     try clear c32
     try clear c33
     try clear hcz12_0
     try clear hcz12_1
     try clear hcz12_2
     try clear hcz12_3
     try clear hcz12_4
     try clear hcz13_0
     try clear hcz13_1
     try clear hcz13_2
     try clear hcz13_3
     try clear hcz13_4
     try clear hcz15_0
     try clear hcz15_1
     try clear hcz15_2
     try clear hcz15_3
     try clear hcz15_4
     try clear hcz16_0
     try clear hcz16_1
     try clear hcz16_2
     try clear hcz16_3
     try clear hcz16_4
     try clear hcz18_0
     try clear hcz18_1
     try clear hcz18_2
     try clear hcz18_3
     try clear hcz18_4
     try clear hcz19_0
     try clear hcz19_1
     try clear hcz19_2
     try clear hcz19_3
     try clear hcz19_4
     try clear hcz22_0
     try clear hcz22_1
     try clear hcz22_2
     try clear hcz22_3
     try clear hcz22_4
     try clear hcz23_0
     try clear hcz23_1
     try clear hcz23_2
     try clear hcz23_3
     try clear hcz23_4
     try clear hcz25_0
     try clear hcz25_1
     try clear hcz25_2
     try clear hcz25_3
     try clear hcz25_4
     try clear hcz26_0
     try clear hcz26_1
     try clear hcz26_2
     try clear hcz26_3
     try clear hcz26_4
     try clear hcz29_0
     try clear hcz29_1
     try clear hcz29_2
     try clear hcz29_3
     try clear hcz29_4
     try clear hcz30_0
     try clear hcz30_1
     try clear hcz30_2
     try clear hcz30_3
     try clear hcz30_4
     try clear hcz34_0
     try clear hcz34_1
     try clear hcz34_2
     try clear hcz34_3
     try clear hcz34_4
     try clear hfz12_0
     try clear hfz12_1
     try clear hfz12_2
     try clear hfz12_3
     try clear hfz12_4
     try clear hfz13_0
     try clear hfz13_1
     try clear hfz13_2
     try clear hfz13_3
     try clear hfz13_4
     try clear hfz15_0
     try clear hfz15_1
     try clear hfz15_2
     try clear hfz15_3
     try clear hfz15_4
     try clear hfz16_0
     try clear hfz16_1
     try clear hfz16_2
     try clear hfz16_3
     try clear hfz16_4
     try clear hfz18_0
     try clear hfz18_1
     try clear hfz18_2
     try clear hfz18_3
     try clear hfz18_4
     try clear hfz19_0
     try clear hfz19_1
     try clear hfz19_2
     try clear hfz19_3
     try clear hfz19_4
     try clear hfz22_0
     try clear hfz22_1
     try clear hfz22_2
     try clear hfz22_3
     try clear hfz22_4
     try clear hfz23_0
     try clear hfz23_1
     try clear hfz23_2
     try clear hfz23_3
     try clear hfz23_4
     try clear hfz25_0
     try clear hfz25_1
     try clear hfz25_2
     try clear hfz25_3
     try clear hfz25_4
     try clear hfz26_0
     try clear hfz26_1
     try clear hfz26_2
     try clear hfz26_3
     try clear hfz26_4
     try clear hfz29_0
     try clear hfz29_1
     try clear hfz29_2
     try clear hfz29_3
     try clear hfz29_4
     try clear hfz30_0
     try clear hfz30_1
     try clear hfz30_2
     try clear hfz30_3
     try clear hfz30_4
     try clear hfz34_0
     try clear hfz34_1
     try clear hfz34_2
     try clear hfz34_3
     try clear hfz34_4
     try clear p2
     obtain ⟨x32_2, rfl, HA, HK2, BK270, BK271, HB⟩ := hrel
     cases gk with
     | zero => exact absurd HA.out (by simp [impl_Statement_fits.l0])
     | succ k2 =>
      have H := HA.out
      clear HA
      simp only [impl_Statement_fits.l0] at H
      by_cases c35 : x32_2 < (l0_4.length : Int)
      ·
       rw [if_pos c35] at H
       have c35b0 : decide (x32_2 < (l0_4.length : Int)) = true := decide_eq_true c35
       clear c35
       by_cases c36 : 0 ≤ x32_2
       ·
        rw [if_pos c36] at H
        have c36b0 : decide (0 ≤ x32_2) = true := decide_eq_true c36
        clear c36
        by_cases c37 : x32_2 < (l0_4.length : Int)
        ·
         rw [if_pos c37] at H
         have c37b0 : decide (x32_2 < (l0_4.length : Int)) = true := decide_eq_true c37
         clear c37
         replace H := Option.bind_eq_some_iff.mp H
         obtain ⟨t277, A380, H⟩ := H
         replace H : (if t277 = true then (impl_Statement_fits.l0 k2 l0_4 (l0_4.length : Int) (wrap64 (x32_2 + 1)) a1_0 a1_1 a1_2 a1_3 a1_4) else (some false)) = some r := H
         have A38 := Aside0.mk A380
         clear A380
         by_cases c39 : t277 = true
         ·
          subst c39
          have H1 : (impl_Statement_fits.l0 k2 l0_4 (l0_4.length : Int) (wrap64 (x32_2 + 1)) a1_0 a1_1 a1_2 a1_3 a1_4) = some r := by rw [if_pos rfl] at H; exact H
          clear H
          have H := H1
          clear H1
          have H' := Aside0.mk H
          clear H
          have p275 : 0 ≤ (x32_2 : Int) := of_decide_eq_true (by first | (with_reducible assumption) | assumption)
          have q275 : x32_2 < (l0_4.length : Int) := of_decide_eq_true (by first | (with_reducible assumption) | assumption)
          obtain ⟨ad275, e275, hx275_0, hx275_1, hx275_2⟩ := at_T136 HR0_4.out x32_2 p275 q275
          cases e275
          replace hx275_0 := Grow.bc HB.out hx275_0
          replace hx275_1 := Grow.bc HB.out hx275_1
          replace hx275_2 := Grow.bc HB.out hx275_2
          replace p275 := eq_true p275
          replace q275 := eq_true q275
          try go_wp2_with (first | ((with_reducible refine gate_dst (N := 6) rfl ?_); refine box_event ?hg (N := 6) ?hd (cs := #[.int .i64 0, .string (⟨#[]⟩ : ByteArray), .int .i64 0]) (t := 136) ?hr ?_; (case hd => rfl); (case hg => rfl); (case hr => first | (go_simp; done) | (go_simp; rfl)); intro gb276 hg w40 hbox hb; have n0_ := Aside0.mk (blk_below (g := gb270) (o := .cells #[.int .i64 a0_0, .slice A0_1 l0_1.length c0_1, .slice A0_2 l0_2.length c0_2, .slice A0_3 l0_3.length c0_3, .slice (some ad275) l0_4.length c0_4] 132 (0, 0)) (by first | exact Grow.bk BK270.out | exact BK270.out) hb); have n1_ := Aside0.mk (blk_below (g := gb271) (o := .cells #[.string a1_0, .string a1_1, .string a1_2, .string a1_3, .int .i64 a1_4] 96 (0, 0)) (by first | exact Grow.bk BK271.out | exact BK271.out) hb); have n2_ := Aside0.mk (below_step (by repeat (first | (with_reducible first | exact HB.out | apply below_alloc | apply pw_below_drewN | apply below_drew1 | refine below_set ?_ GE270.out | refine below_set ?_ GE271.out) | exact HB.out)) hb); have n3_ := Aside0.mk (hbox); have n4_ := Aside0.mk ((by rw [hg]; exact (below_size (by repeat (first | (with_reducible first | exact HB.out | apply below_alloc | apply pw_below_drewN | apply below_drew1 | refine below_set ?_ GE270.out | refine below_set ?_ GE271.out) | exact HB.out))) : w.heap.size ≤ gb276)); have n5_ := Aside0.mk ((by rw [hg]; exact (below_size (by repeat (first | (with_reducible first | exact HB.out | apply below_alloc | apply pw_below_drewN | apply below_drew1 | refine below_set ?_ GE270.out | refine below_set ?_ GE271.out) | exact HB.out))) : w.heap.size ≤ gb276)); have n6_ := Aside0.mk ((by rw [hg]; exact Nat.ne_of_lt (blk_lt (g := gb270) (o := .cells #[.int .i64 a0_0, .slice A0_1 l0_1.length c0_1, .slice A0_2 l0_2.length c0_2, .slice A0_3 l0_3.length c0_3, .slice (some ad275) l0_4.length c0_4] 132 (0, 0)) (by first | exact Grow.bk BK270.out | exact BK270.out)) : gb270 ≠ gb276)); have n7_ := Aside0.mk ((by rw [hg]; exact Nat.ne_of_gt (blk_lt (g := gb270) (o := .cells #[.int .i64 a0_0, .slice A0_1 l0_1.length c0_1, .slice A0_2 l0_2.length c0_2, .slice A0_3 l0_3.length c0_3, .slice (some ad275) l0_4.length c0_4] 132 (0, 0)) (by first | exact Grow.bk BK270.out | exact BK270.out)) : gb276 ≠ gb270)); have n8_ := Aside0.mk ((by rw [hg]; exact Nat.ne_of_lt (blk_lt (g := gb271) (o := .cells #[.string a1_0, .string a1_1, .string a1_2, .string a1_3, .int .i64 a1_4] 96 (0, 0)) (by first | exact Grow.bk BK271.out | exact BK271.out)) : gb271 ≠ gb276)); have n9_ := Aside0.mk ((by rw [hg]; exact Nat.ne_of_gt (blk_lt (g := gb271) (o := .cells #[.string a1_0, .string a1_1, .string a1_2, .string a1_3, .int .i64 a1_4] 96 (0, 0)) (by first | exact Grow.bk BK271.out | exact BK271.out)) : gb276 ≠ gb271)); clear BK270; clear BK271; clear HB; have BK270 := n0_; have BK271 := n1_; have HB := n2_; have BK276 := n3_; have GW276 := n4_; have GE276 := n5_; have NB270_276 := n6_; have NB276_270 := n7_; have NB271_276 := n8_; have NB276_271 := n9_; clear n0_ n1_ n2_ n3_ n4_ n5_ n6_ n7_ n8_ n9_; clear hb hbox hg; have hnb41 := NB276_270.out; have hnc41 := NB270_276.out; have hnb42 := NB276_271.out; have hnc42 := NB271_276.out; have hcz43_0 : w40.cell? ⟨gb276, 0, none⟩ = some (.int .i64 0) := (blk_cell BK276.out 0).trans rfl; have hcz43_1 : w40.cell? ⟨gb276, 1, none⟩ = some (.string (⟨#[]⟩ : ByteArray)) := (blk_cell BK276.out 1).trans rfl; have hcz43_2 : w40.cell? ⟨gb276, 2, none⟩ = some (.int .i64 0) := (blk_cell BK276.out 2).trans rfl; have hfz43_0 := blk_frozen BK276.out 0; have hfz43_1 := blk_frozen BK276.out 1; have hfz43_2 := blk_frozen BK276.out 2))
          have n0_ : Aside0 ((((w40.setCell ⟨gb276, 0, none⟩ (.int .i64 ((rd_T136 l0_4 x32_2).f0))).setCell ⟨gb276, 1, none⟩ (.string ((rd_T136 l0_4 x32_2).f1))).setCell ⟨gb276, 2, none⟩ (.int .i64 ((rd_T136 l0_4 x32_2).f2))).heap[gb270]? = some (.cells #[.int .i64 a0_0, .slice A0_1 l0_1.length c0_1, .slice A0_2 l0_2.length c0_2, .slice A0_3 l0_3.length c0_3, .slice (some ad275) l0_4.length c0_4] 132 (0, 0))) := ⟨by (with_reducible repeat (first | refine blk_drewN ?_ _ | refine blk_drew ?_ | refine blk_alloc ?_ _)); refine blk_far ?_ NB270_276.out _; (with_reducible repeat (first | refine blk_drewN ?_ _ | refine blk_drew ?_ | refine blk_alloc ?_ _)); refine blk_far ?_ NB270_276.out _; (with_reducible repeat (first | refine blk_drewN ?_ _ | refine blk_drew ?_ | refine blk_alloc ?_ _)); refine blk_far ?_ NB270_276.out _; (with_reducible repeat (first | refine blk_drewN ?_ _ | refine blk_drew ?_ | refine blk_alloc ?_ _)); exact BK270.out⟩
          have n1_ : Aside0 ((((w40.setCell ⟨gb276, 0, none⟩ (.int .i64 ((rd_T136 l0_4 x32_2).f0))).setCell ⟨gb276, 1, none⟩ (.string ((rd_T136 l0_4 x32_2).f1))).setCell ⟨gb276, 2, none⟩ (.int .i64 ((rd_T136 l0_4 x32_2).f2))).heap[gb271]? = some (.cells #[.string a1_0, .string a1_1, .string a1_2, .string a1_3, .int .i64 a1_4] 96 (0, 0))) := ⟨by (with_reducible repeat (first | refine blk_drewN ?_ _ | refine blk_drew ?_ | refine blk_alloc ?_ _)); refine blk_far ?_ NB271_276.out _; (with_reducible repeat (first | refine blk_drewN ?_ _ | refine blk_drew ?_ | refine blk_alloc ?_ _)); refine blk_far ?_ NB271_276.out _; (with_reducible repeat (first | refine blk_drewN ?_ _ | refine blk_drew ?_ | refine blk_alloc ?_ _)); refine blk_far ?_ NB271_276.out _; (with_reducible repeat (first | refine blk_drewN ?_ _ | refine blk_drew ?_ | refine blk_alloc ?_ _)); exact BK271.out⟩
          have n2_ : Aside0 ((((w40.setCell ⟨gb276, 0, none⟩ (.int .i64 ((rd_T136 l0_4 x32_2).f0))).setCell ⟨gb276, 1, none⟩ (.string ((rd_T136 l0_4 x32_2).f1))).setCell ⟨gb276, 2, none⟩ (.int .i64 ((rd_T136 l0_4 x32_2).f2))).heap[gb276]? = some (.cells #[.int .i64 ((rd_T136 l0_4 x32_2).f0), .string ((rd_T136 l0_4 x32_2).f1), .int .i64 ((rd_T136 l0_4 x32_2).f2)] 136 (0, 0))) := ⟨by (with_reducible repeat (first | refine blk_drewN ?_ _ | refine blk_drew ?_ | refine blk_alloc ?_ _)); refine blk_put (cs := #[.int .i64 ((rd_T136 l0_4 x32_2).f0), .string ((rd_T136 l0_4 x32_2).f1), .int .i64 0]) ?_ 2 _ rfl; (with_reducible repeat (first | refine blk_drewN ?_ _ | refine blk_drew ?_ | refine blk_alloc ?_ _)); refine blk_put (cs := #[.int .i64 ((rd_T136 l0_4 x32_2).f0), .string (⟨#[]⟩ : ByteArray), .int .i64 0]) ?_ 1 _ rfl; (with_reducible repeat (first | refine blk_drewN ?_ _ | refine blk_drew ?_ | refine blk_alloc ?_ _)); refine blk_put (cs := #[.int .i64 0, .string (⟨#[]⟩ : ByteArray), .int .i64 0]) ?_ 0 _ rfl; (with_reducible repeat (first | refine blk_drewN ?_ _ | refine blk_drew ?_ | refine blk_alloc ?_ _)); exact BK276.out⟩
          have n3_ : Aside0 (Below w.heap.size w (((w40.setCell ⟨gb276, 0, none⟩ (.int .i64 ((rd_T136 l0_4 x32_2).f0))).setCell ⟨gb276, 1, none⟩ (.string ((rd_T136 l0_4 x32_2).f1))).setCell ⟨gb276, 2, none⟩ (.int .i64 ((rd_T136 l0_4 x32_2).f2)))) := ⟨by repeat (first | (with_reducible first | exact HB.out | apply below_alloc | apply pw_below_drewN | apply below_drew1 | refine below_set ?_ GE270.out | refine below_set ?_ GE271.out | refine below_set ?_ GE276.out) | exact HB.out)⟩
          (try clear BK270)
          (try clear BK271)
          (try clear BK276)
          (try clear HB)
          generalize (((w40.setCell ⟨gb276, 0, none⟩ (.int .i64 ((rd_T136 l0_4 x32_2).f0))).setCell ⟨gb276, 1, none⟩ (.string ((rd_T136 l0_4 x32_2).f1))).setCell ⟨gb276, 2, none⟩ (.int .i64 ((rd_T136 l0_4 x32_2).f2))) = w44 at n0_ n1_ n2_ n3_ ⊢
          have BK270 := n0_
          have BK271 := n1_
          have BK276 := n2_
          have HB := n3_
          clear n0_ n1_ n2_ n3_
          have n0_ := Aside0.mk (blk_drew BK270.out)
          have n1_ := Aside0.mk (blk_drew BK271.out)
          have n2_ := Aside0.mk (blk_drew BK276.out)
          have n3_ := Aside0.mk (below_drew1 HB.out)
          clear BK270
          clear BK271
          clear BK276
          clear HB
          have BK270 := n0_
          have BK271 := n1_
          have BK276 := n2_
          have HB := n3_
          clear n0_ n1_ n2_ n3_
          refine start_ (n := 5) (S := fun w' => w'.cell? ⟨gb276, 0, none⟩ = some (.int .i64 ((rd_T136 l0_4 x32_2).f0)) ∧ w'.cell? ⟨gb276, 1, none⟩ = some (.string ((rd_T136 l0_4 x32_2).f1)) ∧ w'.cell? ⟨gb276, 2, none⟩ = some (.int .i64 ((rd_T136 l0_4 x32_2).f2)) ∧ w'.cell? ⟨gb271, 0, none⟩ = some (.string a1_0) ∧ w'.cell? ⟨gb271, 1, none⟩ = some (.string a1_1) ∧ w'.cell? ⟨gb271, 2, none⟩ = some (.string a1_2) ∧ w'.cell? ⟨gb271, 3, none⟩ = some (.string a1_3) ∧ w'.cell? ⟨gb271, 4, none⟩ = some (.int .i64 a1_4)) (ds := []) #[false, false, false, false, false] (by kernel_rfl) rfl rfl ⟨(blk_cell BK276.out 0).trans rfl, (blk_cell BK276.out 1).trans rfl, (blk_cell BK276.out 2).trans rfl, (blk_cell BK271.out 0).trans rfl, (blk_cell BK271.out 1).trans rfl, (blk_cell BK271.out 2).trans rfl, (blk_cell BK271.out 3).trans rfl, (blk_cell BK271.out 4).trans rfl⟩ (fun hHeld => ?_)
          generalize w44.drew = w45 at BK270 BK271 BK276 HB hHeld ⊢
          refine take_ (i := 0) (N := some 36) (v := ?_) (a' := ?_) #[true, false, false, false, false] rfl rfl (by kernel_rfl) (fun _ _ _ h => h) (Or.inl ⟨by rfl, ?_⟩) hHeld ?_ ?_; rotate_left; rintro w' ⟨s0, s1, s2, s3, s4, s5, s6, s7⟩; go_simp; with_reducible rfl; rotate_left; simp only [Cap.pz]; rfl
          refine take_ (i := 2) (N := some 38) (v := ?_) (a' := ?_) #[true, false, true, false, false] rfl rfl (by kernel_rfl) (fun _ _ _ h => h) (Or.inl ⟨by rfl, ?_⟩) hHeld ?_ ?_; rotate_left; rintro w' ⟨s0, s1, s2, s3, s4, s5, s6, s7⟩; go_simp; with_reducible rfl; rotate_left; simp only [Cap.pz]; rfl
          refine one_ (i := 1) (N := some 37) #[true, true, true, false, false] rfl rfl (by kernel_rfl) (by decide) (fun K hK => ?_)
          refine goes_ Try.func113 (by kernel_rfl) rfl #[.agg #[.int .i64 ((rd_T136 l0_4 x32_2).f0), .string ((rd_T136 l0_4 x32_2).f1), .int .i64 ((rd_T136 l0_4 x32_2).f2)]] (by rfl) rfl rfl (by (try simp only [List.map_toArray, List.map_cons, List.map_nil]); first | done | rfl | (simp only [List.length_drop, List.length_take]; rfl)) ?_
          with_reducible refine (impl_testOf.calls ((rd_T136 l0_4 x32_2).f0) ((rd_T136 l0_4 x32_2).f1) ((rd_T136 l0_4 x32_2).f2) _).mono ?_
          rintro e w46t ⟨rfl, hb⟩
          refine ⟨_, rfl, ?_⟩
          have n0_ := Aside0.mk (blk_below (g := gb270) (o := .cells #[.int .i64 a0_0, .slice A0_1 l0_1.length c0_1, .slice A0_2 l0_2.length c0_2, .slice A0_3 l0_3.length c0_3, .slice (some ad275) l0_4.length c0_4] 132 (0, 0)) (by first | exact Grow.bk BK270.out | exact BK270.out) hb)
          have n1_ := Aside0.mk (blk_below (g := gb271) (o := .cells #[.string a1_0, .string a1_1, .string a1_2, .string a1_3, .int .i64 a1_4] 96 (0, 0)) (by first | exact Grow.bk BK271.out | exact BK271.out) hb)
          have n2_ := Aside0.mk (blk_below (g := gb276) (o := .cells #[.int .i64 ((rd_T136 l0_4 x32_2).f0), .string ((rd_T136 l0_4 x32_2).f1), .int .i64 ((rd_T136 l0_4 x32_2).f2)] 136 (0, 0)) (by first | exact Grow.bk BK276.out | exact BK276.out) hb)
          have n3_ := Aside0.mk (below_step (by repeat (first | (with_reducible first | exact HB.out | apply below_alloc | apply pw_below_drewN | apply below_drew1 | refine below_set ?_ GE270.out | refine below_set ?_ GE271.out | refine below_set ?_ GE276.out) | exact HB.out)) hb)
          clear BK270
          clear BK271
          clear BK276
          clear HB
          have BK270 := n0_
          have BK271 := n1_
          have BK276 := n2_
          have HB := n3_
          clear n0_ n1_ n2_ n3_
          (try clear hb)
          (try clear hb2)
          (try clear hk)
          (try clear hi)
          refine hK.out _ _ ⟨(blk_cell BK276.out 0).trans rfl, (blk_cell BK276.out 1).trans rfl, (blk_cell BK276.out 2).trans rfl, (blk_cell BK271.out 0).trans rfl, (blk_cell BK271.out 1).trans rfl, (blk_cell BK271.out 2).trans rfl, (blk_cell BK271.out 3).trans rfl, (blk_cell BK271.out 4).trans rfl⟩ (fun hHeld => ?_)
          clear hK K
          refine one_ (i := 3) (N := some 39) #[true, true, true, true, false] rfl rfl (by kernel_rfl) (by decide) (fun K hK => ?_)
          refine holds_ k2 ((rd_T136 l0_4 x32_2).f0) ((rd_T136 l0_4 x32_2).f1) ((rd_T136 l0_4 x32_2).f2) a1_0 a1_1 a1_2 a1_3 a1_4 true A38.out (by rfl) rfl rfl (by rfl) (by rfl) ?_
          intro w46 hb
          have n0_ := Aside0.mk (blk_below (g := gb270) (o := .cells #[.int .i64 a0_0, .slice A0_1 l0_1.length c0_1, .slice A0_2 l0_2.length c0_2, .slice A0_3 l0_3.length c0_3, .slice (some ad275) l0_4.length c0_4] 132 (0, 0)) (by first | exact Grow.bk BK270.out | exact BK270.out) hb)
          have n1_ := Aside0.mk (blk_below (g := gb271) (o := .cells #[.string a1_0, .string a1_1, .string a1_2, .string a1_3, .int .i64 a1_4] 96 (0, 0)) (by first | exact Grow.bk BK271.out | exact BK271.out) hb)
          have n2_ := Aside0.mk (blk_below (g := gb276) (o := .cells #[.int .i64 ((rd_T136 l0_4 x32_2).f0), .string ((rd_T136 l0_4 x32_2).f1), .int .i64 ((rd_T136 l0_4 x32_2).f2)] 136 (0, 0)) (by first | exact Grow.bk BK276.out | exact BK276.out) hb)
          have n3_ := Aside0.mk (below_step (by repeat (first | (with_reducible first | exact HB.out | apply below_alloc | apply pw_below_drewN | apply below_drew1 | refine below_set ?_ GE270.out | refine below_set ?_ GE271.out | refine below_set ?_ GE276.out) | exact HB.out)) hb)
          clear BK270
          clear BK271
          clear BK276
          clear HB
          have BK270 := n0_
          have BK271 := n1_
          have BK276 := n2_
          have HB := n3_
          clear n0_ n1_ n2_ n3_
          (try clear hb)
          (try clear hb2)
          (try clear hk)
          (try clear hi)
          refine hK.out _ _ ⟨(blk_cell BK276.out 0).trans rfl, (blk_cell BK276.out 1).trans rfl, (blk_cell BK276.out 2).trans rfl, (blk_cell BK271.out 0).trans rfl, (blk_cell BK271.out 1).trans rfl, (blk_cell BK271.out 2).trans rfl, (blk_cell BK271.out 3).trans rfl, (blk_cell BK271.out 4).trans rfl⟩ (fun hHeld => ?_)
          clear hK K
          refine norm_ (a' := ?_) ?_ ?_; rotate_left; show Act.put _ (some 39) _ = _; simp only [Cap.pz]; rfl
          refine pure_ (i := 4) (N := some 40) (v := ?_) (a' := ?_) #[true, true, true, true, true] rfl rfl (by kernel_rfl) (fun _ _ _ h => h) (Or.inl ⟨by rfl, ?_⟩) ?_ ?_; rotate_left; intro w'; go_simp; with_reducible rfl; rotate_left; simp only [Cap.pz]; rfl
          refine done_ (by kernel_rfl) ?_
          try go_wp2
          go_roundg k2
          case measure => have := HJ2.out; have := HK2.out; omega
          case rel => exact ⟨(wrap64 (x32_2 + 1)), (by first | rfl | (simp; done) | (simp [*]; done)), H', ⟨by have := HJ2.out; have := HK2.out; omega⟩, ⟨by first | exact Grow.bk BK270.out | exact BK270.out⟩, ⟨by first | exact Grow.bk BK271.out | exact BK271.out⟩, ⟨by repeat (first | (with_reducible first | exact HB.out | apply below_alloc | apply pw_below_drewN | apply below_drew1 | refine below_set ?_ GE270.out | refine below_set ?_ GE271.out | refine below_set ?_ GE276.out) | exact HB.out)⟩⟩
         ·
          replace c39 := Bool.eq_false_iff.mpr c39
          subst c39
          have H1 : (some false) = some r := by rw [if_neg (show ¬ (false = true) by decide)] at H; exact H
          clear H
          have H := H1
          clear H1
          obtain rfl := Option.some.inj H
          have p275 : 0 ≤ (x32_2 : Int) := of_decide_eq_true (by first | (with_reducible assumption) | assumption)
          have q275 : x32_2 < (l0_4.length : Int) := of_decide_eq_true (by first | (with_reducible assumption) | assumption)
          obtain ⟨ad275, e275, hx275_0, hx275_1, hx275_2⟩ := at_T136 HR0_4.out x32_2 p275 q275
          cases e275
          replace hx275_0 := Grow.bc HB.out hx275_0
          replace hx275_1 := Grow.bc HB.out hx275_1
          replace hx275_2 := Grow.bc HB.out hx275_2
          replace p275 := eq_true p275
          replace q275 := eq_true q275
          try go_wp2_with (first | ((with_reducible refine gate_dst (N := 6) rfl ?_); refine box_event ?hg (N := 6) ?hd (cs := #[.int .i64 0, .string (⟨#[]⟩ : ByteArray), .int .i64 0]) (t := 136) ?hr ?_; (case hd => rfl); (case hg => rfl); (case hr => first | (go_simp; done) | (go_simp; rfl)); intro gb276 hg w47 hbox hb; have n0_ := Aside0.mk (blk_below (g := gb270) (o := .cells #[.int .i64 a0_0, .slice A0_1 l0_1.length c0_1, .slice A0_2 l0_2.length c0_2, .slice A0_3 l0_3.length c0_3, .slice (some ad275) l0_4.length c0_4] 132 (0, 0)) (by first | exact Grow.bk BK270.out | exact BK270.out) hb); have n1_ := Aside0.mk (blk_below (g := gb271) (o := .cells #[.string a1_0, .string a1_1, .string a1_2, .string a1_3, .int .i64 a1_4] 96 (0, 0)) (by first | exact Grow.bk BK271.out | exact BK271.out) hb); have n2_ := Aside0.mk (below_step (by repeat (first | (with_reducible first | exact HB.out | apply below_alloc | apply pw_below_drewN | apply below_drew1 | refine below_set ?_ GE270.out | refine below_set ?_ GE271.out) | exact HB.out)) hb); have n3_ := Aside0.mk (hbox); have n4_ := Aside0.mk ((by rw [hg]; exact (below_size (by repeat (first | (with_reducible first | exact HB.out | apply below_alloc | apply pw_below_drewN | apply below_drew1 | refine below_set ?_ GE270.out | refine below_set ?_ GE271.out) | exact HB.out))) : w.heap.size ≤ gb276)); have n5_ := Aside0.mk ((by rw [hg]; exact (below_size (by repeat (first | (with_reducible first | exact HB.out | apply below_alloc | apply pw_below_drewN | apply below_drew1 | refine below_set ?_ GE270.out | refine below_set ?_ GE271.out) | exact HB.out))) : w.heap.size ≤ gb276)); have n6_ := Aside0.mk ((by rw [hg]; exact Nat.ne_of_lt (blk_lt (g := gb270) (o := .cells #[.int .i64 a0_0, .slice A0_1 l0_1.length c0_1, .slice A0_2 l0_2.length c0_2, .slice A0_3 l0_3.length c0_3, .slice (some ad275) l0_4.length c0_4] 132 (0, 0)) (by first | exact Grow.bk BK270.out | exact BK270.out)) : gb270 ≠ gb276)); have n7_ := Aside0.mk ((by rw [hg]; exact Nat.ne_of_gt (blk_lt (g := gb270) (o := .cells #[.int .i64 a0_0, .slice A0_1 l0_1.length c0_1, .slice A0_2 l0_2.length c0_2, .slice A0_3 l0_3.length c0_3, .slice (some ad275) l0_4.length c0_4] 132 (0, 0)) (by first | exact Grow.bk BK270.out | exact BK270.out)) : gb276 ≠ gb270)); have n8_ := Aside0.mk ((by rw [hg]; exact Nat.ne_of_lt (blk_lt (g := gb271) (o := .cells #[.string a1_0, .string a1_1, .string a1_2, .string a1_3, .int .i64 a1_4] 96 (0, 0)) (by first | exact Grow.bk BK271.out | exact BK271.out)) : gb271 ≠ gb276)); have n9_ := Aside0.mk ((by rw [hg]; exact Nat.ne_of_gt (blk_lt (g := gb271) (o := .cells #[.string a1_0, .string a1_1, .string a1_2, .string a1_3, .int .i64 a1_4] 96 (0, 0)) (by first | exact Grow.bk BK271.out | exact BK271.out)) : gb276 ≠ gb271)); clear BK270; clear BK271; clear HB; have BK270 := n0_; have BK271 := n1_; have HB := n2_; have BK276 := n3_; have GW276 := n4_; have GE276 := n5_; have NB270_276 := n6_; have NB276_270 := n7_; have NB271_276 := n8_; have NB276_271 := n9_; clear n0_ n1_ n2_ n3_ n4_ n5_ n6_ n7_ n8_ n9_; clear hb hbox hg; have hnb48 := NB276_270.out; have hnc48 := NB270_276.out; have hnb49 := NB276_271.out; have hnc49 := NB271_276.out; have hcz50_0 : w47.cell? ⟨gb276, 0, none⟩ = some (.int .i64 0) := (blk_cell BK276.out 0).trans rfl; have hcz50_1 : w47.cell? ⟨gb276, 1, none⟩ = some (.string (⟨#[]⟩ : ByteArray)) := (blk_cell BK276.out 1).trans rfl; have hcz50_2 : w47.cell? ⟨gb276, 2, none⟩ = some (.int .i64 0) := (blk_cell BK276.out 2).trans rfl; have hfz50_0 := blk_frozen BK276.out 0; have hfz50_1 := blk_frozen BK276.out 1; have hfz50_2 := blk_frozen BK276.out 2))
          have n0_ : Aside0 ((((w47.setCell ⟨gb276, 0, none⟩ (.int .i64 ((rd_T136 l0_4 x32_2).f0))).setCell ⟨gb276, 1, none⟩ (.string ((rd_T136 l0_4 x32_2).f1))).setCell ⟨gb276, 2, none⟩ (.int .i64 ((rd_T136 l0_4 x32_2).f2))).heap[gb270]? = some (.cells #[.int .i64 a0_0, .slice A0_1 l0_1.length c0_1, .slice A0_2 l0_2.length c0_2, .slice A0_3 l0_3.length c0_3, .slice (some ad275) l0_4.length c0_4] 132 (0, 0))) := ⟨by (with_reducible repeat (first | refine blk_drewN ?_ _ | refine blk_drew ?_ | refine blk_alloc ?_ _)); refine blk_far ?_ NB270_276.out _; (with_reducible repeat (first | refine blk_drewN ?_ _ | refine blk_drew ?_ | refine blk_alloc ?_ _)); refine blk_far ?_ NB270_276.out _; (with_reducible repeat (first | refine blk_drewN ?_ _ | refine blk_drew ?_ | refine blk_alloc ?_ _)); refine blk_far ?_ NB270_276.out _; (with_reducible repeat (first | refine blk_drewN ?_ _ | refine blk_drew ?_ | refine blk_alloc ?_ _)); exact BK270.out⟩
          have n1_ : Aside0 ((((w47.setCell ⟨gb276, 0, none⟩ (.int .i64 ((rd_T136 l0_4 x32_2).f0))).setCell ⟨gb276, 1, none⟩ (.string ((rd_T136 l0_4 x32_2).f1))).setCell ⟨gb276, 2, none⟩ (.int .i64 ((rd_T136 l0_4 x32_2).f2))).heap[gb271]? = some (.cells #[.string a1_0, .string a1_1, .string a1_2, .string a1_3, .int .i64 a1_4] 96 (0, 0))) := ⟨by (with_reducible repeat (first | refine blk_drewN ?_ _ | refine blk_drew ?_ | refine blk_alloc ?_ _)); refine blk_far ?_ NB271_276.out _; (with_reducible repeat (first | refine blk_drewN ?_ _ | refine blk_drew ?_ | refine blk_alloc ?_ _)); refine blk_far ?_ NB271_276.out _; (with_reducible repeat (first | refine blk_drewN ?_ _ | refine blk_drew ?_ | refine blk_alloc ?_ _)); refine blk_far ?_ NB271_276.out _; (with_reducible repeat (first | refine blk_drewN ?_ _ | refine blk_drew ?_ | refine blk_alloc ?_ _)); exact BK271.out⟩
          have n2_ : Aside0 ((((w47.setCell ⟨gb276, 0, none⟩ (.int .i64 ((rd_T136 l0_4 x32_2).f0))).setCell ⟨gb276, 1, none⟩ (.string ((rd_T136 l0_4 x32_2).f1))).setCell ⟨gb276, 2, none⟩ (.int .i64 ((rd_T136 l0_4 x32_2).f2))).heap[gb276]? = some (.cells #[.int .i64 ((rd_T136 l0_4 x32_2).f0), .string ((rd_T136 l0_4 x32_2).f1), .int .i64 ((rd_T136 l0_4 x32_2).f2)] 136 (0, 0))) := ⟨by (with_reducible repeat (first | refine blk_drewN ?_ _ | refine blk_drew ?_ | refine blk_alloc ?_ _)); refine blk_put (cs := #[.int .i64 ((rd_T136 l0_4 x32_2).f0), .string ((rd_T136 l0_4 x32_2).f1), .int .i64 0]) ?_ 2 _ rfl; (with_reducible repeat (first | refine blk_drewN ?_ _ | refine blk_drew ?_ | refine blk_alloc ?_ _)); refine blk_put (cs := #[.int .i64 ((rd_T136 l0_4 x32_2).f0), .string (⟨#[]⟩ : ByteArray), .int .i64 0]) ?_ 1 _ rfl; (with_reducible repeat (first | refine blk_drewN ?_ _ | refine blk_drew ?_ | refine blk_alloc ?_ _)); refine blk_put (cs := #[.int .i64 0, .string (⟨#[]⟩ : ByteArray), .int .i64 0]) ?_ 0 _ rfl; (with_reducible repeat (first | refine blk_drewN ?_ _ | refine blk_drew ?_ | refine blk_alloc ?_ _)); exact BK276.out⟩
          have n3_ : Aside0 (Below w.heap.size w (((w47.setCell ⟨gb276, 0, none⟩ (.int .i64 ((rd_T136 l0_4 x32_2).f0))).setCell ⟨gb276, 1, none⟩ (.string ((rd_T136 l0_4 x32_2).f1))).setCell ⟨gb276, 2, none⟩ (.int .i64 ((rd_T136 l0_4 x32_2).f2)))) := ⟨by repeat (first | (with_reducible first | exact HB.out | apply below_alloc | apply pw_below_drewN | apply below_drew1 | refine below_set ?_ GE270.out | refine below_set ?_ GE271.out | refine below_set ?_ GE276.out) | exact HB.out)⟩
          (try clear BK270)
          (try clear BK271)
          (try clear BK276)
          (try clear HB)
          generalize (((w47.setCell ⟨gb276, 0, none⟩ (.int .i64 ((rd_T136 l0_4 x32_2).f0))).setCell ⟨gb276, 1, none⟩ (.string ((rd_T136 l0_4 x32_2).f1))).setCell ⟨gb276, 2, none⟩ (.int .i64 ((rd_T136 l0_4 x32_2).f2))) = w51 at n0_ n1_ n2_ n3_ ⊢
          have BK270 := n0_
          have BK271 := n1_
          have BK276 := n2_
          have HB := n3_
          clear n0_ n1_ n2_ n3_
          have n0_ := Aside0.mk (blk_drew BK270.out)
          have n1_ := Aside0.mk (blk_drew BK271.out)
          have n2_ := Aside0.mk (blk_drew BK276.out)
          have n3_ := Aside0.mk (below_drew1 HB.out)
          clear BK270
          clear BK271
          clear BK276
          clear HB
          have BK270 := n0_
          have BK271 := n1_
          have BK276 := n2_
          have HB := n3_
          clear n0_ n1_ n2_ n3_
          refine start_ (n := 5) (S := fun w' => w'.cell? ⟨gb276, 0, none⟩ = some (.int .i64 ((rd_T136 l0_4 x32_2).f0)) ∧ w'.cell? ⟨gb276, 1, none⟩ = some (.string ((rd_T136 l0_4 x32_2).f1)) ∧ w'.cell? ⟨gb276, 2, none⟩ = some (.int .i64 ((rd_T136 l0_4 x32_2).f2)) ∧ w'.cell? ⟨gb271, 0, none⟩ = some (.string a1_0) ∧ w'.cell? ⟨gb271, 1, none⟩ = some (.string a1_1) ∧ w'.cell? ⟨gb271, 2, none⟩ = some (.string a1_2) ∧ w'.cell? ⟨gb271, 3, none⟩ = some (.string a1_3) ∧ w'.cell? ⟨gb271, 4, none⟩ = some (.int .i64 a1_4)) (ds := []) #[false, false, false, false, false] (by kernel_rfl) rfl rfl ⟨(blk_cell BK276.out 0).trans rfl, (blk_cell BK276.out 1).trans rfl, (blk_cell BK276.out 2).trans rfl, (blk_cell BK271.out 0).trans rfl, (blk_cell BK271.out 1).trans rfl, (blk_cell BK271.out 2).trans rfl, (blk_cell BK271.out 3).trans rfl, (blk_cell BK271.out 4).trans rfl⟩ (fun hHeld => ?_)
          generalize w51.drew = w52 at BK270 BK271 BK276 HB hHeld ⊢
          refine take_ (i := 0) (N := some 36) (v := ?_) (a' := ?_) #[true, false, false, false, false] rfl rfl (by kernel_rfl) (fun _ _ _ h => h) (Or.inl ⟨by rfl, ?_⟩) hHeld ?_ ?_; rotate_left; rintro w' ⟨s0, s1, s2, s3, s4, s5, s6, s7⟩; go_simp; with_reducible rfl; rotate_left; simp only [Cap.pz]; rfl
          refine take_ (i := 2) (N := some 38) (v := ?_) (a' := ?_) #[true, false, true, false, false] rfl rfl (by kernel_rfl) (fun _ _ _ h => h) (Or.inl ⟨by rfl, ?_⟩) hHeld ?_ ?_; rotate_left; rintro w' ⟨s0, s1, s2, s3, s4, s5, s6, s7⟩; go_simp; with_reducible rfl; rotate_left; simp only [Cap.pz]; rfl
          refine one_ (i := 1) (N := some 37) #[true, true, true, false, false] rfl rfl (by kernel_rfl) (by decide) (fun K hK => ?_)
          refine goes_ Try.func113 (by kernel_rfl) rfl #[.agg #[.int .i64 ((rd_T136 l0_4 x32_2).f0), .string ((rd_T136 l0_4 x32_2).f1), .int .i64 ((rd_T136 l0_4 x32_2).f2)]] (by rfl) rfl rfl (by (try simp only [List.map_toArray, List.map_cons, List.map_nil]); first | done | rfl | (simp only [List.length_drop, List.length_take]; rfl)) ?_
          with_reducible refine (impl_testOf.calls ((rd_T136 l0_4 x32_2).f0) ((rd_T136 l0_4 x32_2).f1) ((rd_T136 l0_4 x32_2).f2) _).mono ?_
          rintro e w53t ⟨rfl, hb⟩
          refine ⟨_, rfl, ?_⟩
          have n0_ := Aside0.mk (blk_below (g := gb270) (o := .cells #[.int .i64 a0_0, .slice A0_1 l0_1.length c0_1, .slice A0_2 l0_2.length c0_2, .slice A0_3 l0_3.length c0_3, .slice (some ad275) l0_4.length c0_4] 132 (0, 0)) (by first | exact Grow.bk BK270.out | exact BK270.out) hb)
          have n1_ := Aside0.mk (blk_below (g := gb271) (o := .cells #[.string a1_0, .string a1_1, .string a1_2, .string a1_3, .int .i64 a1_4] 96 (0, 0)) (by first | exact Grow.bk BK271.out | exact BK271.out) hb)
          have n2_ := Aside0.mk (blk_below (g := gb276) (o := .cells #[.int .i64 ((rd_T136 l0_4 x32_2).f0), .string ((rd_T136 l0_4 x32_2).f1), .int .i64 ((rd_T136 l0_4 x32_2).f2)] 136 (0, 0)) (by first | exact Grow.bk BK276.out | exact BK276.out) hb)
          have n3_ := Aside0.mk (below_step (by repeat (first | (with_reducible first | exact HB.out | apply below_alloc | apply pw_below_drewN | apply below_drew1 | refine below_set ?_ GE270.out | refine below_set ?_ GE271.out | refine below_set ?_ GE276.out) | exact HB.out)) hb)
          clear BK270
          clear BK271
          clear BK276
          clear HB
          have BK270 := n0_
          have BK271 := n1_
          have BK276 := n2_
          have HB := n3_
          clear n0_ n1_ n2_ n3_
          (try clear hb)
          (try clear hb2)
          (try clear hk)
          (try clear hi)
          refine hK.out _ _ ⟨(blk_cell BK276.out 0).trans rfl, (blk_cell BK276.out 1).trans rfl, (blk_cell BK276.out 2).trans rfl, (blk_cell BK271.out 0).trans rfl, (blk_cell BK271.out 1).trans rfl, (blk_cell BK271.out 2).trans rfl, (blk_cell BK271.out 3).trans rfl, (blk_cell BK271.out 4).trans rfl⟩ (fun hHeld => ?_)
          clear hK K
          refine one_ (i := 3) (N := some 39) #[true, true, true, true, false] rfl rfl (by kernel_rfl) (by decide) (fun K hK => ?_)
          refine holds_ k2 ((rd_T136 l0_4 x32_2).f0) ((rd_T136 l0_4 x32_2).f1) ((rd_T136 l0_4 x32_2).f2) a1_0 a1_1 a1_2 a1_3 a1_4 false A38.out (by rfl) rfl rfl (by rfl) (by rfl) ?_
          intro w53 hb
          have n0_ := Aside0.mk (blk_below (g := gb270) (o := .cells #[.int .i64 a0_0, .slice A0_1 l0_1.length c0_1, .slice A0_2 l0_2.length c0_2, .slice A0_3 l0_3.length c0_3, .slice (some ad275) l0_4.length c0_4] 132 (0, 0)) (by first | exact Grow.bk BK270.out | exact BK270.out) hb)
          have n1_ := Aside0.mk (blk_below (g := gb271) (o := .cells #[.string a1_0, .string a1_1, .string a1_2, .string a1_3, .int .i64 a1_4] 96 (0, 0)) (by first | exact Grow.bk BK271.out | exact BK271.out) hb)
          have n2_ := Aside0.mk (blk_below (g := gb276) (o := .cells #[.int .i64 ((rd_T136 l0_4 x32_2).f0), .string ((rd_T136 l0_4 x32_2).f1), .int .i64 ((rd_T136 l0_4 x32_2).f2)] 136 (0, 0)) (by first | exact Grow.bk BK276.out | exact BK276.out) hb)
          have n3_ := Aside0.mk (below_step (by repeat (first | (with_reducible first | exact HB.out | apply below_alloc | apply pw_below_drewN | apply below_drew1 | refine below_set ?_ GE270.out | refine below_set ?_ GE271.out | refine below_set ?_ GE276.out) | exact HB.out)) hb)
          clear BK270
          clear BK271
          clear BK276
          clear HB
          have BK270 := n0_
          have BK271 := n1_
          have BK276 := n2_
          have HB := n3_
          clear n0_ n1_ n2_ n3_
          (try clear hb)
          (try clear hb2)
          (try clear hk)
          (try clear hi)
          refine hK.out _ _ ⟨(blk_cell BK276.out 0).trans rfl, (blk_cell BK276.out 1).trans rfl, (blk_cell BK276.out 2).trans rfl, (blk_cell BK271.out 0).trans rfl, (blk_cell BK271.out 1).trans rfl, (blk_cell BK271.out 2).trans rfl, (blk_cell BK271.out 3).trans rfl, (blk_cell BK271.out 4).trans rfl⟩ (fun hHeld => ?_)
          clear hK K
          refine norm_ (a' := ?_) ?_ ?_; rotate_left; show Act.put _ (some 39) _ = _; simp only [Cap.pz]; rfl
          refine pure_ (i := 4) (N := some 40) (v := ?_) (a' := ?_) #[true, true, true, true, true] rfl rfl (by kernel_rfl) (fun _ _ _ h => h) (Or.inl ⟨by rfl, ?_⟩) ?_ ?_; rotate_left; intro w'; go_simp; with_reducible rfl; rotate_left; simp only [Cap.pz]; rfl
          refine done_ (by kernel_rfl) ?_
          try go_wp2
          go_ret
          exact ⟨by first | rfl | (simp [errW_none, errW_some] <;> rfl) | (simp [*, errW_none, errW_some] <;> rfl), by repeat (first | (with_reducible first | exact HB.out | apply below_alloc | apply pw_below_drewN | apply below_drew1 | refine below_set ?_ GE270.out | refine below_set ?_ GE271.out | refine below_set ?_ GE276.out) | exact HB.out)⟩
        ·
         exact absurd (of_decide_eq_true c35b0) c37
       ·
        rw [if_neg c36] at H
        exact absurd H (by simp)
      ·
       rw [if_neg c35] at H
       have c35b0 : decide (x32_2 < (l0_4.length : Int)) = false := decide_eq_false c35
       clear c35
       obtain rfl := Option.some.inj H
       go_wp2
       go_ret
       exact ⟨by first | rfl | (simp [errW_none, errW_some] <;> rfl) | (simp [*, errW_none, errW_some] <;> rfl), by repeat (first | (with_reducible first | exact HB.out | apply below_alloc | apply pw_below_drewN | apply below_drew1 | refine below_set ?_ GE270.out | refine below_set ?_ GE271.out) | exact HB.out)⟩
end Go.Proofs.Ytflpkbegdmihdaa.QFnExactJudge
