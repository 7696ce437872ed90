-- A text of this session, printed by a program of its own (wip/tools: xpatch.py, xprint.sh, mkq.py). No condition.
import Derived.Test.YteflpfkfmohenaaQFnExactRepairPlanx0
import Derived.Test.YteflpfkfmohenaaQFnExactRepairPlanx8
import Derived.Test.YteflpfkfmohenaaQFnExactRepairPlanx9
namespace Go.Proofs.Yteflpfkfmohenaa.QFnExactRepairPlan
open Go.RowKit Go.Proofs.YteflpfkfmohenaaW.PrintWords Go.Proofs.YteflpfkfmohenaaW.PrintLast Go.Proofs.YteflpfkfmohenaaW.PrintMore
attribute [local go_sem] max2_int min2_int max_two min_two max_three min_three max_four min_four   -- for this text's walks alone
set_option linter.unusedVariables false
set_option linter.unusedSimpArgs false

/-! ### impl_plant_basis: function 29 -/
def rowOf.f (l : List (List Int)) (i : Int) : Option (List Int) := if 0 ≤ i ∧ i < (l.length : Int) then some (l.getD i.toNat []) else none
theorem rowOf_eq {l : List (List Int)} {i : Int} {r : List Int} (h : rowOf.f l i = some r) : 0 ≤ i ∧ i < (l.length : Int) ∧ l.getD i.toNat [] = r := by
  unfold rowOf.f at h
  by_cases hc : 0 ≤ i ∧ i < (l.length : Int)
  rotate_left
  · rw [if_neg hc] at h; cases h
  rw [if_pos hc] at h; exact ⟨hc.1, hc.2, Option.some.inj h⟩
/-- A row among the rows taken: its cell, and that it is the call's own. -/
theorem bs_elem {w : World} {base : Nat} {ok : Nat → Prop} {A : Option Addr} {n c : Nat} {xs : List (List Int)} (h : Kd.S (Kd.slice 5 (Kd.int .u8)) 77 w base ok (.slice A n c) xs) (i : Int) (h0 : 0 ≤ i) (h1 : i < (xs.length : Int)) :
    ∃ ad Ae ce, A = some ad ∧ w.cell? (ad.add i.toNat) = some (.slice Ae (xs.getD i.toNat []).length ce) ∧ Kd.R (Kd.int .u8) 5 w base ok (.slice Ae (xs.getD i.toNat []).length ce) (xs.getD i.toNat []) := by
  obtain ⟨g, cap, e, _⟩ := Kd.S_form h (by omega)
  injection e with ea _ _
  subst ea
  have hn := (Kd.S_reads' h).1
  obtain ⟨c, hcl, ⟨v, rfl, hR⟩, hcc⟩ := Kd.S_get h [] i h0 (by omega)
  obtain ⟨A', c', hv⟩ := Kd.R_slice hR
  subst hv
  refine ⟨_, A', c', rfl, ?_, Kd.R_mono hR (fun _ hk => hk.1)⟩
  have hz := hcc 0 _ rfl
  have e1 : i.toNat * (Kd.slice 5 (Kd.int .u8)).sz + 0 = i.toNat := by show i.toNat * 1 + 0 = _; omega
  rw [e1] at hz
  exact hz
/-- Two rows of the call's own that are not one: each is apart from the other. -/
theorem bs_apart {w : World} {base : Nat} {ok ok2 : Nat → Prop} {v u : Value} {xs ys : List Int} (h : Kd.R (Kd.int .u8) 5 w base ok v xs) (h2 : Kd.R (Kd.int .u8) 5 w base ok2 u ys) (hk : ∀ k, ok2 k → some k ≠ v.ownBlock) : Kd.R (Kd.int .u8) 5 w base (fun k => True ∧ some k ≠ u.ownBlock) v xs :=
  Kd.R_of_own (h1 := fun _ => rfl) (Kd.own_of_R h) (fun k hv => ⟨trivial, fun e => hk k (h2.1 k e.symm) hv.symm⟩)
mutual
def impl_plant_basis.l0 : Nat → Int → Int → List Int → List (List Int) → List Bool → Int → Int → Option (List Int)
  | 0, _, _, _, _, _, _, _ => none
  | k + 1, x0, x5, x6, x7, x26, x27, x28 => if x28 < x27 then (if 0 ≤ x28 then (if x28 < (x26.length : Int) then (if rdOf false x26 x28 = true then (impl_plant_basis.j1 k x0 x5 x6 x7 x28 x26 x27 x28 ((x6.length : Int) == x5)) else (impl_plant_basis.j1 k x0 x5 x6 x7 x28 x26 x27 x28 true)) else (none)) else (none)) else (some x6)
def impl_plant_basis.j1 : Nat → Int → Int → List Int → List (List Int) → Int → List Bool → Int → Int → Bool → Option (List Int)
  | 0, _, _, _, _, _, _, _, _, _ => none
  | k + 1, x0, x5, x6, x7, x8, x26, x27, x28, x40 => if x40 = true then (impl_plant_basis.l0 k x0 x5 x6 x7 x26 x27 (wrap64 (x28 + 1))) else ((impl_plant_row.f x0 x8).bind fun t242 => (impl_plant_basis.l1 k x0 x5 x6 x7 x8 t242 x26 x27 x28 x7 (x7.length : Int) 0))
def impl_plant_basis.l1 : Nat → Int → Int → List Int → List (List Int) → Int → List Int → List Bool → Int → Int → List (List Int) → Int → Int → Option (List Int)
  | 0, _, _, _, _, _, _, _, _, _, _, _, _ => none
  | k + 1, x0, x5, x6, x7, x8, x10, x26, x27, x28, x44, x45, x46 => if x46 < x45 then ((rowOf.f x44 x46).bind fun t245 => ((impl_leadOf.f k t245).bind fun t248 => (if 0 ≤ t248 then (if t248 < (x10.length : Int) then (if (rd x10 t248) = 0 then (impl_plant_basis.l1 k x0 x5 x6 x7 x8 x10 x26 x27 x28 x44 x45 (wrap64 (x46 + 1))) else (impl_plant_basis.l2 k x0 x5 x6 x7 x8 x10 t245 (rd x10 t248) x26 x27 x28 x44 x45 x46 (x10.length : Int) 0)) else (none)) else (none)))) else ((impl_leadOf.f k x10).bind fun t254 => (if t254 < 0 then (impl_plant_basis.l0 k x0 x5 x6 x7 x26 x27 (wrap64 (x28 + 1))) else (if 0 ≤ t254 then (if t254 < (x10.length : Int) then ((impl_tables8_inv.f x0 (rd x10 t254)).bind fun t256 => (impl_plant_basis.l3 k x0 x5 x6 x7 x8 x10 t256 x26 x27 x28 (x10.length : Int) 0)) else (none)) else (none))))
def impl_plant_basis.l2 : Nat → Int → Int → List Int → List (List Int) → Int → List Int → List Int → Int → List Bool → Int → Int → List (List Int) → Int → Int → Int → Int → Option (List Int)
  | 0, _, _, _, _, _, _, _, _, _, _, _, _, _, _, _, _ => none
  | k + 1, x0, x5, x6, x7, x8, x10, x12, x14, x26, x27, x28, x44, x45, x46, x59, x60 => if x60 < x59 then (if 0 ≤ x60 then (if x60 < (x10.length : Int) then (if x60 < (x12.length : Int) then ((impl_tables8_mul.f x0 x14 (rd x12 x60)).bind fun t252 => (impl_plant_basis.l2 k x0 x5 x6 x7 x8 (x10.set (x60 : Int).toNat (Go.bits .xor .u8 (rd x10 x60) t252)) x12 x14 x26 x27 x28 x44 x45 x46 x59 (wrap64 (x60 + 1)))) else (none)) else (none)) else (none)) else (impl_plant_basis.l1 k x0 x5 x6 x7 x8 x10 x26 x27 x28 x44 x45 (wrap64 (x46 + 1)))
def impl_plant_basis.l3 : Nat → Int → Int → List Int → List (List Int) → Int → List Int → Int → List Bool → Int → Int → Int → Int → Option (List Int)
  | 0, _, _, _, _, _, _, _, _, _, _, _, _ => none
  | k + 1, x0, x5, x6, x7, x8, x10, x17, x26, x27, x28, x95, x96 => if x96 < x95 then (if 0 ≤ x96 then (if x96 < (x10.length : Int) then ((impl_tables8_mul.f x0 (rd x10 x96) x17).bind fun t258 => (impl_plant_basis.l3 k x0 x5 x6 x7 x8 (x10.set (x96 : Int).toNat t258) x17 x26 x27 x28 x95 (wrap64 (x96 + 1)))) else (none)) else (none)) else (if x7.length < 5864062014805 then (if x6.length < 17592186044416 then (impl_plant_basis.l0 k x0 x5 (x6 ++ [x8]) (x7 ++ [x10]) x26 x27 (wrap64 (x28 + 1))) else (none)) else (none))
end
def impl_plant_basis.f (k : Nat) (a0 : Int) (l1 : List Bool) : Option (List Int) := (plantK.f a0).bind fun t234 => (impl_plant_basis.l0 k a0 t234 (([] : List Int)) (([] : List (List Int))) l1 (l1.length : Int) 0)
theorem impl_plant_basis.mono_l : ∀ k, (∀ y0 y1 y2 y3 y4 y5 y6, LeO (impl_plant_basis.l0 k y0 y1 y2 y3 y4 y5 y6) (impl_plant_basis.l0 (k + 1) y0 y1 y2 y3 y4 y5 y6)) ∧ (∀ y0 y1 y2 y3 y4 y5 y6 y7 y8, LeO (impl_plant_basis.j1 k y0 y1 y2 y3 y4 y5 y6 y7 y8) (impl_plant_basis.j1 (k + 1) y0 y1 y2 y3 y4 y5 y6 y7 y8)) ∧ (∀ y0 y1 y2 y3 y4 y5 y6 y7 y8 y9 y10 y11, LeO (impl_plant_basis.l1 k y0 y1 y2 y3 y4 y5 y6 y7 y8 y9 y10 y11) (impl_plant_basis.l1 (k + 1) y0 y1 y2 y3 y4 y5 y6 y7 y8 y9 y10 y11)) ∧ (∀ y0 y1 y2 y3 y4 y5 y6 y7 y8 y9 y10 y11 y12 y13 y14 y15, LeO (impl_plant_basis.l2 k y0 y1 y2 y3 y4 y5 y6 y7 y8 y9 y10 y11 y12 y13 y14 y15) (impl_plant_basis.l2 (k + 1) y0 y1 y2 y3 y4 y5 y6 y7 y8 y9 y10 y11 y12 y13 y14 y15)) ∧ (∀ y0 y1 y2 y3 y4 y5 y6 y7 y8 y9 y10 y11, LeO (impl_plant_basis.l3 k y0 y1 y2 y3 y4 y5 y6 y7 y8 y9 y10 y11) (impl_plant_basis.l3 (k + 1) y0 y1 y2 y3 y4 y5 y6 y7 y8 y9 y10 y11))
  | 0 => ⟨fun _ _ _ _ _ _ _ r h => by simp [impl_plant_basis.l0] at h, fun _ _ _ _ _ _ _ _ _ r h => by simp [impl_plant_basis.j1] at h, fun _ _ _ _ _ _ _ _ _ _ _ _ r h => by simp [impl_plant_basis.l1] at h, fun _ _ _ _ _ _ _ _ _ _ _ _ _ _ _ _ r h => by simp [impl_plant_basis.l2] at h, fun _ _ _ _ _ _ _ _ _ _ _ _ r h => by simp [impl_plant_basis.l3] at h⟩
  | k + 1 => by
    obtain ⟨ih0, ih1, ih2, ih3, ih4⟩ := impl_plant_basis.mono_l k
    refine ⟨?_, ?_, ?_, ?_, ?_⟩
    · intro y0 y1 y2 y3 y4 y5 y6
      unfold impl_plant_basis.l0
      repeat' first
      | (with_reducible exact ih0 _ _ _ _ _ _ _)
      | (with_reducible exact ih1 _ _ _ _ _ _ _ _ _)
      | (with_reducible exact ih2 _ _ _ _ _ _ _ _ _ _ _ _)
      | (with_reducible exact ih3 _ _ _ _ _ _ _ _ _ _ _ _ _ _ _ _)
      | (with_reducible exact ih4 _ _ _ _ _ _ _ _ _ _ _ _)
      | (with_reducible exact impl_leadOf.mono _ _)
      | (with_reducible exact LeO.refl _)
      | (with_reducible exact LeO.none _)
      | (with_reducible refine LeO.ite ?_ ?_)
      | (with_reducible refine LeO.bind ?_ (fun _ => ?_))
      | exact ih0 _ _ _ _ _ _ _
      | exact ih1 _ _ _ _ _ _ _ _ _
      | exact ih2 _ _ _ _ _ _ _ _ _ _ _ _
      | exact ih3 _ _ _ _ _ _ _ _ _ _ _ _ _ _ _ _
      | exact ih4 _ _ _ _ _ _ _ _ _ _ _ _
      | exact impl_leadOf.mono _ _
      | exact LeO.none _
      | refine LeO.ite ?_ ?_
      | refine LeO.bind ?_ (fun _ => ?_)
    · intro y0 y1 y2 y3 y4 y5 y6 y7 y8
      unfold impl_plant_basis.j1
      repeat' first
      | (with_reducible exact ih0 _ _ _ _ _ _ _)
      | (with_reducible exact ih1 _ _ _ _ _ _ _ _ _)
      | (with_reducible exact ih2 _ _ _ _ _ _ _ _ _ _ _ _)
      | (with_reducible exact ih3 _ _ _ _ _ _ _ _ _ _ _ _ _ _ _ _)
      | (with_reducible exact ih4 _ _ _ _ _ _ _ _ _ _ _ _)
      | (with_reducible exact impl_leadOf.mono _ _)
      | (with_reducible exact LeO.refl _)
      | (with_reducible exact LeO.none _)
      | (with_reducible refine LeO.ite ?_ ?_)
      | (with_reducible refine LeO.bind ?_ (fun _ => ?_))
      | exact ih0 _ _ _ _ _ _ _
      | exact ih1 _ _ _ _ _ _ _ _ _
      | exact ih2 _ _ _ _ _ _ _ _ _ _ _ _
      | exact ih3 _ _ _ _ _ _ _ _ _ _ _ _ _ _ _ _
      | exact ih4 _ _ _ _ _ _ _ _ _ _ _ _
      | exact impl_leadOf.mono _ _
      | exact LeO.none _
      | refine LeO.ite ?_ ?_
      | refine LeO.bind ?_ (fun _ => ?_)
    · intro y0 y1 y2 y3 y4 y5 y6 y7 y8 y9 y10 y11
      unfold impl_plant_basis.l1
      repeat' first
      | (with_reducible exact ih0 _ _ _ _ _ _ _)
      | (with_reducible exact ih1 _ _ _ _ _ _ _ _ _)
      | (with_reducible exact ih2 _ _ _ _ _ _ _ _ _ _ _ _)
      | (with_reducible exact ih3 _ _ _ _ _ _ _ _ _ _ _ _ _ _ _ _)
      | (with_reducible exact ih4 _ _ _ _ _ _ _ _ _ _ _ _)
      | (with_reducible exact impl_leadOf.mono _ _)
      | (with_reducible exact LeO.refl _)
      | (with_reducible exact LeO.none _)
      | (with_reducible refine LeO.ite ?_ ?_)
      | (with_reducible refine LeO.bind ?_ (fun _ => ?_))
      | exact ih0 _ _ _ _ _ _ _
      | exact ih1 _ _ _ _ _ _ _ _ _
      | exact ih2 _ _ _ _ _ _ _ _ _ _ _ _
      | exact ih3 _ _ _ _ _ _ _ _ _ _ _ _ _ _ _ _
      | exact ih4 _ _ _ _ _ _ _ _ _ _ _ _
      | exact impl_leadOf.mono _ _
      | exact LeO.none _
      | refine LeO.ite ?_ ?_
      | refine LeO.bind ?_ (fun _ => ?_)
    · intro y0 y1 y2 y3 y4 y5 y6 y7 y8 y9 y10 y11 y12 y13 y14 y15
      unfold impl_plant_basis.l2
      repeat' first
      | (with_reducible exact ih0 _ _ _ _ _ _ _)
      | (with_reducible exact ih1 _ _ _ _ _ _ _ _ _)
      | (with_reducible exact ih2 _ _ _ _ _ _ _ _ _ _ _ _)
      | (with_reducible exact ih3 _ _ _ _ _ _ _ _ _ _ _ _ _ _ _ _)
      | (with_reducible exact ih4 _ _ _ _ _ _ _ _ _ _ _ _)
      | (with_reducible exact impl_leadOf.mono _ _)
      | (with_reducible exact LeO.refl _)
      | (with_reducible exact LeO.none _)
      | (with_reducible refine LeO.ite ?_ ?_)
      | (with_reducible refine LeO.bind ?_ (fun _ => ?_))
      | exact ih0 _ _ _ _ _ _ _
      | exact ih1 _ _ _ _ _ _ _ _ _
      | exact ih2 _ _ _ _ _ _ _ _ _ _ _ _
      | exact ih3 _ _ _ _ _ _ _ _ _ _ _ _ _ _ _ _
      | exact ih4 _ _ _ _ _ _ _ _ _ _ _ _
      | exact impl_leadOf.mono _ _
      | exact LeO.none _
      | refine LeO.ite ?_ ?_
      | refine LeO.bind ?_ (fun _ => ?_)
    · intro y0 y1 y2 y3 y4 y5 y6 y7 y8 y9 y10 y11
      unfold impl_plant_basis.l3
      repeat' first
      | (with_reducible exact ih0 _ _ _ _ _ _ _)
      | (with_reducible exact ih1 _ _ _ _ _ _ _ _ _)
      | (with_reducible exact ih2 _ _ _ _ _ _ _ _ _ _ _ _)
      | (with_reducible exact ih3 _ _ _ _ _ _ _ _ _ _ _ _ _ _ _ _)
      | (with_reducible exact ih4 _ _ _ _ _ _ _ _ _ _ _ _)
      | (with_reducible exact impl_leadOf.mono _ _)
      | (with_reducible exact LeO.refl _)
      | (with_reducible exact LeO.none _)
      | (with_reducible refine LeO.ite ?_ ?_)
      | (with_reducible refine LeO.bind ?_ (fun _ => ?_))
      | exact ih0 _ _ _ _ _ _ _
      | exact ih1 _ _ _ _ _ _ _ _ _
      | exact ih2 _ _ _ _ _ _ _ _ _ _ _ _
      | exact ih3 _ _ _ _ _ _ _ _ _ _ _ _ _ _ _ _
      | exact ih4 _ _ _ _ _ _ _ _ _ _ _ _
      | exact impl_leadOf.mono _ _
      | exact LeO.none _
      | refine LeO.ite ?_ ?_
      | refine LeO.bind ?_ (fun _ => ?_)
theorem impl_plant_basis.mono : ∀ a0 a1 k, LeO (impl_plant_basis.f k a0 a1) (impl_plant_basis.f (k + 1) a0 a1) := by
  intro a0 a1 k
  obtain ⟨ih0, ih1, ih2, ih3, ih4⟩ := impl_plant_basis.mono_l k
  unfold impl_plant_basis.f
  repeat' first
      | (with_reducible exact ih0 _ _ _ _ _ _ _)
      | (with_reducible exact ih1 _ _ _ _ _ _ _ _ _)
      | (with_reducible exact ih2 _ _ _ _ _ _ _ _ _ _ _ _)
      | (with_reducible exact ih3 _ _ _ _ _ _ _ _ _ _ _ _ _ _ _ _)
      | (with_reducible exact ih4 _ _ _ _ _ _ _ _ _ _ _ _)
      | (with_reducible exact impl_leadOf.mono _ _)
      | (with_reducible exact LeO.refl _)
      | (with_reducible exact LeO.none _)
      | (with_reducible refine LeO.ite ?_ ?_)
      | (with_reducible refine LeO.bind ?_ (fun _ => ?_))
      | exact ih0 _ _ _ _ _ _ _
      | exact ih1 _ _ _ _ _ _ _ _ _
      | exact ih2 _ _ _ _ _ _ _ _ _ _ _ _
      | exact ih3 _ _ _ _ _ _ _ _ _ _ _ _ _ _ _ _
      | exact ih4 _ _ _ _ _ _ _ _ _ _ _ _
      | exact impl_leadOf.mono _ _
      | exact LeO.none _
      | refine LeO.ite ?_ ?_
      | refine LeO.bind ?_ (fun _ => ?_)
def impl_plant_basis.T18 : Bool × List (List Nat × List Nat) := (true, [([], []), ([], []), ([0, 1], [0, 1]), ([2], [2]), ([], []), ([4], [4]), ([5], [5]), ([6], [6]), ([], []), ([], []), ([], []), ([9, 10], [9, 10]), ([11], [11]), ([7, 8, 12], [7, 8, 12]), ([3, 13], [3, 13]), ([0, 1, 0, 1, 2, 3, 4, 5, 6, 7, 8, 9, 10, 11, 12, 13, 14], [0, 1]), ([15, 14, 13, 0, 1, 2, 3, 4, 5, 6, 7, 8, 9, 10, 11, 12, 13, 14], [14, 15])])
def impl_plant_basis.B18 : List Nat := [0, 0, 3, 7, 0, 16, 48, 112, 0, 0, 0, 1536, 3584, 8176, 16383, 32767, 65535]
theorem impl_plant_basis.tab18 : rtab .any (opsOf Try.f29 18) = impl_plant_basis.T18 := by kernel_rfl
theorem impl_plant_basis.bits18 : waitsOk impl_plant_basis.T18.2 impl_plant_basis.B18 = true := by kernel_rfl
def impl_plant_basis.T23 : Bool × List (List Nat × List Nat) := (true, [([], []), ([0], [0]), ([1], [1]), ([2], [2]), ([], []), ([], []), ([4, 5], [4, 5]), ([6], [6]), ([3, 7], [3, 7]), ([8, 8, 0, 1, 2, 3, 4, 5, 6, 7, 8], [8])])
def impl_plant_basis.B23 : List Nat := [0, 1, 3, 7, 0, 0, 48, 112, 255, 511]
theorem impl_plant_basis.tab23 : rtab .any (opsOf Try.f29 23) = impl_plant_basis.T23 := by kernel_rfl
theorem impl_plant_basis.bits23 : waitsOk impl_plant_basis.T23.2 impl_plant_basis.B23 = true := by kernel_rfl
def impl_plant_basis.T27 : Bool × List (List Nat × List Nat) := (true, [([], []), ([], []), ([], []), ([2], [2]), ([3], [3]), ([4], [4]), ([], []), ([], []), ([6, 7], [6, 7]), ([8], [8]), ([], []), ([5, 9, 10], [5, 9, 10]), ([0, 1, 0, 1, 2, 3, 4, 5, 6, 7, 8, 9, 10, 11], [0, 1]), ([12, 11, 11, 0, 1, 2, 3, 4, 5, 6, 7, 8, 9, 10, 11], [11, 12])])
def impl_plant_basis.B27 : List Nat := [0, 0, 0, 4, 12, 28, 0, 0, 192, 448, 0, 2044, 4095, 8191]
theorem impl_plant_basis.tab27 : rtab .any (opsOf Try.f29 27) = impl_plant_basis.T27 := by kernel_rfl
theorem impl_plant_basis.bits27 : waitsOk impl_plant_basis.T27.2 impl_plant_basis.B27 = true := by kernel_rfl
set_option maxHeartbeats 8000000 in
set_option maxRecDepth 100000 in
set_option maxHeartbeats 8000000 in
set_option maxRecDepth 100000 in
theorem impl_plant_basis.calls (k : Nat) {a0 : Int} (gP : Nat) (A1 : Option Addr) (c1 : Nat) (l1 : List Bool) (r : List Int) (w : World) (hr1 : Kd.C Kd.bool w A1 l1.length l1) (hc1 : l1.length ≤ c1) (h : impl_plant_basis.f k a0 l1 = some r) (hP : PlantAt w gP a0) :
  Calls Try.prog 29 #[.pointer (some ⟨gP, 0, none⟩), .slice A1 l1.length c1] w fun e w' => ∃ v0_ : Value, e = .returned (v0_) ∧ Kd.R (Kd.int .i64) 3 w' w.heap.size (fun _ => True) v0_ r ∧ Below w.heap.size w w' := by
 have hu55 := Try.underlying55
 have hu29 := Try.underlying29
 have HP := Aside0.mk hP
 clear hP
 obtain ⟨gT, hk0_, hT_⟩ := HP.out.at_.tab
 have HK0 := Aside0.mk hk0_
 have HTT := Aside0.mk hT_
 clear hk0_ hT_
 have HR1 := Aside0.mk hr1
 have HC1 := Aside0.mk hc1
 clear hr1 hc1
 have HB := Aside0.mk (Below.refl w.heap.size w)
 have H : ((plantK.f a0).bind fun t234 => (impl_plant_basis.l0 k a0 t234 (([] : List Int)) (([] : List (List Int))) l1 (l1.length : Int) 0)) = some r := h
 clear h
 replace H := Option.bind_eq_some_iff.mp H
 obtain ⟨t234, A30, H⟩ := H
 replace H : (impl_plant_basis.l0 k a0 t234 (([] : List Int)) (([] : List (List Int))) l1 (l1.length : Int) 0) = some r := H
 have A3 := Aside0.mk A30
 clear A30
 have hk_t234 := plant_cell (F := plantK.f a0) HP.out.at_.k A3.out rfl
 obtain ⟨y235, hy235⟩ : ∃ y_ : List Int, y_ = (([] : List Int)) := ⟨_, rfl⟩
 replace H : (impl_plant_basis.l0 k a0 t234 y235 (([] : List (List Int))) l1 (l1.length : Int) 0) = some r := by first | (rw [hy235]; with_reducible exact H) | (have H2_ := (Option.bind_some _ _).symm.trans H; rw [hy235]; with_reducible exact H2_) | (have H2_ := (Option.bind_some _ _).symm.trans H; with_reducible exact H2_) | with_reducible exact H | (rw [hy235]; exact H) | exact H
 have Ny235 := Aside0.mk hy235
 clear hy235
 obtain ⟨y238, hy238⟩ : ∃ y_ : List (List Int), y_ = (([] : List (List Int))) := ⟨_, rfl⟩
 replace H : (impl_plant_basis.l0 k a0 t234 y235 y238 l1 (l1.length : Int) 0) = some r := by first | (rw [hy238]; with_reducible exact H) | (have H2_ := (Option.bind_some _ _).symm.trans H; rw [hy238]; with_reducible exact H2_) | (have H2_ := (Option.bind_some _ _).symm.trans H; with_reducible exact H2_) | with_reducible exact H | (rw [hy238]; exact H) | exact H
 have Ny238 := Aside0.mk hy238
 clear hy238
 have H' := Aside0.mk H
 clear H
 go_enter Try.func29, Try.ntmps29
 go_wp2_with (first | ((with_reducible refine gate_dst (N := 24) rfl ?_); (try (refine gate_guard (by rfl) ?_; dsimp only)); refine Kd.R_lit (Kd.int .i64) _ 3 ?hg (N := 24) ?hd (xs := ([] : List Int)) (inner := []) (ok := fun _ => True) (okp := fun _ => True) ?hr ?hp (fun _ hk => hk) trivial (Below.refl _ _) (Nat.le_refl _) (by simp) ?_; (case hd => rfl); (case hg => rfl); (case hr => first | (go_simp; done) | (go_simp; rfl)); (case hp => exact (Reps.none _ _)); intro v236 w4 ho5 hb hg_ hnew_; clear hg_ hnew_; (first | rw [← Ny235.out] at ho5 | (simp only [Int.reduceToNat] at ho5; rw [← Ny235.out] at ho5)); have n0_ := Aside0.mk (Kd.R_lower ho5 (below_size (by first | exact Grow.bl HB.out | exact HB.out))); have n1_ := Aside0.mk (below_step (by first | exact Grow.bl HB.out | exact HB.out) hb); clear HB; have HO237 := n0_; have HB := n1_; clear n0_ n1_; clear hb ho5) | ((with_reducible refine gate_dst (N := 25) rfl ?_); (try (refine gate_guard (by rfl) ?_; dsimp only)); refine Kd.S_lit (Kd.slice 5 (Kd.int .u8)) _ 77 ?hg (N := 25) ?hd (xs := ([] : List (List Int))) (inner := []) (ok := fun _ => True) (okp := fun _ => True) ?hr ?hp (fun _ hk => hk) trivial (Below.refl _ _) (Nat.le_refl _) (by simp) ?_; (case hd => rfl); (case hg => rfl); (case hr => first | (go_simp; done) | (go_simp; rfl)); (case hp => exact (Reps.none _ _)); intro v239 w6 ho7 hb hg_ hnew_; clear hg_ hnew_; (first | rw [← Ny238.out] at ho7 | (simp only [Int.reduceToNat] at ho7; rw [← Ny238.out] at ho7)); have n0_ := Aside0.mk (Kd.R_below (by first | exact Grow.rg HO237.out | exact HO237.out) hb); have n1_ := Aside0.mk (Kd.S_lower ho7 (below_size (by first | exact Grow.bl HB.out | exact HB.out))); have n2_ := Aside0.mk (below_step (by first | exact Grow.bl HB.out | exact HB.out) hb); clear HO237; clear HB; have HO237 := n0_; have HO240 := n1_; have HB := n2_; clear n0_ n1_ n2_; clear hb ho7))
 go_loopg [6, 7, 28] k (fun kq v6 v7 v28 w' => ∃ (x6_1 : List Int) (x7_1 : List (List Int)) (x28_1 : Int), v28 = .int .i64 x28_1 ∧ Aside0 (impl_plant_basis.l0 kq a0 t234 x6_1 x7_1 l1 (l1.length : Int) x28_1 = some r) ∧ Aside0 (kq ≤ k) ∧ Aside0 (Kd.R (Kd.int .i64) 3 w' w.heap.size (fun _ => True) v6 x6_1) ∧ Aside0 (Kd.S (Kd.slice 5 (Kd.int .u8)) 77 w' w.heap.size (fun _ => True) v7 x7_1) ∧ Aside0 (Below w.heap.size w w'))
 case atStart => exact ⟨(y235), (y238), (0), (by first | rfl | (simp; done) | (simp [*]; done)), H', ⟨Nat.le_refl _⟩, ⟨by first | exact Grow.rg HO237.out | exact HO237.out⟩, ⟨by first | exact Grow.sg HO240.out | exact HO240.out⟩, ⟨by first | exact Grow.bl HB.out | exact HB.out⟩⟩
 case round =>
  clear H'
  try clear c1
  try clear c2
  try clear p2
  obtain ⟨x6_1, x7_1, x28_1, rfl, HA, HK1, HO_6, HO_7, HB⟩ := hrel
  cases gk with
  | zero => exact absurd HA.out (by simp [impl_plant_basis.l0])
  | succ k1 =>
   have H := HA.out
   clear HA
   simp only [impl_plant_basis.l0] at H
   by_cases c8 : x28_1 < (l1.length : Int)
   rotate_left
   ·
    rw [if_neg c8] at H
    have c8b0 : decide (x28_1 < (l1.length : Int)) = false := decide_eq_false c8
    clear c8
    obtain rfl := Option.some.inj H
    go_wp2
    go_ret
    exact ⟨_, by first | rfl | (simp [errW_none, errW_some] <;> rfl) | (simp [*, errW_none, errW_some] <;> rfl), by (with_reducible repeat (first | apply Kd.R_alloc | apply Kd.R_drewN | apply Kd.R_drew)); exact HO_6.out, by first | exact Grow.bl HB.out | exact HB.out⟩
   rw [if_pos c8] at H
   have c8b0 : decide (x28_1 < (l1.length : Int)) = true := decide_eq_true c8
   clear c8
   by_cases c9 : 0 ≤ x28_1
   rotate_left
   ·
    rw [if_neg c9] at H
    exact absurd H (by simp)
   rw [if_pos c9] at H
   have c9b0 : decide (0 ≤ x28_1) = true := decide_eq_true c9
   clear c9
   by_cases c10 : x28_1 < (l1.length : Int)
   rotate_left
   ·
    rw [if_neg c10] at H
    exact absurd H (by simp)
   rw [if_pos c10] at H
   have c10b0 : decide (x28_1 < (l1.length : Int)) = true := decide_eq_true c10
   clear c10
   have HC11 := Aside0.mk H
   clear H
   have p241 : 0 ≤ (x28_1 : Int) := of_decide_eq_true (by first | (with_reducible assumption) | assumption)
   have q241 : x28_1 < (l1.length : Int) := of_decide_eq_true (by first | (with_reducible assumption) | assumption)
   obtain ⟨ad241, e241, hx241_0⟩ := Kd.at_bool HR1.out x28_1 p241 q241
   cases e241
   replace hx241_0 := Grow.bc HB.out hx241_0
   replace p241 := eq_true p241
   replace q241 := eq_true q241
   go_upto_region 7 with (fail)
   go_cut [9, 40] (fun v9 v40 wc => ∃ (kq : Nat) (x40_10 : Bool), v40 = .bool x40_10 ∧ Aside0 (impl_plant_basis.j1 kq a0 t234 x6_1 x7_1 x28_1 l1 (l1.length : Int) x28_1 x40_10 = some r) ∧ Aside0 (kq ≤ k1) ∧ Aside0 (Kd.R (Kd.int .i64) 3 wc w.heap.size (fun _ => True) u6 x6_1) ∧ Aside0 (Kd.S (Kd.slice 5 (Kd.int .u8)) 77 wc w.heap.size (fun _ => True) u7 x7_1) ∧ Aside0 (Below w.heap.size w wc))
   case first =>
    have H := HC11.out
    clear HC11
    obtain ⟨bq12, hbq12⟩ : ∃ b_ : Bool, b_ = (rdOf false l1 x28_1) := ⟨_, rfl⟩
    replace H : (if bq12 = true then (impl_plant_basis.j1 k1 a0 t234 x6_1 x7_1 x28_1 l1 (l1.length : Int) x28_1 ((x6_1.length : Int) == t234)) else (impl_plant_basis.j1 k1 a0 t234 x6_1 x7_1 x28_1 l1 (l1.length : Int) x28_1 true)) = some r := by rw [← hbq12] at H; exact H
    have Nbq12 := Aside0.mk hbq12
    clear hbq12
    (try rw [← Nbq12.out])
    by_cases c13 : bq12 = true
    rotate_left
    ·
     replace c13 := Bool.eq_false_iff.mpr c13
     subst c13
     (try rw [← Nbq12.out])
     have H1 : (impl_plant_basis.j1 k1 a0 t234 x6_1 x7_1 x28_1 l1 (l1.length : Int) x28_1 true) = some r := by rw [if_neg (show ¬ (false = true) by decide)] at H; exact H
     clear H
     have H := H1
     clear H1
     have H' := Aside0.mk H
     clear H
     go_wp2
     go_meet
     case rel => (try rw [← Nbq12.out]); exact ⟨_, (true), (by first | rfl | (simp; done) | (simp [*]; done)), H', ⟨by have := HK1.out; first | omega | exact Nat.le_refl _⟩, ⟨by first | exact Grow.rg HO_6.out | exact HO_6.out⟩, ⟨by first | exact Grow.sg HO_7.out | exact HO_7.out⟩, ⟨by first | exact Grow.bl HB.out | exact HB.out⟩⟩
    subst c13
    (try rw [← Nbq12.out])
    have H1 : (impl_plant_basis.j1 k1 a0 t234 x6_1 x7_1 x28_1 l1 (l1.length : Int) x28_1 ((x6_1.length : Int) == t234)) = some r := by rw [if_pos rfl] at H; exact H
    clear H
    have H := H1
    clear H1
    have H' := Aside0.mk H
    clear H
    obtain ⟨Ao14, co14, eo14⟩ := Kd.R_slice HO_6.out
    subst eo14
    go_wp2
    go_meet
    case rel => (try rw [← Nbq12.out]); exact ⟨_, (((x6_1.length : Int) == t234)), (by first | rfl | (simp; done) | (simp [*]; done)), H', ⟨by have := HK1.out; first | omega | exact Nat.le_refl _⟩, ⟨by first | exact Grow.rg HO_6.out | exact HO_6.out⟩, ⟨by first | exact Grow.sg HO_7.out | exact HO_7.out⟩, ⟨by first | exact Grow.bl HB.out | exact HB.out⟩⟩
   case rest =>
    clear HC11
    try clear c1
    try clear q1
    try clear c2
    try clear p2
    try clear q2
    try clear hx2
    try clear c8
    try clear c8b0
    try clear c9
    try clear c9b0
    try clear c10
    try clear c10b0
    try clear q12
    try clear c13
    try clear hx241_0
    try clear p2
    try clear p241
    try clear q241
    obtain ⟨kq, x40_10, rfl, HA, HJ10, HO_6, HO_7, HB⟩ := hcut
    cases kq with
    | zero => exact absurd HA.out (by simp [impl_plant_basis.j1])
    | succ kj10 =>
     have H := HA.out
     clear HA
     simp only [impl_plant_basis.j1] at H
     by_cases c15 : x40_10 = true
     ·
      subst c15
      have H1 : (impl_plant_basis.l0 kj10 a0 t234 x6_1 x7_1 l1 (l1.length : Int) (wrap64 (x28_1 + 1))) = some r := by rw [if_pos rfl] at H; exact H
      clear H
      have H := H1
      clear H1
      have H' := Aside0.mk H
      clear H
      go_wp2
      go_roundg kj10
      case measure => have := HK1.out; have := HJ10.out; omega
      case rel => exact ⟨(x6_1), (x7_1), (wrap64 (x28_1 + 1)), (by first | rfl | (simp; done) | (simp [*]; done)), H', ⟨by have := HK1.out; have := HJ10.out; omega⟩, ⟨by first | exact Grow.rg HO_6.out | exact HO_6.out⟩, ⟨by first | exact Grow.sg HO_7.out | exact HO_7.out⟩, ⟨by first | exact Grow.bl HB.out | exact HB.out⟩⟩
     replace c15 := Bool.eq_false_iff.mpr c15
     subst c15
     have H1 : ((impl_plant_row.f a0 x28_1).bind fun t242 => (impl_plant_basis.l1 kj10 a0 t234 x6_1 x7_1 x28_1 t242 l1 (l1.length : Int) x28_1 x7_1 (x7_1.length : Int) 0)) = some r := by rw [if_neg (show ¬ (false = true) by decide)] at H; exact H
     clear H
     have H := H1
     clear H1
     replace H := Option.bind_eq_some_iff.mp H
     obtain ⟨t242, A160, H⟩ := H
     replace H : (impl_plant_basis.l1 kj10 a0 t234 x6_1 x7_1 x28_1 t242 l1 (l1.length : Int) x28_1 x7_1 (x7_1.length : Int) 0) = some r := H
     have A16 := Aside0.mk A160
     clear A160
     have H' := Aside0.mk H
     clear H
     go_wp2_with (first | ((with_reducible refine gate_callee (f := 36) rfl ?_); refine goesL_ (some 43) rfl rfl Try.func36 (by kernel_rfl) rfl #[.pointer (some ⟨gP, 0, none⟩), .int .i64 x28_1] rfl (by (try simp only [List.map_toArray, List.map_cons, List.map_nil]); first | done | rfl | (simp only [List.length_drop, List.length_take]; rfl)) ?_; (with_reducible refine (impl_plant_row.calls gP x28_1 t242 _ A16.out (HP.out.below (by first | exact Grow.bl HB.out | exact HB.out))).mono ?_); rintro e w17 ⟨v243, rfl, ho0, hb⟩; refine ⟨_, rfl, ?_⟩; have n0_ := Aside0.mk (Kd.R_below (by first | exact Grow.rg HO_6.out | exact HO_6.out) hb); have n1_ := Aside0.mk (Kd.S_elder' (by first | exact Grow.sg HO_7.out | exact HO_7.out) (Kd.R_base ho0) hb); have n2_ := Aside0.mk (Kd.R_lower ho0 (below_size (by first | exact Grow.bl HB.out | exact HB.out))); have n3_ := Aside0.mk (below_step (by first | exact Grow.bl HB.out | exact HB.out) hb); clear HO_6; clear HO_7; clear HB; have HO_6 := n0_; have HO_7 := n1_; have HO244 := n2_; have HB := n3_; clear n0_ n1_ n2_ n3_; (try clear hb); (try clear hb2); (try clear hk); (try clear hi); (try clear ho0); obtain ⟨Ao18, co18, eo18⟩ := Kd.S_slice HO_7.out; subst eo18))
     go_loopg [46] kj10 (fun kq v46 w' => ∃ (x10_3 : List Int) (x46_3 : Int), v46 = .int .i64 x46_3 ∧ Aside0 (impl_plant_basis.l1 kq a0 t234 x6_1 x7_1 x28_1 x10_3 l1 (l1.length : Int) x28_1 x7_1 (x7_1.length : Int) x46_3 = some r) ∧ Aside0 (kq ≤ kj10) ∧ Aside0 (Kd.R (Kd.int .i64) 3 w' w.heap.size (fun _ => True) u6 x6_1) ∧ Aside0 (Kd.S (Kd.slice 5 (Kd.int .u8)) 77 w' w.heap.size (fun k_ => some k_ ≠ (v243 : Value).ownBlock) (.slice Ao18 x7_1.length co18) x7_1) ∧ Aside0 (Kd.R (Kd.int .u8) 5 w' w.heap.size (fun _ => True) v243 x10_3) ∧ Aside0 (Kd.S (Kd.slice 5 (Kd.int .u8)) 77 w' w.heap.size (fun k_ => some k_ ≠ (v243 : Value).ownBlock) (.slice Ao18 x7_1.length co18) x7_1) ∧ Aside0 (Below w.heap.size w w'))
     case atStart => exact ⟨(t242), (0), (by first | rfl | (simp; done) | (simp [*]; done)), H', ⟨Nat.le_refl _⟩, ⟨by first | exact Grow.rg HO_6.out | exact HO_6.out⟩, ⟨by (with_reducible repeat (first | apply Kd.S_alloc | apply Kd.S_drewN | apply Kd.S_drew)); exact Kd.S_mono HO_7.out (fun _ hk => hk.2)⟩, ⟨by first | exact Grow.rg HO244.out | exact HO244.out⟩, ⟨by (with_reducible repeat (first | apply Kd.S_alloc | apply Kd.S_drewN | apply Kd.S_drew)); exact Kd.S_mono HO_7.out (fun _ hk => hk.2)⟩, ⟨by first | exact Grow.bl HB.out | exact HB.out⟩⟩
     case round =>
      clear H'
      try clear c1
      try clear q1
      try clear c2
      try clear p2
      try clear q2
      try clear hx2
      try clear c3
      try clear p6
      try clear c8
      try clear c8b0
      try clear c9
      try clear c9b0
      try clear c10
      try clear c10b0
      try clear q12
      try clear c13
      try clear c15
      try clear hx241_0
      try clear p2
      try clear p241
      try clear q1
      try clear q12
      try clear q2
      try clear q241
      obtain ⟨x10_3, x46_3, rfl, HA, HK3, HO_6, HO_7, HO_10, HO_44, HB⟩ := hrel
      cases gk with
      | zero => exact absurd HA.out (by simp [impl_plant_basis.l1])
      | succ k3 =>
       have H := HA.out
       clear HA
       simp only [impl_plant_basis.l1] at H
       by_cases c19 : x46_3 < (x7_1.length : Int)
       ·
        rw [if_pos c19] at H
        have c19b0 : decide (x46_3 < (x7_1.length : Int)) = true := decide_eq_true c19
        clear c19
        replace H := Option.bind_eq_some_iff.mp H
        obtain ⟨t245, A200, H⟩ := H
        replace H : ((impl_leadOf.f k3 t245).bind fun t248 => (if 0 ≤ t248 then (if t248 < (x10_3.length : Int) then (if (rd x10_3 t248) = 0 then (impl_plant_basis.l1 k3 a0 t234 x6_1 x7_1 x28_1 x10_3 l1 (l1.length : Int) x28_1 x7_1 (x7_1.length : Int) (wrap64 (x46_3 + 1))) else (impl_plant_basis.l2 k3 a0 t234 x6_1 x7_1 x28_1 x10_3 t245 (rd x10_3 t248) l1 (l1.length : Int) x28_1 x7_1 (x7_1.length : Int) x46_3 (x10_3.length : Int) 0)) else (none)) else (none))) = some r := H
        have A20 := Aside0.mk A200
        clear A200
        replace H := Option.bind_eq_some_iff.mp H
        obtain ⟨t248, A210, H⟩ := H
        replace H : (if 0 ≤ t248 then (if t248 < (x10_3.length : Int) then (if (rd x10_3 t248) = 0 then (impl_plant_basis.l1 k3 a0 t234 x6_1 x7_1 x28_1 x10_3 l1 (l1.length : Int) x28_1 x7_1 (x7_1.length : Int) (wrap64 (x46_3 + 1))) else (impl_plant_basis.l2 k3 a0 t234 x6_1 x7_1 x28_1 x10_3 t245 (rd x10_3 t248) l1 (l1.length : Int) x28_1 x7_1 (x7_1.length : Int) x46_3 (x10_3.length : Int) 0)) else (none)) else (none)) = some r := H
        have A21 := Aside0.mk A210
        clear A210
        by_cases c22 : 0 ≤ t248
        rotate_left
        ·
         rw [if_neg c22] at H
         exact absurd H (by simp)
        rw [if_pos c22] at H
        have c22b0 : decide (0 ≤ t248) = true := decide_eq_true c22
        clear c22
        by_cases c23 : t248 < (x10_3.length : Int)
        rotate_left
        ·
         rw [if_neg c23] at H
         exact absurd H (by simp)
        rw [if_pos c23] at H
        have c23b0 : decide (t248 < (x10_3.length : Int)) = true := decide_eq_true c23
        clear c23
        by_cases c24 : (rd x10_3 t248) = 0
        ·
         rw [if_pos c24] at H
         have c24b0 : ((rd x10_3 t248) == 0) = true := beq_iff_eq.mpr c24
         have c24b1 : ((rd x10_3 t248) != 0) = false := bne_eq_false_iff_eq.mpr c24
         clear c24
         have H' := Aside0.mk H
         clear H
         have e20_ := rowOf_eq A20.out
         obtain ⟨adS, Ao26, co26, eS_, hx20, hR20⟩ := bs_elem HO_44.out x46_3 e20_.1 e20_.2.1
         cases eS_
         rw [e20_.2.2] at hx20 hR20
         have n0_ := Aside0.mk (bs_apart HO_10.out hR20 (fun _ hk => hk))
         have n1_ := Aside0.mk (Kd.R_mono hR20 (fun k_ hk => (⟨trivial, hk⟩ : True ∧ _)))
         clear HO_10 hR20
         have HO_10 := n0_
         have HO247 := n1_
         clear n0_ n1_
         have p20 := eq_true e20_.1
         have q20 := eq_true e20_.2.1
         clear e20_
         go_wp2_with (first | ((with_reducible refine gate_callee (f := 37) rfl ?_); refine goesL_ (some 51) rfl rfl Try.func37 (by kernel_rfl) rfl #[.slice Ao26 t245.length co26] rfl (by (try simp only [List.map_toArray, List.map_cons, List.map_nil]); first | done | rfl | (simp only [List.length_drop, List.length_take]; rfl)) ?_; (with_reducible refine (impl_leadOf.calls k3 _ _ t245 t248 _ ?side1 ?side2 A21.out).mono ?_); (case side1 => repeat (first | exact (Kd.R_reads' HO247.out).2.2 | (with_reducible refine Kd.C_alloc ?_ _) | (with_reducible refine Kd.C_drewN ?_ _) | (with_reducible refine Kd.C_drew ?_))); (case side2 => exact (Kd.R_reads' HO247.out).2.1); rintro e w' ⟨rfl, ⟨nd, rfl⟩⟩; refine ⟨_, rfl, ?_⟩; obtain ⟨Ao27, co27, eo27⟩ := Kd.R_slice HO_10.out; subst eo27; have p249 : 0 ≤ (t248 : Int) := of_decide_eq_true (by first | (with_reducible assumption) | assumption); have q249 : t248 < (x10_3.length : Int) := of_decide_eq_true (by first | (with_reducible assumption) | assumption); obtain ⟨ad249, e249, hx249_0⟩ := Kd.at_int (Kd.R_reads' HO_10.out).2.2 t248 p249 q249; cases e249; replace p249 := eq_true p249; replace q249 := eq_true q249))
         go_roundg k3
         case measure => have := HK1.out; have := HJ10.out; have := HK3.out; omega
         case rel => exact ⟨(x10_3), (wrap64 (x46_3 + 1)), (by first | rfl | (simp; done) | (simp [*]; done)), H', ⟨by have := HK1.out; have := HJ10.out; have := HK3.out; omega⟩, ⟨by first | exact Grow.rg HO_6.out | exact HO_6.out⟩, ⟨by first | exact Grow.sg HO_7.out | exact HO_7.out⟩, ⟨by (with_reducible repeat (first | apply Kd.R_alloc | apply Kd.R_drewN | apply Kd.R_drew)); exact Kd.R_mono HO_10.out (fun _ hk => trivial)⟩, ⟨by first | exact Grow.sg HO_44.out | exact HO_44.out⟩, ⟨by first | exact Grow.bl HB.out | exact HB.out⟩⟩
        rw [if_neg c24] at H
        have c24b0 : ((rd x10_3 t248) == 0) = false := beq_eq_false_iff_ne.mpr c24
        have c24b1 : ((rd x10_3 t248) != 0) = true := bne_iff_ne.mpr c24
        have H' := Aside0.mk H
        clear H
        have e20_ := rowOf_eq A20.out
        obtain ⟨adS, Ao29, co29, eS_, hx20, hR20⟩ := bs_elem HO_44.out x46_3 e20_.1 e20_.2.1
        cases eS_
        rw [e20_.2.2] at hx20 hR20
        have n0_ := Aside0.mk (bs_apart HO_10.out hR20 (fun _ hk => hk))
        have n1_ := Aside0.mk (Kd.R_mono hR20 (fun k_ hk => (⟨trivial, hk⟩ : True ∧ _)))
        clear HO_10 hR20
        have HO_10 := n0_
        have HO247 := n1_
        clear n0_ n1_
        have p20 := eq_true e20_.1
        have q20 := eq_true e20_.2.1
        clear e20_
        go_wp2_with (first | ((with_reducible refine gate_callee (f := 37) rfl ?_); refine goesL_ (some 51) rfl rfl Try.func37 (by kernel_rfl) rfl #[.slice Ao29 t245.length co29] rfl (by (try simp only [List.map_toArray, List.map_cons, List.map_nil]); first | done | rfl | (simp only [List.length_drop, List.length_take]; rfl)) ?_; (with_reducible refine (impl_leadOf.calls k3 _ _ t245 t248 _ ?side1 ?side2 A21.out).mono ?_); (case side1 => repeat (first | exact (Kd.R_reads' HO247.out).2.2 | (with_reducible refine Kd.C_alloc ?_ _) | (with_reducible refine Kd.C_drewN ?_ _) | (with_reducible refine Kd.C_drew ?_))); (case side2 => exact (Kd.R_reads' HO247.out).2.1); rintro e w' ⟨rfl, ⟨nd, rfl⟩⟩; refine ⟨_, rfl, ?_⟩; obtain ⟨Ao30, co30, eo30⟩ := Kd.R_slice HO_10.out; subst eo30; have p249 : 0 ≤ (t248 : Int) := of_decide_eq_true (by first | (with_reducible assumption) | assumption); have q249 : t248 < (x10_3.length : Int) := of_decide_eq_true (by first | (with_reducible assumption) | assumption); obtain ⟨ad249, e249, hx249_0⟩ := Kd.at_int (Kd.R_reads' HO_10.out).2.2 t248 p249 q249; cases e249; replace p249 := eq_true p249; replace q249 := eq_true q249))
        generalize Value.pointer (some (ad249.add t248.toNat)) = uPt_
        go_loopg [60] k3 (fun kq v60 w' => ∃ (x10_4 : List Int) (x60_4 : Int), v60 = .int .i64 x60_4 ∧ Aside0 (impl_plant_basis.l2 kq a0 t234 x6_1 x7_1 x28_1 x10_4 t245 (rd x10_3 t248) l1 (l1.length : Int) x28_1 x7_1 (x7_1.length : Int) x46_3 (x10_3.length : Int) x60_4 = some r) ∧ Aside0 (kq ≤ k3) ∧ Aside0 (Kd.R (Kd.int .i64) 3 w' w.heap.size (fun _ => True) u6 x6_1) ∧ Aside0 (Kd.S (Kd.slice 5 (Kd.int .u8)) 77 w' w.heap.size (fun k_ => some k_ ≠ ((.slice (some ad249) x10_3.length co30) : Value).ownBlock) (.slice (some adS) x7_1.length co18) x7_1) ∧ Aside0 (Kd.R (Kd.int .u8) 5 w' w.heap.size (fun k_ => some k_ ≠ ((.slice Ao29 t245.length co29) : Value).ownBlock) (.slice (some ad249) x10_3.length co30) x10_4) ∧ Aside0 (Kd.R (Kd.int .u8) 5 w' w.heap.size (fun k_ => some k_ ≠ ((.slice (some ad249) x10_3.length co30) : Value).ownBlock) (.slice Ao29 t245.length co29) t245) ∧ Aside0 (Kd.S (Kd.slice 5 (Kd.int .u8)) 77 w' w.heap.size (fun k_ => some k_ ≠ ((.slice (some ad249) x10_3.length co30) : Value).ownBlock) (.slice (some adS) x7_1.length co18) x7_1) ∧ Aside0 (Below w.heap.size w w'))
        case atStart => exact ⟨(x10_3), (0), (by first | rfl | (simp; done) | (simp [*]; done)), H', ⟨Nat.le_refl _⟩, ⟨by first | exact Grow.rg HO_6.out | exact HO_6.out⟩, ⟨by first | exact Grow.sg HO_7.out | exact HO_7.out⟩, ⟨by (with_reducible repeat (first | apply Kd.R_alloc | apply Kd.R_drewN | apply Kd.R_drew)); exact Kd.R_mono HO_10.out (fun _ hk => hk.2)⟩, ⟨by (with_reducible repeat (first | apply Kd.R_alloc | apply Kd.R_drewN | apply Kd.R_drew)); exact Kd.R_mono HO247.out (fun _ hk => hk.2)⟩, ⟨by first | exact Grow.sg HO_44.out | exact HO_44.out⟩, ⟨by first | exact Grow.bl HB.out | exact HB.out⟩⟩
        case round =>
         clear H'
         try clear c1
         try clear q1
         try clear c2
         try clear p2
         try clear q2
         try clear hx2
         try clear c3
         try clear p6
         try clear c8
         try clear c8b0
         try clear c9
         try clear c9b0
         try clear c10
         try clear c10b0
         try clear q12
         try clear c13
         try clear c15
         try clear c19
         try clear c19b0
         try clear c22
         try clear c22b0
         try clear c23
         try clear c23b0
         try clear c24
         try clear c24b0
         try clear c24b1
         try clear p24
         try clear q24
         try clear hx24
         try clear c29
         try clear hx241_0
         try clear hx249_0
         try clear p2
         try clear p241
         try clear p249
         try clear p6
         try clear q1
         try clear q12
         try clear q2
         try clear q241
         try clear q249
         obtain ⟨x10_4, x60_4, rfl, HA, HK4, HO_6, HO_7, HO_10, HO_12, HO_44, HB⟩ := hrel
         have hl10_4 := (Kd.R_reads' HO_10.out).1
         rw [hl10_4] at HO_10
         (try simp only [hl10_4])
         (try simp only [hl10_4] at HO_6)
         (try simp only [hl10_4] at HO_7)
         (try simp only [hl10_4] at HO_12)
         (try simp only [hl10_4] at HO_44)
         cases gk with
         | zero => exact absurd HA.out (by simp [impl_plant_basis.l2])
         | succ k4 =>
          have H := HA.out
          clear HA
          simp only [impl_plant_basis.l2] at H
          by_cases c31 : x60_4 < (x10_3.length : Int)
          rotate_left
          ·
           rw [if_neg c31] at H
           have c31b0 : decide (x60_4 < (x10_3.length : Int)) = false := decide_eq_false c31
           have c31b1 : decide (x60_4 < (x10_4.length : Int)) = false := by rw [← hl10_4]; exact c31b0
           clear c31
           have H' := Aside0.mk H
           clear H
           go_wp2
           (try simp only [← hl10_4])
           go_roundg k4
           case measure => have := HK1.out; have := HJ10.out; have := HK3.out; have := HK4.out; omega
           case rel => exact ⟨(x10_4), (wrap64 (x46_3 + 1)), (by first | rfl | (simp; done) | (simp [*]; done)), H', ⟨by have := HK1.out; have := HJ10.out; have := HK3.out; have := HK4.out; omega⟩, ⟨by (try simp only [hl10_4]); (with_reducible repeat (first | apply Kd.R_alloc | apply Kd.R_drewN | apply Kd.R_drew)); exact HO_6.out⟩, ⟨by (try simp only [hl10_4]); (with_reducible repeat (first | apply Kd.S_alloc | apply Kd.S_drewN | apply Kd.S_drew)); exact HO_7.out⟩, ⟨by (try simp only [hl10_4]); (with_reducible repeat (first | apply Kd.R_alloc | apply Kd.R_drewN | apply Kd.R_drew)); exact Kd.R_mono HO_10.out (fun _ hk => trivial)⟩, ⟨by (try simp only [hl10_4]); (with_reducible repeat (first | apply Kd.S_alloc | apply Kd.S_drewN | apply Kd.S_drew)); exact HO_44.out⟩, ⟨by first | exact Grow.bl HB.out | exact HB.out⟩⟩
          rw [if_pos c31] at H
          have c31b0 : decide (x60_4 < (x10_3.length : Int)) = true := decide_eq_true c31
          clear c31
          by_cases c32 : 0 ≤ x60_4
          rotate_left
          ·
           rw [if_neg c32] at H
           exact absurd H (by simp)
          rw [if_pos c32] at H
          have c32b0 : decide (0 ≤ x60_4) = true := decide_eq_true c32
          clear c32
          by_cases c33 : x60_4 < (x10_4.length : Int)
          rotate_left
          ·
           rw [if_neg c33] at H
           exact absurd H (by simp)
          rw [if_pos c33] at H
          have c33b0 : decide (x60_4 < (x10_4.length : Int)) = true := decide_eq_true c33
          clear c33
          by_cases c34 : x60_4 < (t245.length : Int)
          rotate_left
          ·
           rw [if_neg c34] at H
           exact absurd H (by simp)
          rw [if_pos c34] at H
          have c34b0 : decide (x60_4 < (t245.length : Int)) = true := decide_eq_true c34
          clear c34
          replace H := Option.bind_eq_some_iff.mp H
          obtain ⟨t252, A350, H⟩ := H
          replace H : (impl_plant_basis.l2 k4 a0 t234 x6_1 x7_1 x28_1 (x10_4.set (x60_4 : Int).toNat (Go.bits .xor .u8 (rd x10_4 x60_4) t252)) t245 (rd x10_3 t248) l1 (l1.length : Int) x28_1 x7_1 (x7_1.length : Int) x46_3 (x10_3.length : Int) (wrap64 (x60_4 + 1))) = some r := H
          have A35 := Aside0.mk A350
          clear A350
          obtain ⟨y253, hy253⟩ : ∃ y_ : List Int, y_ = (x10_4.set (x60_4 : Int).toNat (Go.bits .xor .u8 (rd x10_4 x60_4) t252)) := ⟨_, rfl⟩
          replace H : (impl_plant_basis.l2 k4 a0 t234 x6_1 x7_1 x28_1 y253 t245 (rd x10_3 t248) l1 (l1.length : Int) x28_1 x7_1 (x7_1.length : Int) x46_3 (x10_3.length : Int) (wrap64 (x60_4 + 1))) = some r := by first | (rw [hy253]; with_reducible exact H) | (have H2_ := (Option.bind_some _ _).symm.trans H; rw [hy253]; with_reducible exact H2_) | (have H2_ := (Option.bind_some _ _).symm.trans H; with_reducible exact H2_) | with_reducible exact H | (rw [hy253]; exact H) | exact H
          have Ny253 := Aside0.mk hy253
          clear hy253
          have H' := Aside0.mk H
          clear H
          try go_wp2
          have n0_ := Aside0.mk (Kd.R_drew HO_6.out)
          have n1_ := Aside0.mk (Kd.S_drew HO_7.out)
          have n2_ := Aside0.mk (Kd.R_drew HO_10.out)
          have n3_ := Aside0.mk (Kd.R_drew HO_12.out)
          have n4_ := Aside0.mk (Kd.S_drew HO_44.out)
          have n5_ := Aside0.mk (below_drew1 HB.out)
          clear HO_6
          clear HO_7
          clear HO_10
          clear HO_12
          clear HO_44
          clear HB
          have HO_6 := n0_
          have HO_7 := n1_
          have HO_10 := n2_
          have HO_12 := n3_
          have HO_44 := n4_
          have HB := n5_
          clear n0_ n1_ n2_ n3_ n4_ n5_
          have p250 : 0 ≤ (x60_4 : Int) := of_decide_eq_true (by first | (with_reducible assumption) | assumption)
          have q250 : x60_4 < (x10_4.length : Int) := of_decide_eq_true (by first | (with_reducible assumption) | assumption)
          obtain ⟨ad250, e250, hx250_0⟩ := Kd.at_int (Kd.R_reads' HO_10.out).2.2 x60_4 p250 q250
          obtain rfl : ad249 = ad250 := (by injection e250)
          replace p250 := eq_true p250
          replace q250 := eq_true q250
          have p251 : 0 ≤ (x60_4 : Int) := of_decide_eq_true (by first | (with_reducible assumption) | assumption)
          have q251 : x60_4 < (t245.length : Int) := of_decide_eq_true (by first | (with_reducible assumption) | assumption)
          obtain ⟨ad251, e251, hx251_0⟩ := Kd.at_int (Kd.R_reads' HO_12.out).2.2 x60_4 p251 q251
          cases e251
          replace p251 := eq_true p251
          replace q251 := eq_true q251
          refine start_ (n := 17) (S := fun w' => w'.cell? (ad249.add (x60_4).toNat) = some (.int .u8 (rd x10_4 x60_4)) ∧ w'.cell? (ad251.add (x60_4).toNat) = some (.int .u8 (rd t245 x60_4)) ∧ w'.cell? ⟨gP, 0, none⟩ = some (.pointer (some ⟨gT, 0, none⟩))) (ds := [16]) zf0 (by kernel_rfl) rfl rfl ⟨hx250_0, hx251_0, pw_cell_below HB.out HK0.out⟩ (fun hHeld => ?_); refine with_tabW impl_plant_basis.tab18 impl_plant_basis.bits18 (fun HT_ HW_ => ?_)
          generalize wr.drew = w37 at HO_6 HO_7 HO_10 HO_12 HO_44 HB hx250_0 hx251_0 hHeld ⊢
          refine Cap.pu (v := ?_) (a' := ?_) 0 (some 63) zf1 HT_ rfl rfl (by kernel_rfl) (fun _ _ _ h => h) (Or.inl ⟨by rfl, ?_⟩) ?_ ?_; rotate_left; intro w'; go_simp; with_reducible rfl; rotate_left; simp only [Cap.pz]; rfl
          refine Cap.pu (v := ?_) (a' := ?_) 1 (some 64) zf2 HT_ rfl rfl (by kernel_rfl) (fun _ _ _ h => h) (Or.inl ⟨by rfl, ?_⟩) ?_ ?_; rotate_left; intro w'; go_simp; with_reducible rfl; rotate_left; simp only [Cap.pz]; rfl
          refine Cap.pu (v := ?_) (a' := ?_) 2 (some 65) zf3 HT_ rfl rfl (by kernel_rfl) (fun _ _ _ h => h) (Or.inl ⟨by rfl, ?_⟩) ?_ ?_; rotate_left; intro w'; go_simp; with_reducible rfl; rotate_left; simp only [Cap.pz]; rfl
          refine Cap.pu (v := ?_) (a' := ?_) 4 (some 67) zf4 HT_ rfl rfl (by kernel_rfl) (fun _ _ _ h => h) (Or.inl ⟨by rfl, ?_⟩) ?_ ?_; rotate_left; intro w'; go_simp; with_reducible rfl; rotate_left; simp only [Cap.pz]; rfl
          refine Cap.pu (v := ?_) (a' := ?_) 5 (some 68) zf5 HT_ rfl rfl (by kernel_rfl) (fun _ _ _ h => h) (Or.inl ⟨by rfl, ?_⟩) ?_ ?_; rotate_left; intro w'; go_simp; with_reducible rfl; rotate_left; simp only [Cap.pz]; rfl
          refine Cap.pu (v := ?_) (a' := ?_) 6 (some 69) zf6 HT_ rfl rfl (by kernel_rfl) (fun _ _ _ h => h) (Or.inl ⟨by rfl, ?_⟩) ?_ ?_; rotate_left; intro w'; go_simp; with_reducible rfl; rotate_left; simp only [Cap.pz]; rfl
          refine take_ (i := 7) (N := some 70) (v := ?_) (a' := ?_) zf7 rfl rfl (take_ofW HT_.out HW_.out (by kernel_rfl)) (fun _ _ _ h => h) (Or.inl ⟨by rfl, ?_⟩) hHeld ?_ ?_; rotate_left; rintro w' ⟨s0, s1, s2⟩; go_simp; with_reducible rfl; rotate_left; simp only [Cap.pz]; rfl
          refine Cap.pu (v := ?_) (a' := ?_) 8 (some 71) zf8 HT_ rfl rfl (by kernel_rfl) (fun _ _ _ h => h) (Or.inl ⟨by rfl, ?_⟩) ?_ ?_; rotate_left; intro w'; go_simp; with_reducible rfl; rotate_left; simp only [Cap.pz]; rfl
          refine Cap.pu (v := ?_) (a' := ?_) 9 (some 72) zf9 HT_ rfl rfl (by kernel_rfl) (fun _ _ _ h => h) (Or.inl ⟨by rfl, ?_⟩) ?_ ?_; rotate_left; intro w'; go_simp; with_reducible rfl; rotate_left; simp only [Cap.pz]; rfl
          refine Cap.pu (v := ?_) (a' := ?_) 10 (some 73) zf10 HT_ rfl rfl (by kernel_rfl) (fun _ _ _ h => h) (Or.inl ⟨by rfl, ?_⟩) ?_ ?_; rotate_left; intro w'; go_simp; with_reducible rfl; rotate_left; simp only [Cap.pz]; rfl
          refine Cap.pu (v := ?_) (a' := ?_) 11 (some 74) zf11 HT_ rfl rfl (by kernel_rfl) (fun _ _ _ h => h) (Or.inl ⟨by rfl, ?_⟩) ?_ ?_; rotate_left; intro w'; go_simp; with_reducible rfl; rotate_left; simp only [Cap.pz]; rfl
          refine take_ (i := 3) (N := some 66) (v := ?_) (a' := ?_) zf12 rfl rfl (take_ofW HT_.out HW_.out (by kernel_rfl)) (fun _ _ _ h => h) (Or.inl ⟨by rfl, ?_⟩) hHeld ?_ ?_; rotate_left; rintro w' ⟨s0, s1, s2⟩; go_simp; with_reducible rfl; rotate_left; simp only [Cap.pz]; rfl
          refine take_ (i := 12) (N := some 75) (v := ?_) (a' := ?_) zf13 rfl rfl (take_ofW HT_.out HW_.out (by kernel_rfl)) (fun _ _ _ h => h) (Or.inl ⟨by rfl, ?_⟩) hHeld ?_ ?_; rotate_left; rintro w' ⟨s0, s1, s2⟩; go_simp; with_reducible rfl; rotate_left; simp only [Cap.pz]; rfl
          refine one_ (i := 13) (N := some 76) zf14 rfl rfl (one_of HT_.out (by kernel_rfl)) (by decide) (fun K hK => ?_)
          refine goes_ Try.func38 (by kernel_rfl) rfl #[.pointer (some ⟨gT, 0, none⟩), .int .u8 (rd x10_3 t248), .int .u8 (rd t245 x60_4)] (by rfl) rfl rfl (by (try simp only [List.map_toArray, List.map_cons, List.map_nil]); first | done | rfl | (simp only [List.length_drop, List.length_take]; rfl)) ?_
          with_reducible refine (impl_tables8_mul.calls (t := a0) gT (rd x10_3 t248) (rd t245 x60_4) t252 _ A35.out (HTT.out.below HB.out)).mono ?_
          rintro e w' ⟨rfl, ⟨nd, rfl⟩⟩
          refine ⟨_, rfl, ?_⟩
          have p36 : 0 ≤ (x60_4 : Int) := of_decide_eq_true (by first | (with_reducible assumption) | assumption)
          have q36 : (x60_4 : Int) < ((x10_4.length : Int) : Int) := of_decide_eq_true (by first | (with_reducible assumption) | assumption)
          obtain ⟨go36, co36, eo36, gb36, gl36, cl36, HG36⟩ := Kd.R_form HO_10.out (by omega)
          (first | cases eo36 | (injection eo36 with ea_ en_ ec_; (first | subst ea_ | (injection ea_ with ea_; subst ea_)); subst ec_; clear en_))
          have GB36 := Aside0.mk gb36
          have GG36 := Aside0.mk HG36
          clear gb36 gl36 HG36
          (first | simp only [add_plain] at hx249_0 | skip)
          (first | simp only [add_plain] at hx250_0 | skip)
          obtain ⟨hx36_0, hf36_0⟩ := Kd.R_celln 0 HO_10.out (x60_4 : Int) p36 q36
          replace p36 := eq_true p36
          replace q36 := eq_true q36
          have HP38 := Kd.R_putn HO_10.out (x60_4 : Int) (Go.bits .xor .u8 (rd x10_4 x60_4) t252)
          rw [← Ny253.out] at HP38
          have HQ38 := Aside0.mk HP38
          clear HP38
          refine hK.out _ _ ⟨hHeld.1, hHeld.2.1, hHeld.2.2⟩ (fun hHeld => ?_)
          clear hK K
          refine norm_ (a' := ?_) ?_ ?_; rotate_left; show Act.put _ (some 76) _ = _; simp only [Cap.pz]; rfl
          refine Cap.pu (v := ?_) (a' := ?_) 14 (some 77) zf15 HT_ rfl rfl (by kernel_rfl) (fun _ _ _ h => h) (Or.inl ⟨by rfl, ?_⟩) ?_ ?_; rotate_left; intro w'; go_simp; with_reducible rfl; rotate_left; simp only [Cap.pz]; rfl
          refine Cap.pu (v := ?_) (a' := ?_) 15 (some 78) zf16 HT_ rfl rfl (by kernel_rfl) (fun _ _ _ h => h) (Or.inl ⟨by rfl, ?_⟩) ?_ ?_; rotate_left; intro w'; go_simp; with_reducible rfl; rotate_left; simp only [Cap.pz]; rfl
          refine last_ (i := 16) (N := none) zf17 rfl rfl (one_of HT_.out (by kernel_rfl)) (by decide) (fun K hK => ?_)
          refine skip_ (w1 := ?_) (by rfl) rfl ?_ ?_
          rotate_left
          ·
           go_simp
           rfl
          refine hK.out _ _ ?_
          clear hK K
          refine done_ (done_of HT_.out (by kernel_rfl)) ?_
          try go_wp2
          (try simp only [← hl10_4])
          go_roundg k4
          case measure => have := HK1.out; have := HJ10.out; have := HK3.out; have := HK4.out; omega
          case rel => exact ⟨(y253), (wrap64 (x60_4 + 1)), (by first | rfl | (simp; done) | (simp [*]; done)), H', ⟨by have := HK1.out; have := HJ10.out; have := HK3.out; have := HK4.out; omega⟩, ⟨by (try simp only [hl10_4]); (with_reducible repeat (first | apply Kd.R_alloc | apply Kd.R_drewN | apply Kd.R_drew)); exact Kd.R_mono (Kd.R_far (p := ⟨go36, (x60_4 : Int).toNat, none⟩) (Kd.R_types HO_6.out GG36.out (by decide)) (fun _ hk => hk.2) (.int .u8 (Go.bits .xor .u8 (rd x10_4 x60_4) t252))) (fun _ hk => trivial)⟩, ⟨by (try simp only [hl10_4]); (with_reducible repeat (first | apply Kd.S_alloc | apply Kd.S_drewN | apply Kd.S_drew)); exact Kd.S_mono (Kd.S_far (p := ⟨go36, (x60_4 : Int).toNat, none⟩) (Kd.S_mono HO_7.out (fun k_ hk => (⟨hk, fun e_ => hk (by rw [e_]; rfl)⟩ : _ ∧ k_ ≠ go36))) (fun _ hk => hk.2) (.int .u8 (Go.bits .xor .u8 (rd x10_4 x60_4) t252))) (fun _ hk => hk.1)⟩, ⟨by (try simp only [hl10_4]); (with_reducible repeat (first | apply Kd.R_alloc | apply Kd.R_drewN | apply Kd.R_drew)); exact HQ38.out⟩, ⟨by (try simp only [hl10_4]); (with_reducible repeat (first | apply Kd.R_alloc | apply Kd.R_drewN | apply Kd.R_drew)); exact Kd.R_mono (Kd.R_far (p := ⟨go36, (x60_4 : Int).toNat, none⟩) (Kd.R_mono HO_12.out (fun k_ hk => (⟨hk, fun e_ => hk (by rw [e_]; rfl)⟩ : _ ∧ k_ ≠ go36))) (fun _ hk => hk.2) (.int .u8 (Go.bits .xor .u8 (rd x10_4 x60_4) t252))) (fun _ hk => hk.1)⟩, ⟨by (try simp only [hl10_4]); (with_reducible repeat (first | apply Kd.S_alloc | apply Kd.S_drewN | apply Kd.S_drew)); exact Kd.S_mono (Kd.S_far (p := ⟨go36, (x60_4 : Int).toNat, none⟩) (Kd.S_mono HO_44.out (fun k_ hk => (⟨hk, fun e_ => hk (by rw [e_]; rfl)⟩ : _ ∧ k_ ≠ go36))) (fun _ hk => hk.2) (.int .u8 (Go.bits .xor .u8 (rd x10_4 x60_4) t252))) (fun _ hk => hk.1)⟩, ⟨by repeat (first | (with_reducible first | exact HB.out | apply below_alloc | apply pw_below_drewN | apply below_drew1 | refine below_set ?_ GB36.out) | exact HB.out)⟩⟩
       rw [if_neg c19] at H
       have c19b0 : decide (x46_3 < (x7_1.length : Int)) = false := decide_eq_false c19
       clear c19
       replace H := Option.bind_eq_some_iff.mp H
       obtain ⟨t254, A390, H⟩ := H
       replace H : (if t254 < 0 then (impl_plant_basis.l0 k3 a0 t234 x6_1 x7_1 l1 (l1.length : Int) (wrap64 (x28_1 + 1))) else (if 0 ≤ t254 then (if t254 < (x10_3.length : Int) then ((impl_tables8_inv.f a0 (rd x10_3 t254)).bind fun t256 => (impl_plant_basis.l3 k3 a0 t234 x6_1 x7_1 x28_1 x10_3 t256 l1 (l1.length : Int) x28_1 (x10_3.length : Int) 0)) else (none)) else (none))) = some r := H
       have A39 := Aside0.mk A390
       clear A390
       by_cases c40 : t254 < 0
       ·
        rw [if_pos c40] at H
        have c40b0 : decide (t254 < 0) = true := decide_eq_true c40
        clear c40
        have H' := Aside0.mk H
        clear H
        obtain ⟨Ao41, co41, eo41⟩ := Kd.R_slice HO_10.out
        subst eo41
        go_wp2_with (first | ((with_reducible refine gate_callee (f := 37) rfl ?_); refine goesL_ (some 82) rfl rfl Try.func37 (by kernel_rfl) rfl #[.slice Ao41 x10_3.length co41] rfl (by (try simp only [List.map_toArray, List.map_cons, List.map_nil]); first | done | rfl | (simp only [List.length_drop, List.length_take]; rfl)) ?_; (with_reducible refine (impl_leadOf.calls k3 _ _ x10_3 t254 _ ?side1 ?side2 A39.out).mono ?_); (case side1 => repeat (first | exact (Kd.R_reads' HO_10.out).2.2 | (with_reducible refine Kd.C_alloc ?_ _) | (with_reducible refine Kd.C_drewN ?_ _) | (with_reducible refine Kd.C_drew ?_))); (case side2 => exact (Kd.R_reads' HO_10.out).2.1); rintro e w' ⟨rfl, ⟨nd, rfl⟩⟩; refine ⟨_, rfl, ?_⟩))
        go_roundg k3
        case measure => have := HK1.out; have := HJ10.out; have := HK3.out; omega
        case rel => exact ⟨(x6_1), (x7_1), (wrap64 (x28_1 + 1)), (by first | rfl | (simp; done) | (simp [*]; done)), H', ⟨by have := HK1.out; have := HJ10.out; have := HK3.out; omega⟩, ⟨by first | exact Grow.rg HO_6.out | exact HO_6.out⟩, ⟨by (with_reducible repeat (first | apply Kd.S_alloc | apply Kd.S_drewN | apply Kd.S_drew)); exact Kd.S_mono HO_7.out (fun _ hk => trivial)⟩, ⟨by first | exact Grow.bl HB.out | exact HB.out⟩⟩
       rw [if_neg c40] at H
       have c40b0 : decide (t254 < 0) = false := decide_eq_false c40
       clear c40
       by_cases c42 : 0 ≤ t254
       rotate_left
       ·
        rw [if_neg c42] at H
        exact absurd H (by simp)
       rw [if_pos c42] at H
       have c42b0 : decide (0 ≤ t254) = true := decide_eq_true c42
       clear c42
       by_cases c43 : t254 < (x10_3.length : Int)
       rotate_left
       ·
        rw [if_neg c43] at H
        exact absurd H (by simp)
       rw [if_pos c43] at H
       have c43b0 : decide (t254 < (x10_3.length : Int)) = true := decide_eq_true c43
       clear c43
       replace H := Option.bind_eq_some_iff.mp H
       obtain ⟨t256, A440, H⟩ := H
       replace H : (impl_plant_basis.l3 k3 a0 t234 x6_1 x7_1 x28_1 x10_3 t256 l1 (l1.length : Int) x28_1 (x10_3.length : Int) 0) = some r := H
       have A44 := Aside0.mk A440
       clear A440
       have H' := Aside0.mk H
       clear H
       obtain ⟨Ao45, co45, eo45⟩ := Kd.R_slice HO_10.out
       subst eo45
       try go_wp2_with (first | ((with_reducible refine gate_callee (f := 37) rfl ?_); refine goesL_ (some 82) rfl rfl Try.func37 (by kernel_rfl) rfl #[.slice Ao45 x10_3.length co45] rfl (by (try simp only [List.map_toArray, List.map_cons, List.map_nil]); first | done | rfl | (simp only [List.length_drop, List.length_take]; rfl)) ?_; (with_reducible refine (impl_leadOf.calls k3 _ _ x10_3 t254 _ ?side1 ?side2 A39.out).mono ?_); (case side1 => repeat (first | exact (Kd.R_reads' HO_10.out).2.2 | (with_reducible refine Kd.C_alloc ?_ _) | (with_reducible refine Kd.C_drewN ?_ _) | (with_reducible refine Kd.C_drew ?_))); (case side2 => exact (Kd.R_reads' HO_10.out).2.1); rintro e w' ⟨rfl, ⟨nd, rfl⟩⟩; refine ⟨_, rfl, ?_⟩))
       (try (rw [drewN_self wr]; generalize hq_ : World.drewN wr _ = wr; have n0_ : Aside0 (Kd.R (Kd.int .u8) 5 wr w.heap.size (fun _ => True) (.slice Ao45 x10_3.length co45) x10_3) := ⟨by rw [← hq_]; exact (by first | exact Grow.rg HO_10.out | exact HO_10.out)⟩; have n1_ : Aside0 (Kd.S (Kd.slice 5 (Kd.int .u8)) 77 wr w.heap.size (fun k_ => some k_ ≠ (.slice Ao45 x10_3.length co45 : Value).ownBlock) (.slice Ao18 x7_1.length co18) x7_1) := ⟨by rw [← hq_]; exact (by first | exact Grow.sg HO_44.out | exact HO_44.out)⟩; have n2_ : Aside0 (Kd.R (Kd.int .i64) 3 wr w.heap.size (fun _ => True) u6 x6_1) := ⟨by rw [← hq_]; exact (by first | exact Grow.rg HO_6.out | exact HO_6.out)⟩; have n3_ : Aside0 (Kd.S (Kd.slice 5 (Kd.int .u8)) 77 wr w.heap.size (fun k_ => some k_ ≠ (.slice Ao45 x10_3.length co45 : Value).ownBlock) (.slice Ao18 x7_1.length co18) x7_1) := ⟨by rw [← hq_]; exact (by first | exact Grow.sg HO_7.out | exact HO_7.out)⟩; have n4_ : Aside0 (Below w.heap.size w wr) := ⟨by rw [← hq_]; exact (by first | exact Grow.bl HB.out | exact HB.out)⟩; clear HO_10 HO_44 HO_6 HO_7 HB hq_; have HO_10 := n0_; have HO_44 := n1_; have HO_6 := n2_; have HO_7 := n3_; have HB := n4_; clear n0_ n1_ n2_ n3_ n4_))
       have n0_ := Aside0.mk (Kd.R_drew HO_6.out)
       have n1_ := Aside0.mk (Kd.S_drew HO_7.out)
       have n2_ := Aside0.mk (Kd.R_drew HO_10.out)
       have n3_ := Aside0.mk (Kd.S_drew HO_44.out)
       have n4_ := Aside0.mk (below_drew1 HB.out)
       clear HO_6
       clear HO_7
       clear HO_10
       clear HO_44
       clear HB
       have HO_6 := n0_
       have HO_7 := n1_
       have HO_10 := n2_
       have HO_44 := n3_
       have HB := n4_
       clear n0_ n1_ n2_ n3_ n4_
       have p255 : 0 ≤ (t254 : Int) := of_decide_eq_true (by first | (with_reducible assumption) | assumption)
       have q255 : t254 < (x10_3.length : Int) := of_decide_eq_true (by first | (with_reducible assumption) | assumption)
       obtain ⟨ad255, e255, hx255_0⟩ := Kd.at_int (Kd.R_reads' HO_10.out).2.2 t254 p255 q255
       cases e255
       replace p255 := eq_true p255
       replace q255 := eq_true q255
       refine start_ (n := 10) (S := fun w' => w'.cell? (ad255.add (t254).toNat) = some (.int .u8 (rd x10_3 t254)) ∧ w'.cell? ⟨gP, 0, none⟩ = some (.pointer (some ⟨gT, 0, none⟩))) (ds := []) zf18 (by kernel_rfl) rfl rfl ⟨hx255_0, pw_cell_below HB.out HK0.out⟩ (fun hHeld => ?_); refine with_tabW impl_plant_basis.tab23 impl_plant_basis.bits23 (fun HT_ HW_ => ?_)
       generalize wr.drew = w46 at HO_6 HO_7 HO_10 HO_44 HB hx255_0 hHeld ⊢
       refine Cap.pu (v := ?_) (a' := ?_) 0 (some 85) zf19 HT_ rfl rfl (by kernel_rfl) (fun _ _ _ h => h) (Or.inl ⟨by rfl, ?_⟩) ?_ ?_; rotate_left; intro w'; go_simp; with_reducible rfl; rotate_left; simp only [Cap.pz]; rfl
       refine Cap.pu (v := ?_) (a' := ?_) 1 (some 86) zf20 HT_ rfl rfl (by kernel_rfl) (fun _ _ _ h => h) (Or.inl ⟨by rfl, ?_⟩) ?_ ?_; rotate_left; intro w'; go_simp; with_reducible rfl; rotate_left; simp only [Cap.pz]; rfl
       refine Cap.pu (v := ?_) (a' := ?_) 2 (some 87) zf21 HT_ rfl rfl (by kernel_rfl) (fun _ _ _ h => h) (Or.inl ⟨by rfl, ?_⟩) ?_ ?_; rotate_left; intro w'; go_simp; with_reducible rfl; rotate_left; simp only [Cap.pz]; rfl
       refine take_ (i := 3) (N := some 88) (v := ?_) (a' := ?_) zf22 rfl rfl (take_ofW HT_.out HW_.out (by kernel_rfl)) (fun _ _ _ h => h) (Or.inl ⟨by rfl, ?_⟩) hHeld ?_ ?_; rotate_left; rintro w' ⟨s0, s1⟩; go_simp; with_reducible rfl; rotate_left; simp only [Cap.pz]; rfl
       refine Cap.pu (v := ?_) (a' := ?_) 4 (some 89) zf23 HT_ rfl rfl (by kernel_rfl) (fun _ _ _ h => h) (Or.inl ⟨by rfl, ?_⟩) ?_ ?_; rotate_left; intro w'; go_simp; with_reducible rfl; rotate_left; simp only [Cap.pz]; rfl
       refine Cap.pu (v := ?_) (a' := ?_) 5 (some 90) zf24 HT_ rfl rfl (by kernel_rfl) (fun _ _ _ h => h) (Or.inl ⟨by rfl, ?_⟩) ?_ ?_; rotate_left; intro w'; go_simp; with_reducible rfl; rotate_left; simp only [Cap.pz]; rfl
       refine Cap.pu (v := ?_) (a' := ?_) 6 (some 91) zf25 HT_ rfl rfl (by kernel_rfl) (fun _ _ _ h => h) (Or.inl ⟨by rfl, ?_⟩) ?_ ?_; rotate_left; intro w'; go_simp; with_reducible rfl; rotate_left; simp only [Cap.pz]; rfl
       refine take_ (i := 7) (N := some 92) (v := ?_) (a' := ?_) zf26 rfl rfl (take_ofW HT_.out HW_.out (by kernel_rfl)) (fun _ _ _ h => h) (Or.inl ⟨by rfl, ?_⟩) hHeld ?_ ?_; rotate_left; rintro w' ⟨s0, s1⟩; go_simp; with_reducible rfl; rotate_left; simp only [Cap.pz]; rfl
       refine one_ (i := 8) (N := some 93) zf27 rfl rfl (one_of HT_.out (by kernel_rfl)) (by decide) (fun K hK => ?_)
       refine goes_ Try.func27 (by kernel_rfl) rfl #[.pointer (some ⟨gT, 0, none⟩), .int .u8 (rd x10_3 t254)] (by rfl) rfl rfl (by (try simp only [List.map_toArray, List.map_cons, List.map_nil]); first | done | rfl | (simp only [List.length_drop, List.length_take]; rfl)) ?_
       with_reducible refine (impl_tables8_inv.calls (t := a0) gT (rd x10_3 t254) t256 _ A44.out (HTT.out.below HB.out)).mono ?_
       rintro e w' ⟨rfl, ⟨nd, rfl⟩⟩
       refine ⟨_, rfl, ?_⟩
       refine hK.out _ _ ⟨hHeld.1, hHeld.2⟩ (fun hHeld => ?_)
       clear hK K
       refine norm_ (a' := ?_) ?_ ?_; rotate_left; show Act.put _ (some 93) _ = _; simp only [Cap.pz]; rfl
       refine Cap.pu (v := ?_) (a' := ?_) 9 (some 17) zf28 HT_ rfl rfl (by kernel_rfl) (fun _ _ _ h => h) (Or.inl ⟨by rfl, ?_⟩) ?_ ?_; rotate_left; intro w'; go_simp; with_reducible rfl; rotate_left; simp only [Cap.pz]; rfl
       refine done_ (done_of HT_.out (by kernel_rfl)) ?_
       try go_wp2
       generalize Value.pointer (some (ad255.add t254.toNat)) = uPt_
       go_loopg [96] k3 (fun kq v96 w' => ∃ (x10_4 : List Int) (x96_4 : Int), v96 = .int .i64 x96_4 ∧ Aside0 (impl_plant_basis.l3 kq a0 t234 x6_1 x7_1 x28_1 x10_4 t256 l1 (l1.length : Int) x28_1 (x10_3.length : Int) x96_4 = some r) ∧ Aside0 (kq ≤ k3) ∧ Aside0 (Kd.R (Kd.int .i64) 3 w' w.heap.size (fun _ => True) u6 x6_1) ∧ Aside0 (Kd.S (Kd.slice 5 (Kd.int .u8)) 77 w' w.heap.size (fun k_ => some k_ ≠ ((.slice (some ad255) x10_3.length co45) : Value).ownBlock) (.slice Ao18 x7_1.length co18) x7_1) ∧ Aside0 (Kd.R (Kd.int .u8) 5 w' w.heap.size (fun _ => True) (.slice (some ad255) x10_3.length co45) x10_4) ∧ Aside0 (Below w.heap.size w w'))
       case atStart => exact ⟨(x10_3), (0), (by first | rfl | (simp; done) | (simp [*]; done)), H', ⟨Nat.le_refl _⟩, ⟨by first | exact Grow.rg HO_6.out | exact HO_6.out⟩, ⟨by first | exact Grow.sg HO_7.out | exact HO_7.out⟩, ⟨by first | exact Grow.rg HO_10.out | exact HO_10.out⟩, ⟨by first | exact Grow.bl HB.out | exact HB.out⟩⟩
       case round =>
        clear H'
        try clear c1
        try clear q1
        try clear c2
        try clear p2
        try clear q2
        try clear hx2
        try clear c3
        try clear p3
        try clear q3
        try clear hx3
        try clear hf3
        try clear c4
        try clear p6
        try clear c8
        try clear c8b0
        try clear c9
        try clear c9b0
        try clear c10
        try clear c10b0
        try clear q12
        try clear c13
        try clear c15
        try clear c19
        try clear c19b0
        try clear c22
        try clear c22b0
        try clear c23
        try clear c23b0
        try clear c24
        try clear c24b0
        try clear c24b1
        try clear p24
        try clear q24
        try clear hx24
        try clear p25
        try clear q25
        try clear hx25
        try clear c27
        try clear c29
        try clear c31
        try clear c31b0
        try clear c32
        try clear c32b0
        try clear c33
        try clear c33b0
        try clear c34
        try clear c34b0
        try clear c36
        try clear p36
        try clear q36
        try clear hx36
        try clear hf36
        try clear c37
        try clear c38
        try clear c40
        try clear c40b0
        try clear c42
        try clear c42b0
        try clear c43
        try clear c43b0
        try clear hx241_0
        try clear hx249_0
        try clear hx250_0
        try clear hx251_0
        try clear hx255_0
        try clear hx36_0
        try clear p2
        try clear p24
        try clear p241
        try clear p249
        try clear p250
        try clear p251
        try clear p255
        try clear p36
        try clear p6
        try clear q1
        try clear q12
        try clear q2
        try clear q24
        try clear q241
        try clear q249
        try clear q250
        try clear q251
        try clear q255
        try clear q36
        obtain ⟨x10_4, x96_4, rfl, HA, HK4, HO_6, HO_7, HO_10, HB⟩ := hrel
        have hl10_4 := (Kd.R_reads' HO_10.out).1
        rw [hl10_4] at HO_10
        (try simp only [hl10_4])
        (try simp only [hl10_4] at HO_6)
        (try simp only [hl10_4] at HO_7)
        cases gk with
        | zero => exact absurd HA.out (by simp [impl_plant_basis.l3])
        | succ k4 =>
         have H := HA.out
         clear HA
         simp only [impl_plant_basis.l3] at H
         by_cases c47 : x96_4 < (x10_3.length : Int)
         rotate_left
         ·
          rw [if_neg c47] at H
          have c47b0 : decide (x96_4 < (x10_3.length : Int)) = false := decide_eq_false c47
          have c47b1 : decide (x96_4 < (x10_4.length : Int)) = false := by rw [← hl10_4]; exact c47b0
          clear c47
          by_cases c54 : x7_1.length < 5864062014805
          rotate_left
          ·
           rw [if_neg c54] at H
           exact absurd H (by simp)
          rw [if_pos c54] at H
          have LMc54 := Aside0.mk c54
          clear c54
          obtain ⟨y260, hy260⟩ : ∃ y_ : List (List Int), y_ = (x7_1 ++ [x10_4]) := ⟨_, rfl⟩
          replace H : (if x6_1.length < 17592186044416 then (impl_plant_basis.l0 k4 a0 t234 (x6_1 ++ [x28_1]) y260 l1 (l1.length : Int) (wrap64 (x28_1 + 1))) else (none)) = some r := by first | (rw [hy260]; with_reducible exact H) | (have H2_ := (Option.bind_some _ _).symm.trans H; rw [hy260]; with_reducible exact H2_) | (have H2_ := (Option.bind_some _ _).symm.trans H; with_reducible exact H2_) | with_reducible exact H | (rw [hy260]; exact H) | exact H
          have Ny260 := Aside0.mk hy260
          clear hy260
          by_cases c55 : x6_1.length < 17592186044416
          rotate_left
          ·
           rw [if_neg c55] at H
           exact absurd H (by simp)
          rw [if_pos c55] at H
          have LMc55 := Aside0.mk c55
          clear c55
          obtain ⟨y263, hy263⟩ : ∃ y_ : List Int, y_ = (x6_1 ++ [x28_1]) := ⟨_, rfl⟩
          replace H : (impl_plant_basis.l0 k4 a0 t234 y263 y260 l1 (l1.length : Int) (wrap64 (x28_1 + 1))) = some r := by first | (rw [hy263]; with_reducible exact H) | (have H2_ := (Option.bind_some _ _).symm.trans H; rw [hy263]; with_reducible exact H2_) | (have H2_ := (Option.bind_some _ _).symm.trans H; with_reducible exact H2_) | with_reducible exact H | (rw [hy263]; exact H) | exact H
          have Ny263 := Aside0.mk hy263
          clear hy263
          have H' := Aside0.mk H
          clear H
          go_wp2_with (first | ((with_reducible refine gate_builtin (b := .append) (xs := #[.tmp 113, .tmp 115]) rfl ?_); (try (refine gate_guard (by rfl) ?_; dsimp only)); at_builtin; refine Kd.S_append (Kd.slice 5 (Kd.int .u8)) (w0 := w) w.heap.size rfl (.tmp 113) (.tmp 115) 76 77 (.slice none 0 0) 24 rfl Try.underlying76 info77 rfl (by decide) (by omega) (.slice Ao18 x7_1.length co18) x7_1 x10_4 [.slice (some ad255) x10_4.length co45] (fun _ => True) (fun k_ => some k_ = (.slice (some ad255) x10_4.length co45 : Value).ownBlock) rfl rfl ?aP (fun k_ hk_ => ((Kd.R_mono (ok' := fun k_ => ((fun _ => True)) k_ ∧ some k_ ≠ (.slice Ao18 x7_1.length co18 : Value).ownBlock) (Kd.R_apart' (HO_10.out) (Kd.S_typed HO_7.out) (by decide)) (fun k_ hk => ⟨trivial, hk.2⟩))).1 k_ hk_.symm) ?aF ?aO ?aB ?aS ?aL ?_; (case aP => exact Kd.M_row (Kd.R_mono (Kd.R_tight rfl (Kd.R_mono (ok' := fun k_ => ((fun _ => True)) k_ ∧ some k_ ≠ (.slice Ao18 x7_1.length co18 : Value).ownBlock) (Kd.R_apart' (HO_10.out) (Kd.S_typed HO_7.out) (by decide)) (fun k_ hk => ⟨trivial, hk.2⟩))) (fun _ h_ => h_))); (case aB => exact (by first | exact Grow.bl HB.out | exact HB.out)); (case aF => exact (fun _ _ => trivial)); (case aO => exact (by (with_reducible repeat (first | apply Kd.S_alloc | apply Kd.S_drewN | apply Kd.S_drew)); exact Kd.S_mono HO_7.out (fun k_ hk => ⟨trivial, fun e_ => hk e_⟩))); (case aS => exact (below_size (by first | exact Grow.bl HB.out | exact HB.out))); (case aL => have := LMc54.out; omega); intro v261 w56 ho hb hg hat; rw [← Ny260.out] at ho; have n0_ := Aside0.mk (Kd.R_over' (by first | exact Grow.rg HO_6.out | exact HO_6.out) (Kd.S_typed (by first | exact Grow.sg HO_7.out | exact HO_7.out)) (by decide) hg); have n1_ := Aside0.mk (hb); have n2_ := Aside0.mk (ho); clear HO_6; clear HB; clear HO_7; clear HO_10; have HO_6 := n0_; have HB := n1_; have HO262 := n2_; clear n0_ n1_ n2_; clear ho hb hg hat) | ((with_reducible refine gate_builtin (b := .append) (xs := #[.tmp 117, .tmp 119]) rfl ?_); (try (refine gate_guard (by rfl) ?_; dsimp only)); at_builtin; refine Kd.R_append (Kd.int .i64) (w0 := w) w.heap.size rfl (.tmp 117) (.tmp 119) 40 3 (.int .i64 0) 8 rfl Try.underlying40 info3 rfl (by decide) (by omega) u6 x6_1 x28_1 [.int .i64 x28_1] (fun _ => True) (fun _ => False) rfl rfl ?aP (fun _ hk => hk.elim) ?aF ?aO ?aB ?aS ?aL ?_; (case aP => exact rfl); (case aB => exact (by first | exact Grow.bl HB.out | exact HB.out)); (case aF => exact (fun _ _ => trivial)); (case aO => exact (by first | exact Grow.rg HO_6.out | exact HO_6.out)); (case aS => exact (below_size (by first | exact Grow.bl HB.out | exact HB.out))); (case aL => have := LMc55.out; omega); intro v264 w57 ho hb hg hat; rw [← Ny263.out] at ho; have n0_ := Aside0.mk (Kd.S_over' (by first | exact Grow.sg HO262.out | exact HO262.out) (Kd.R_typed (by first | exact Grow.rg HO_6.out | exact HO_6.out)) (by decide) hg); have n1_ := Aside0.mk (hb); have n2_ := Aside0.mk (ho); clear HO262; clear HB; clear HO_6; have HO262 := n0_; have HB := n1_; have HO265 := n2_; clear n0_ n1_ n2_; clear ho hb hg hat))
          (try simp only [← hl10_4])
          go_roundg k4
          case measure => have := HK1.out; have := HJ10.out; have := HK3.out; have := HK4.out; omega
          case rel => exact ⟨(y263), (y260), (wrap64 (x28_1 + 1)), (by first | rfl | (simp; done) | (simp [*]; done)), H', ⟨by have := HK1.out; have := HJ10.out; have := HK3.out; have := HK4.out; omega⟩, ⟨by (try simp only [hl10_4]); (with_reducible repeat (first | apply Kd.R_alloc | apply Kd.R_drewN | apply Kd.R_drew)); exact HO265.out⟩, ⟨by (try simp only [hl10_4]); (with_reducible repeat (first | apply Kd.S_alloc | apply Kd.S_drewN | apply Kd.S_drew)); exact HO262.out⟩, ⟨by first | exact Grow.bl HB.out | exact HB.out⟩⟩
         rw [if_pos c47] at H
         have c47b0 : decide (x96_4 < (x10_3.length : Int)) = true := decide_eq_true c47
         clear c47
         by_cases c48 : 0 ≤ x96_4
         rotate_left
         ·
          rw [if_neg c48] at H
          exact absurd H (by simp)
         rw [if_pos c48] at H
         have c48b0 : decide (0 ≤ x96_4) = true := decide_eq_true c48
         clear c48
         by_cases c49 : x96_4 < (x10_4.length : Int)
         rotate_left
         ·
          rw [if_neg c49] at H
          exact absurd H (by simp)
         rw [if_pos c49] at H
         have c49b0 : decide (x96_4 < (x10_4.length : Int)) = true := decide_eq_true c49
         clear c49
         replace H := Option.bind_eq_some_iff.mp H
         obtain ⟨t258, A500, H⟩ := H
         replace H : (impl_plant_basis.l3 k4 a0 t234 x6_1 x7_1 x28_1 (x10_4.set (x96_4 : Int).toNat t258) t256 l1 (l1.length : Int) x28_1 (x10_3.length : Int) (wrap64 (x96_4 + 1))) = some r := H
         have A50 := Aside0.mk A500
         clear A500
         obtain ⟨y259, hy259⟩ : ∃ y_ : List Int, y_ = (x10_4.set (x96_4 : Int).toNat t258) := ⟨_, rfl⟩
         replace H : (impl_plant_basis.l3 k4 a0 t234 x6_1 x7_1 x28_1 y259 t256 l1 (l1.length : Int) x28_1 (x10_3.length : Int) (wrap64 (x96_4 + 1))) = some r := by first | (rw [hy259]; with_reducible exact H) | (have H2_ := (Option.bind_some _ _).symm.trans H; rw [hy259]; with_reducible exact H2_) | (have H2_ := (Option.bind_some _ _).symm.trans H; with_reducible exact H2_) | with_reducible exact H | (rw [hy259]; exact H) | exact H
         have Ny259 := Aside0.mk hy259
         clear hy259
         have H' := Aside0.mk H
         clear H
         try go_wp2
         have n0_ := Aside0.mk (Kd.R_drew HO_6.out)
         have n1_ := Aside0.mk (Kd.S_drew HO_7.out)
         have n2_ := Aside0.mk (Kd.R_drew HO_10.out)
         have n3_ := Aside0.mk (below_drew1 HB.out)
         clear HO_6
         clear HO_7
         clear HO_10
         clear HB
         have HO_6 := n0_
         have HO_7 := n1_
         have HO_10 := n2_
         have HB := n3_
         clear n0_ n1_ n2_ n3_
         have p257 : 0 ≤ (x96_4 : Int) := of_decide_eq_true (by first | (with_reducible assumption) | assumption)
         have q257 : x96_4 < (x10_4.length : Int) := of_decide_eq_true (by first | (with_reducible assumption) | assumption)
         obtain ⟨ad257, e257, hx257_0⟩ := Kd.at_int (Kd.R_reads' HO_10.out).2.2 x96_4 p257 q257
         obtain rfl : ad255 = ad257 := (by injection e257)
         replace p257 := eq_true p257
         replace q257 := eq_true q257
         refine start_ (n := 14) (S := fun w' => w'.cell? (ad255.add (x96_4).toNat) = some (.int .u8 (rd x10_4 x96_4)) ∧ w'.cell? ⟨gP, 0, none⟩ = some (.pointer (some ⟨gT, 0, none⟩))) (ds := [13]) zf29 (by kernel_rfl) rfl rfl ⟨hx257_0, pw_cell_below HB.out HK0.out⟩ (fun hHeld => ?_); refine with_tabW impl_plant_basis.tab27 impl_plant_basis.bits27 (fun HT_ HW_ => ?_)
         generalize wr.drew = w52 at HO_6 HO_7 HO_10 HB hx257_0 hHeld ⊢
         refine Cap.pu (v := ?_) (a' := ?_) 0 (some 99) zf30 HT_ rfl rfl (by kernel_rfl) (fun _ _ _ h => h) (Or.inl ⟨by rfl, ?_⟩) ?_ ?_; rotate_left; intro w'; go_simp; with_reducible rfl; rotate_left; simp only [Cap.pz]; rfl
         refine Cap.pu (v := ?_) (a' := ?_) 1 (some 100) zf31 HT_ rfl rfl (by kernel_rfl) (fun _ _ _ h => h) (Or.inl ⟨by rfl, ?_⟩) ?_ ?_; rotate_left; intro w'; go_simp; with_reducible rfl; rotate_left; simp only [Cap.pz]; rfl
         refine Cap.pu (v := ?_) (a' := ?_) 2 (some 101) zf32 HT_ rfl rfl (by kernel_rfl) (fun _ _ _ h => h) (Or.inl ⟨by rfl, ?_⟩) ?_ ?_; rotate_left; intro w'; go_simp; with_reducible rfl; rotate_left; simp only [Cap.pz]; rfl
         refine Cap.pu (v := ?_) (a' := ?_) 3 (some 102) zf33 HT_ rfl rfl (by kernel_rfl) (fun _ _ _ h => h) (Or.inl ⟨by rfl, ?_⟩) ?_ ?_; rotate_left; intro w'; go_simp; with_reducible rfl; rotate_left; simp only [Cap.pz]; rfl
         refine Cap.pu (v := ?_) (a' := ?_) 4 (some 103) zf34 HT_ rfl rfl (by kernel_rfl) (fun _ _ _ h => h) (Or.inl ⟨by rfl, ?_⟩) ?_ ?_; rotate_left; intro w'; go_simp; with_reducible rfl; rotate_left; simp only [Cap.pz]; rfl
         refine take_ (i := 5) (N := some 104) (v := ?_) (a' := ?_) zf35 rfl rfl (take_ofW HT_.out HW_.out (by kernel_rfl)) (fun _ _ _ h => h) (Or.inl ⟨by rfl, ?_⟩) hHeld ?_ ?_; rotate_left; rintro w' ⟨s0, s1⟩; go_simp; with_reducible rfl; rotate_left; simp only [Cap.pz]; rfl
         refine Cap.pu (v := ?_) (a' := ?_) 6 (some 105) zf36 HT_ rfl rfl (by kernel_rfl) (fun _ _ _ h => h) (Or.inl ⟨by rfl, ?_⟩) ?_ ?_; rotate_left; intro w'; go_simp; with_reducible rfl; rotate_left; simp only [Cap.pz]; rfl
         refine Cap.pu (v := ?_) (a' := ?_) 7 (some 106) zf37 HT_ rfl rfl (by kernel_rfl) (fun _ _ _ h => h) (Or.inl ⟨by rfl, ?_⟩) ?_ ?_; rotate_left; intro w'; go_simp; with_reducible rfl; rotate_left; simp only [Cap.pz]; rfl
         refine Cap.pu (v := ?_) (a' := ?_) 8 (some 107) zf38 HT_ rfl rfl (by kernel_rfl) (fun _ _ _ h => h) (Or.inl ⟨by rfl, ?_⟩) ?_ ?_; rotate_left; intro w'; go_simp; with_reducible rfl; rotate_left; simp only [Cap.pz]; rfl
         refine Cap.pu (v := ?_) (a' := ?_) 10 (some 109) zf39 HT_ rfl rfl (by kernel_rfl) (fun _ _ _ h => h) (Or.inl ⟨by rfl, ?_⟩) ?_ ?_; rotate_left; intro w'; go_simp; with_reducible rfl; rotate_left; simp only [Cap.pz]; rfl
         refine take_ (i := 9) (N := some 108) (v := ?_) (a' := ?_) zf40 rfl rfl (take_ofW HT_.out HW_.out (by kernel_rfl)) (fun _ _ _ h => h) (Or.inl ⟨by rfl, ?_⟩) hHeld ?_ ?_; rotate_left; rintro w' ⟨s0, s1⟩; go_simp; with_reducible rfl; rotate_left; simp only [Cap.pz]; rfl
         refine one_ (i := 11) (N := some 110) zf41 rfl rfl (one_of HT_.out (by kernel_rfl)) (by decide) (fun K hK => ?_)
         refine goes_ Try.func38 (by kernel_rfl) rfl #[.pointer (some ⟨gT, 0, none⟩), .int .u8 (rd x10_4 x96_4), .int .u8 t256] (by rfl) rfl rfl (by (try simp only [List.map_toArray, List.map_cons, List.map_nil]); first | done | rfl | (simp only [List.length_drop, List.length_take]; rfl)) ?_
         with_reducible refine (impl_tables8_mul.calls (t := a0) gT (rd x10_4 x96_4) t256 t258 _ A50.out (HTT.out.below HB.out)).mono ?_
         rintro e w' ⟨rfl, ⟨nd, rfl⟩⟩
         refine ⟨_, rfl, ?_⟩
         have p51 : 0 ≤ (x96_4 : Int) := of_decide_eq_true (by first | (with_reducible assumption) | assumption)
         have q51 : (x96_4 : Int) < ((x10_4.length : Int) : Int) := of_decide_eq_true (by first | (with_reducible assumption) | assumption)
         obtain ⟨go51, co51, eo51, gb51, gl51, cl51, HG51⟩ := Kd.R_form HO_10.out (by omega)
         (first | cases eo51 | (injection eo51 with ea_ en_ ec_; (first | subst ea_ | (injection ea_ with ea_; subst ea_)); subst ec_; clear en_))
         have GB51 := Aside0.mk gb51
         have GG51 := Aside0.mk HG51
         clear gb51 gl51 HG51
         (first | simp only [add_plain] at hx255_0 | skip)
         (first | simp only [add_plain] at hx257_0 | skip)
         obtain ⟨hx51_0, hf51_0⟩ := Kd.R_celln 0 HO_10.out (x96_4 : Int) p51 q51
         replace p51 := eq_true p51
         replace q51 := eq_true q51
         have HP53 := Kd.R_putn HO_10.out (x96_4 : Int) t258
         rw [← Ny259.out] at HP53
         have HQ53 := Aside0.mk HP53
         clear HP53
         refine hK.out _ _ ⟨hHeld.1, hHeld.2⟩ (fun hHeld => ?_)
         clear hK K
         refine norm_ (a' := ?_) ?_ ?_; rotate_left; show Act.put _ (some 110) _ = _; simp only [Cap.pz]; rfl
         refine Cap.pu (v := ?_) (a' := ?_) 12 (some 111) zf42 HT_ rfl rfl (by kernel_rfl) (fun _ _ _ h => h) (Or.inl ⟨by rfl, ?_⟩) ?_ ?_; rotate_left; intro w'; go_simp; with_reducible rfl; rotate_left; simp only [Cap.pz]; rfl
         refine last_ (i := 13) (N := none) zf43 rfl rfl (one_of HT_.out (by kernel_rfl)) (by decide) (fun K hK => ?_)
         refine skip_ (w1 := ?_) (by rfl) rfl ?_ ?_
         rotate_left
         ·
          go_simp
          rfl
         refine hK.out _ _ ?_
         clear hK K
         refine done_ (done_of HT_.out (by kernel_rfl)) ?_
         try go_wp2
         (try simp only [← hl10_4])
         go_roundg k4
         case measure => have := HK1.out; have := HJ10.out; have := HK3.out; have := HK4.out; omega
         case rel => exact ⟨(y259), (wrap64 (x96_4 + 1)), (by first | rfl | (simp; done) | (simp [*]; done)), H', ⟨by have := HK1.out; have := HJ10.out; have := HK3.out; have := HK4.out; omega⟩, ⟨by (try simp only [hl10_4]); (with_reducible repeat (first | apply Kd.R_alloc | apply Kd.R_drewN | apply Kd.R_drew)); exact Kd.R_mono (Kd.R_far (p := ⟨go51, (x96_4 : Int).toNat, none⟩) (Kd.R_types HO_6.out GG51.out (by decide)) (fun _ hk => hk.2) (.int .u8 t258)) (fun _ hk => trivial)⟩, ⟨by (try simp only [hl10_4]); (with_reducible repeat (first | apply Kd.S_alloc | apply Kd.S_drewN | apply Kd.S_drew)); exact Kd.S_mono (Kd.S_far (p := ⟨go51, (x96_4 : Int).toNat, none⟩) (Kd.S_mono HO_7.out (fun k_ hk => (⟨hk, fun e_ => hk (by rw [e_]; rfl)⟩ : _ ∧ k_ ≠ go51))) (fun _ hk => hk.2) (.int .u8 t258)) (fun _ hk => hk.1)⟩, ⟨by (try simp only [hl10_4]); (with_reducible repeat (first | apply Kd.R_alloc | apply Kd.R_drewN | apply Kd.R_drew)); exact HQ53.out⟩, ⟨by repeat (first | (with_reducible first | exact HB.out | apply below_alloc | apply pw_below_drewN | apply below_drew1 | refine below_set ?_ GB51.out) | exact HB.out)⟩⟩

end Go.Proofs.Yteflpfkfmohenaa.QFnExactRepairPlan
