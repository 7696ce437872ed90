-- A text of this session, printed by a program of its own (wip/tools: xpatch.py, xprint.sh, mkq.py). No condition.
import Derived.Deep.MidRow
import Derived.Test.YtjjccaepbfijeaaQFnExactMergeRunsx0
import Derived.Test.YtjjccaepbfijeaaQFnExactMergeRunsx5
namespace Go.Proofs.Ytjjccaepbfijeaa.QFnExactMergeRuns
open Go.RowKit Go.Proofs.YtjjccaepbfijeaaW.PrintWords Go.Proofs.YtjjccaepbfijeaaW.PrintLast Go.Proofs.YtjjccaepbfijeaaW.PrintMore
attribute [local go_sem] max2_int min2_int max_two min_two max_three min_three max_four min_four   -- for this text's walks alone
set_option linter.unusedVariables false
set_option linter.unusedSimpArgs false
/-! ### impl_merged: function 18 -/
/-! A heap of lists, as container/heap keeps it: plain lists alone. -/
namespace HM
section
variable {α : Type} (less : α → α → Bool)
/-- A list and its number; the order of its heads. -/
def lessR (z : α) (a b : List α × Nat) : Bool := less (a.1.headD z) (b.1.headD z) || (!less (b.1.headD z) (a.1.headD z) && decide (a.2 < b.2))
def swapR {β : Type} (d : β) (l : List β) (i j : Nat) : List β := (l.set i (l.getD j d)).set j (l.getD i d)
end
section
variable {β : Type} (lr : β → β → Bool) (d : β)
def upR : Nat → List β → Nat → List β
  | 0, l, _ => l
  | f + 1, l, j => if j = 0 then l else if lr (l.getD j d) (l.getD ((j - 1) / 2) d) = true then upR f (swapR d l ((j - 1) / 2) j) ((j - 1) / 2) else l
def kid (l : List β) (i n : Nat) : Nat := if 2 * i + 2 < n ∧ lr (l.getD (2 * i + 2) d) (l.getD (2 * i + 1) d) = true then 2 * i + 2 else 2 * i + 1
def downR : Nat → List β → Nat → Nat → List β
  | 0, l, _, _ => l
  | f + 1, l, i, n => if 2 * i + 1 < n then (if lr (l.getD (kid lr d l i n) d) (l.getD i d) = true then downR f (swapR d l i (kid lr d l i n)) (kid lr d l i n) n else l) else l
end
section
variable {α : Type} (less : α → α → Bool)
def popR (z : α) (l : List (List α × Nat)) : List (List α × Nat) := (downR (lessR less z) ([], 0) l.length (swapR ([], 0) l 0 (l.length - 1)) 0 (l.length - 1)).take (l.length - 1)
def mergeGo (z : α) : Nat → List (List α × Nat) → List α → List α
  | 0, _, out => out
  | _ + 1, [], out => out
  | f + 1, r :: l, out => if r.1.tail.length = 0 then mergeGo z f (popR less z ((r.1.tail, r.2) :: l)) (out ++ [r.1.headD z])
    else mergeGo z f (downR (lessR less z) ([], 0) (l.length + 1) ((r.1.tail, r.2) :: l) 0 (l.length + 1)) (out ++ [r.1.headD z])
def pushR (z : α) (l : List (List α × Nat)) (r : List α × Nat) : List (List α × Nat) := upR (lessR less z) ([], 0) (l.length + 1) (l ++ [r]) l.length
def startR (z : α) : Nat → List (List α) → List (List α × Nat) → List (List α × Nat)
  | _, [], h => h
  | i, r :: rs, h => startR z (i + 1) rs (if r.length = 0 then h else pushR less z h (r, i))
end
end HM
def lessE (x y : S43) : Bool := Op.bytesLess x.f0.toList y.f0.toList || (decide (x.f0.toList = y.f0.toList) && decide (x.f1 > y.f1))
def impl_merged.f (l : List S26) : Option (List S43) := if (l.map (·.f0)).flatten.length ≤ 1099511627776 ∧ l.length ≤ 1099511627776 then some (HM.mergeGo lessE z43 (l.map (·.f0)).flatten.length (HM.startR lessE z43 0 (l.map (·.f0)) []) []) else none
/-- A list and its number, as a reader keeps it; the list came in by w. -/
def kH (w : World) : Kd (List S43 × Nat) where
  sz := 2
  E := []
  K := fun _ x cs => ∃ A c, cs = [.slice A x.1.length c, .int .i64 (x.2 : Int)] ∧ x.1.length ≤ c ∧ k43.C w A x.1.length x.1
  M := fun _ _ _ x cs => ∃ A c, cs = [.slice A x.1.length c, .int .i64 (x.2 : Int)] ∧ x.1.length ≤ c ∧ k43.C w A x.1.length x.1
  K_len := by rintro w x cs ⟨A, c, rfl, -⟩; rfl
  K_one := by
    rintro w x cs ⟨A, c, rfl, -⟩ u hu
    simp only [List.mem_cons, List.not_mem_nil, or_false] at hu
    rcases hu with rfl | rfl <;> rfl
  K_below := fun _ h => h
  K_of_M := fun h => h
  M_mono := fun _ h => h
  M_bound := fun h => h
  M_move := fun _ h => h
  M_lower := fun _ h => h
abbrev HL := List (List S43 × Nat)
/-- The heap in memory. -/
structure HeapAt (w : World) (g : Nat) (W : World) (l : HL) : Prop where
  hd : ∃ v, W.heap[g]? = some (.cells #[v] 57 (0, 0)) ∧ (kH w).R 60 W w.heap.size (fun k => k ≠ g) v l
  ge : w.heap.size ≤ g
  bel : Below w.heap.size w W
/-- All but the heap's own two blocks is as it was. -/
def HKeep (g : Nat) (W W1 : World) : Prop := W.heap.size ≤ W1.heap.size ∧ ∀ k, k < W.heap.size → k ≠ g → (∀ cells, W.heap[k]? ≠ some (.cells cells 60 (0, 0))) → W1.heap[k]? = W.heap[k]?
theorem HKeep.refl (g : Nat) (W : World) : HKeep g W W := ⟨Nat.le_refl _, fun _ _ _ _ => rfl⟩
theorem HKeep.trans {g : Nat} {W W1 W2 : World} (h : HKeep g W W1) (h2 : HKeep g W1 W2) : HKeep g W W2 :=
  ⟨Nat.le_trans h.1 h2.1, fun k hk hg hc => (h2.2 k (Nat.lt_of_lt_of_le hk h.1) hg (fun c => by rw [h.2 k hk hg hc]; exact hc c)).trans (h.2 k hk hg hc)⟩
theorem HKeep.below {g : Nat} {W W1 : World} (h : Below W.heap.size W W1) : HKeep g W W1 := ⟨h.size, fun k hk _ _ => h.block k hk⟩
theorem HKeep.drew {g : Nat} {W W1 : World} (h : HKeep g W W1) : HKeep g W W1.drew := h
theorem HKeep.set {g B : Nat} {W W1 : World} (h : HKeep g W W1) (hB : B = g ∨ ∃ cells, W1.heap[B]? = some (.cells cells 60 (0, 0))) (j : Nat) (v : Value) : HKeep g W (W1.setCell ⟨B, j, none⟩ v) :=
  ⟨by rw [World.size_setCell]; exact h.1, fun k hk hg hc => by
    rw [Below.heap_setCell _ _ _ k (fun e => ?_)]
    · exact h.2 k hk hg hc
    · subst e
      rcases hB with hB | ⟨c, hB⟩
      · exact hg hB
      · exact hc c ((h.2 k hk hg hc).symm.trans hB)⟩
theorem HeapAt.below {w : World} {g : Nat} {W W1 : World} {l : HL} (h : HeapAt w g W l) (hb : Below W.heap.size W W1) : HeapAt w g W1 l := by
  obtain ⟨⟨v, h1, h2⟩, hg, hB⟩ := h
  exact ⟨⟨v, blk_below h1 hb, Kd.R_below h2 hb⟩, hg, below_step hB hb⟩
theorem HeapAt.drew {w : World} {g : Nat} {W : World} {l : HL} (h : HeapAt w g W l) : HeapAt w g W.drew l := h.below (below_drew1 (Below.refl _ _))
def HForm (w : World) (g B c : Nat) (W : World) (l : HL) : Prop :=
  B ≠ g ∧ w.heap.size ≤ B ∧ l.length ≤ c ∧ W.heap[g]? = some (.cells #[.slice (some ⟨B, 0, none⟩) l.length c] 57 (0, 0)) ∧ (∃ cells, W.heap[B]? = some (.cells cells 60 (0, 0))) ∧ (kH w).R 60 W w.heap.size (fun k => k ≠ g) (.slice (some ⟨B, 0, none⟩) l.length c) l
/-- What stands in the heap's row. -/
theorem HeapAt.form {w : World} {g : Nat} {W : World} {l : HL} (h : HeapAt w g W l) (h0 : 0 < l.length) : ∃ B c, HForm w g B c W l := by
  obtain ⟨⟨v, h1, h2⟩, hg, hB⟩ := h
  obtain ⟨B, c, rfl, hb1, hb2, cells, hc⟩ := Kd.R_form h2 h0
  obtain ⟨-, hlc, -⟩ := Kd.R_reads' h2
  exact ⟨B, c, fun e => h2.1 B (by simp [Value.ownBlock]) e, hb1, hlc, h1, ⟨cells, hc⟩, h2⟩
theorem HForm.cell {w : World} {g B c : Nat} {W : World} {l : HL} (h : HForm w g B c W l) (i : Nat) (hi : i < l.length) :
    ∃ A n, W.cell? ⟨B, i * 2, none⟩ = some (.slice A (l.getD i ([], 0)).1.length n) ∧ W.cell? ⟨B, i * 2 + 1, none⟩ = some (.int .i64 ((l.getD i ([], 0)).2 : Int)) ∧ (l.getD i ([], 0)).1.length ≤ n ∧ k43.C w A (l.getD i ([], 0)).1.length (l.getD i ([], 0)).1 := by
  obtain ⟨cs, hcl, ⟨A, n, e, h1, h2⟩, hcc, -⟩ := Kd.R_elem h.2.2.2.2.2 ([], 0) (i : Int) (by omega) (by omega)
  rw [Int.toNat_natCast] at hcc e h1 h2
  subst e
  exact ⟨A, n, hcc 0 _ rfl, hcc 1 _ rfl, h1, h2⟩
theorem HForm.frozen {w : World} {g B c : Nat} {W : World} {l : HL} (h : HForm w g B c W l) (j : Nat) : W.frozen? ⟨B, j, none⟩ = false := by
  obtain ⟨-, -, -, -, ⟨cells, hc⟩, -⟩ := h
  exact blk_frozen hc j
theorem kH_set {w : World} {e : Nat} {W : World} {base B n c : Nat} {ok : Nat → Prop} {l : HL} (h : (kH w).R e W base ok (.slice (some ⟨B, 0, none⟩) n c) l) (i : Nat) (hi : i < l.length) (x : List S43 × Nat) {A : Option Addr} {m : Nat} (hm : x.1.length ≤ m)
    (hC : k43.C w A x.1.length x.1) : (kH w).R e ((W.setCell ⟨B, i * 2, none⟩ (.slice A x.1.length m)).setCell ⟨B, i * 2 + 1, none⟩ (.int .i64 (x.2 : Int))) base ok (.slice (some ⟨B, 0, none⟩) n c) (l.set i x) := by
  obtain ⟨hn, -, -⟩ := Kd.R_reads' h
  obtain ⟨hok, inner, ho, hr⟩ := h
  subst hn
  have h1 := (ho.stored (i * 2) (.slice A x.1.length m)).1
  have h2 := (h1.stored (i * 2 + 1) (.int .i64 (x.2 : Int))).1
  refine ⟨hok, _, by rw [List.length_set]; exact h2, by rw [List.length_set, List.length_set, List.length_set]; exact hr.1, fun j p hj => ?_⟩
  have hj2 : j < l.length := by have := (List.getElem?_eq_some_iff.1 hj).1; rwa [List.length_set] at this
  have hil : inner.length = l.length * 2 := hr.1
  by_cases e : i = j
  · subst e
    rw [List.getElem?_set_self hi] at hj
    injection hj with hj
    subst hj
    refine ⟨A, m, ?_, hm, hC⟩
    show List.take 2 (List.drop (i * 2) _) = _
    apply List.ext_getElem?
    intro t
    rw [List.getElem?_take, List.getElem?_drop, List.getElem?_set, List.getElem?_set, List.length_set]
    rcases t with _ | _ | t
    · rw [if_pos (by omega), if_neg (by omega), if_pos (by omega), if_pos (by omega)]; rfl
    · rw [if_pos (by omega), if_pos (by omega), if_pos (by omega)]; rfl
    · rw [if_neg (by omega)]; rfl
  rw [List.getElem?_set_ne e] at hj
  have := hr.2 j p hj
  show ∃ A c, List.take 2 (List.drop (j * 2) _) = _ ∧ _
  rw [show List.take 2 (List.drop (j * 2) ((inner.set (i * 2) (.slice A x.1.length m)).set (i * 2 + 1) (.int .i64 (x.2 : Int)))) = List.take 2 (List.drop (j * 2) inner) from ?_]
  · exact this
  · apply List.ext_getElem?
    intro t
    rw [List.getElem?_take, List.getElem?_take, List.getElem?_drop, List.getElem?_drop, List.getElem?_set, List.getElem?_set]
    by_cases ht : t < 2
    rotate_left
    · rw [if_neg ht, if_neg ht]
    rw [if_pos ht, if_pos ht, if_neg (by omega), if_neg (by omega)]
theorem kH_set0 {w : World} {e : Nat} {W : World} {base B n c : Nat} {ok : Nat → Prop} {r : List S43 × Nat} {l : HL} (h : (kH w).R e W base ok (.slice (some ⟨B, 0, none⟩) n c) (r :: l)) (x : List S43) {A : Option Addr} {m : Nat} (hm : x.length ≤ m)
    (hC : k43.C w A x.length x) : (kH w).R e (W.setCell ⟨B, 0, none⟩ (.slice A x.length m)) base ok (.slice (some ⟨B, 0, none⟩) n c) ((x, r.2) :: l) := by
  obtain ⟨hn, -, -⟩ := Kd.R_reads' h
  obtain ⟨hok, inner, ho, hr⟩ := h
  subst hn
  have h1 := (ho.stored 0 (.slice A x.length m)).1
  refine ⟨hok, _, h1, by rw [List.length_set]; exact hr.1, fun j p hj => ?_⟩
  rcases j with _ | j
  · have hp : (x, r.2) = p := by simpa using hj
    subst hp
    obtain ⟨A1, m1, e1, -, -⟩ := hr.2 0 r rfl
    refine ⟨A, m, ?_, hm, hC⟩
    have e2 : List.take 2 (List.drop (0 * 2) inner) = [.slice A1 r.1.length m1, .int .i64 (r.2 : Int)] := e1
    show List.take 2 (List.drop (0 * 2) (inner.set 0 _)) = _
    rcases inner with _ | ⟨u, inner⟩
    · simp at e2
    · rcases inner with _ | ⟨v, inner⟩
      · simp at e2
      · simp at e2
        simp [e2.2]
  · have := hr.2 (j + 1) p (by simpa using hj)
    show ∃ A c, List.take 2 (List.drop ((j + 1) * 2) _) = _ ∧ _
    rw [show List.take 2 (List.drop ((j + 1) * 2) (inner.set 0 (.slice A x.length m))) = List.take 2 (List.drop ((j + 1) * 2) inner) from ?_]
    · exact this
    · apply List.ext_getElem?
      intro t
      rw [List.getElem?_take, List.getElem?_take, List.getElem?_drop, List.getElem?_drop, List.getElem?_set]
      by_cases ht : t < 2
      rotate_left
      · rw [if_neg ht, if_neg ht]
      rw [if_pos ht, if_pos ht, if_neg (by omega)]
theorem HForm.put0 {w : World} {g B c : Nat} {W : World} {r : List S43 × Nat} {l : HL} (h : HForm w g B c W (r :: l)) (x : List S43) {A : Option Addr} {m : Nat} (hm : x.length ≤ m)
    (hC : k43.C w A x.length x) : HForm w g B c (W.setCell ⟨B, 0, none⟩ (.slice A x.length m)) ((x, r.2) :: l) := by
  obtain ⟨h1, h2, h3, h4, ⟨cells, h5⟩, h6⟩ := h
  exact ⟨h1, h2, h3, blk_far h4 (fun e => h1 e.symm) _, ⟨_, blk_set h5 _ _⟩, kH_set0 h6 x hm hC⟩
theorem HForm.put {w : World} {g B c : Nat} {W : World} {l : HL} (h : HForm w g B c W l) (i : Nat) (hi : i < l.length) (x : List S43 × Nat) {A : Option Addr} {m : Nat} (hm : x.1.length ≤ m)
    (hC : k43.C w A x.1.length x.1) : HForm w g B c ((W.setCell ⟨B, i * 2, none⟩ (.slice A x.1.length m)).setCell ⟨B, i * 2 + 1, none⟩ (.int .i64 (x.2 : Int))) (l.set i x) := by
  obtain ⟨h1, h2, h3, h4, ⟨cells, h5⟩, h6⟩ := h
  refine ⟨h1, h2, by rw [List.length_set]; exact h3, ?_, ?_, ?_⟩
  · rw [List.length_set]
    exact blk_far (blk_far h4 (fun e => h1 e.symm) _) (fun e => h1 e.symm) _
  · exact ⟨_, blk_set (blk_set h5 _ _) _ _⟩
  · have := kH_set h6 i hi x hm hC
    rw [List.length_set]
    exact this
theorem HForm.at_ {w : World} {g B c : Nat} {W : World} {l : HL} (h : HForm w g B c W l) (hg : w.heap.size ≤ g) (hb : Below w.heap.size w W) : HeapAt w g W l := ⟨⟨_, h.2.2.2.1, h.2.2.2.2.2⟩, hg, hb⟩
theorem HForm.below {w : World} {g B c : Nat} {W W1 : World} {l : HL} (h : HForm w g B c W l) (hb : Below W.heap.size W W1) : HForm w g B c W1 l := by
  obtain ⟨h1, h2, h3, h4, ⟨cells, h5⟩, h6⟩ := h
  exact ⟨h1, h2, h3, blk_below h4 hb, ⟨cells, blk_below h5 hb⟩, Kd.R_below h6 hb⟩
theorem HForm.gcell {w : World} {g B c : Nat} {W : World} {l : HL} (h : HForm w g B c W l) : W.cell? ⟨g, 0, none⟩ = some (.slice (some ⟨B, 0, none⟩) l.length c) := (blk_cell h.2.2.2.1 0).trans rfl
theorem infoHs : (Try.prog.info? 60).map (·.size) = some 2 := by kernel_rfl
theorem elem_put {W : World} {oi : Oper} {a : Act} (x y : Operand) (ho : oi.op = .store 60 x y) (b o : Nat) (u v : Value) (hx : a.eval x = .pointer (some ⟨b, o, none⟩)) (hy : a.eval y = .agg #[u, v]) {cells : Array Value} (hb : W.heap[b]? = some (.cells cells 60 (0, 0)))
    (h0 : (W.cell? ⟨b, o, none⟩).isSome = true) (h2 : (W.cell? ⟨b, o + 1, none⟩).isSome = true) (h1 : u.oneCell' = true ∧ v.oneCell' = true) : (execOp a.eval oi).run Try.prog W = .ok .skip ((W.setCell ⟨b, o, none⟩ u).setCell ⟨b, o + 1, none⟩ v) := by
  have ht : W.there b o #[u, v].size := by
    intro j hj
    have hj2 : j < 2 := hj
    refine ⟨?_, blk_frozen hb _⟩
    rcases j with _ | _ | j
    · exact h0
    · exact h2
    · omega
  unfold execOp
  simp only [ho, hx, hy, Instr.storeAt, Instr.sureAddr, Sem.run_bind, Sem.run_pure, Result.andThen_ok, run_storeVar_mid (P := Try.prog) W b o 60 #[u, v] ht infoHs (by simp [h1.1, h1.2])]
  rfl
theorem infoH : (Try.prog.info? 60).map (fun i => (i.zero, i.size, i.bytes)) = some (some (.agg #[(.slice none 0 0), (.int .i64 0)]), 2, 32) := by kernel_rfl
set_option maxHeartbeats 8000000 in
set_option maxRecDepth 100000 in
theorem readers_Swap.calls (w : World) (g : Nat) (W : World) (l : HL) (i j : Nat) (hi : i < l.length) (hj : j < l.length) (hl : l.length ≤ 1099511627776) (hH : HeapAt w g W l) :
  Calls Try.prog 61 #[.pointer (some ⟨g, 0, none⟩), .int .i64 (i : Int), .int .i64 (j : Int)] W fun e w' => e = .returned (.tuple #[]) ∧ HeapAt w g w' (HM.swapR ([], 0) l i j) ∧ HKeep g W w' := by
 obtain ⟨B, c, hF⟩ := hH.form (by omega)
 obtain ⟨Ai, ci, hi0, hi1, hi2, hi3⟩ := hF.cell i hi
 obtain ⟨Aj, cj, hj0, hj1, hj2, hj3⟩ := hF.cell j hj
 have hg0 := hF.gcell
 have HF := Aside0.mk hF
 have HH := Aside0.mk hH
 have HI := Aside0.mk (And.intro hi2 hi3)
 have HJ := Aside0.mk (And.intro hj2 hj3)
 have hu60 := Try.underlying60
 obtain ⟨n, hn⟩ : ∃ n, l.length = n := ⟨_, rfl⟩
 obtain ⟨ni, hni⟩ : ∃ ni, (l.getD i ([], 0)).1.length = ni := ⟨_, rfl⟩
 obtain ⟨nj, hnj⟩ : ∃ nj, (l.getD j ([], 0)).1.length = nj := ⟨_, rfl⟩
 obtain ⟨vi, hvi⟩ : ∃ vi, ((l.getD i ([], 0)).2 : Int) = vi := ⟨_, rfl⟩
 obtain ⟨vj, hvj⟩ : ∃ vj, ((l.getD j ([], 0)).2 : Int) = vj := ⟨_, rfl⟩
 rw [hn] at hi hj hl hg0
 rw [hni] at hi0
 rw [hvi] at hi1
 rw [hnj] at hj0
 rw [hvj] at hj1
 have HN := Aside0.mk hn
 have HNI := Aside0.mk hni
 have HNJ := Aside0.mk hnj
 have HVI := Aside0.mk hvi
 have HVJ := Aside0.mk hvj
 clear hH hF hi2 hi3 hj2 hj3 hn hni hnj hvi hvj
 have hgt_ := fun (t : TypeId) (x y : ByteArray) (W : World) => Cap.gtr_str (P := Try.prog) t x y W
 go_enter Try.func61, Try.ntmps61
 go_wp2
 refine start_ (n := 28) (S := fun w' => w'.cell? ⟨g, 0, none⟩ = some (.slice (some ⟨B, 0, none⟩) n c) ∧ w'.cell? ⟨B, i * 2, none⟩ = some (.slice Ai ni ci) ∧ w'.cell? ⟨B, i * 2 + 1, none⟩ = some (.int .i64 vi) ∧ w'.cell? ⟨B, j * 2, none⟩ = some (.slice Aj nj cj) ∧ w'.cell? ⟨B, j * 2 + 1, none⟩ = some (.int .i64 vj)) (ds := [25, 27]) zf109 (by kernel_rfl) rfl rfl ⟨hg0, hi0, hi1, hj0, hj1⟩ (fun hHeld => ?_)
 refine pure_ (i := 0) (N := some 6) (v := ?_) (a' := ?_) zf110 rfl rfl (by kernel_rfl) (fun _ _ _ h => h) (Or.inl ⟨by rfl, ?_⟩) ?_ ?_; rotate_left; intro w'; go_simp; with_reducible rfl; rotate_left; simp only [Cap.pz]; rfl
 refine pure_ (i := 1) (N := some 7) (v := ?_) (a' := ?_) zf111 rfl rfl (by kernel_rfl) (fun _ _ _ h => h) (Or.inl ⟨by rfl, ?_⟩) ?_ ?_; rotate_left; intro w'; go_simp; with_reducible rfl; rotate_left; simp only [Cap.pz]; rfl
 refine pure_ (i := 2) (N := some 8) (v := ?_) (a' := ?_) zf112 rfl rfl (by kernel_rfl) (fun _ _ _ h => h) (Or.inl ⟨by rfl, ?_⟩) ?_ ?_; rotate_left; intro w'; go_simp; with_reducible rfl; rotate_left; simp only [Cap.pz]; rfl
 refine take_ (i := 3) (N := some 9) (v := ?_) (a' := ?_) zf113 rfl rfl (by kernel_rfl) (fun _ _ _ h => h) (Or.inl ⟨by rfl, ?_⟩) hHeld ?_ ?_; rotate_left; rintro w' ⟨s0, s1, s2, s3, s4⟩; go_simp; with_reducible rfl; rotate_left; simp only [Cap.pz]; rfl
 refine pure_ (i := 4) (N := some 10) (v := ?_) (a' := ?_) zf114 rfl rfl (by kernel_rfl) (fun _ _ _ h => h) (Or.inl ⟨by rfl, ?_⟩) ?_ ?_; rotate_left; intro w'; go_simp; with_reducible rfl; rotate_left; simp only [Cap.pz]; rfl
 refine pure_ (i := 5) (N := some 11) (v := ?_) (a' := ?_) zf115 rfl rfl (by kernel_rfl) (fun _ _ _ h => h) (Or.inl ⟨by rfl, ?_⟩) ?_ ?_; rotate_left; intro w'; go_simp; with_reducible rfl; rotate_left; simp only [Cap.pz]; rfl
 refine pure_ (i := 6) (N := some 12) (v := ?_) (a' := ?_) zf116 rfl rfl (by kernel_rfl) (fun _ _ _ h => h) (Or.inl ⟨by rfl, ?_⟩) ?_ ?_; rotate_left; intro w'; go_simp; with_reducible rfl; rotate_left; simp only [Cap.pz]; rfl
 refine pure_ (i := 7) (N := some 13) (v := ?_) (a' := ?_) zf117 rfl rfl (by kernel_rfl) (fun _ _ _ h => h) (Or.inl ⟨by rfl, ?_⟩) ?_ ?_; rotate_left; intro w'; go_simp; with_reducible rfl; rotate_left; simp only [Cap.pz]; rfl
 refine take_ (i := 8) (N := some 14) (v := ?_) (a' := ?_) zf118 rfl rfl (by kernel_rfl) (fun _ _ _ h => h) (Or.inl ⟨by rfl, ?_⟩) hHeld ?_ ?_; rotate_left; rintro w' ⟨s0, s1, s2, s3, s4⟩; go_simp; with_reducible rfl; rotate_left; simp only [Cap.pz]; rfl
 refine pure_ (i := 9) (N := some 15) (v := ?_) (a' := ?_) zf119 rfl rfl (by kernel_rfl) (fun _ _ _ h => h) (Or.inl ⟨by rfl, ?_⟩) ?_ ?_; rotate_left; intro w'; go_simp; with_reducible rfl; rotate_left; simp only [Cap.pz]; rfl
 refine pure_ (i := 10) (N := some 16) (v := ?_) (a' := ?_) zf120 rfl rfl (by kernel_rfl) (fun _ _ _ h => h) (Or.inl ⟨by rfl, ?_⟩) ?_ ?_; rotate_left; intro w'; go_simp; with_reducible rfl; rotate_left; simp only [Cap.pz]; rfl
 refine pure_ (i := 11) (N := some 17) (v := ?_) (a' := ?_) zf121 rfl rfl (by kernel_rfl) (fun _ _ _ h => h) (Or.inl ⟨by rfl, ?_⟩) ?_ ?_; rotate_left; intro w'; go_simp; with_reducible rfl; rotate_left; simp only [Cap.pz]; rfl
 refine pure_ (i := 12) (N := some 18) (v := ?_) (a' := ?_) zf122 rfl rfl (by kernel_rfl) (fun _ _ _ h => h) (Or.inl ⟨by rfl, ?_⟩) ?_ ?_; rotate_left; intro w'; go_simp; with_reducible rfl; rotate_left; simp only [Cap.pz]; rfl
 refine take_ (i := 13) (N := some 19) (v := ?_) (a' := ?_) zf123 rfl rfl (by kernel_rfl) (fun _ _ _ h => h) (Or.inl ⟨by rfl, ?_⟩) hHeld ?_ ?_; rotate_left; rintro w' ⟨s0, s1, s2, s3, s4⟩; go_simp; with_reducible rfl; rotate_left; simp only [Cap.pz]; rfl
 refine pure_ (i := 14) (N := some 20) (v := ?_) (a' := ?_) zf124 rfl rfl (by kernel_rfl) (fun _ _ _ h => h) (Or.inl ⟨by rfl, ?_⟩) ?_ ?_; rotate_left; intro w'; go_simp; with_reducible rfl; rotate_left; simp only [Cap.pz]; rfl
 refine pure_ (i := 15) (N := some 21) (v := ?_) (a' := ?_) zf125 rfl rfl (by kernel_rfl) (fun _ _ _ h => h) (Or.inl ⟨by rfl, ?_⟩) ?_ ?_; rotate_left; intro w'; go_simp; with_reducible rfl; rotate_left; simp only [Cap.pz]; rfl
 refine take_ (i := 16) (N := some 22) (v := ?_) (a' := ?_) zf126 rfl rfl (by kernel_rfl) (fun _ _ _ h => h) (Or.inl ⟨by rfl, ?_⟩) hHeld ?_ ?_; rotate_left; rintro w' ⟨s0, s1, s2, s3, s4⟩; go_simp; with_reducible rfl; rotate_left; simp only [Cap.pz]; rfl
 refine pure_ (i := 17) (N := some 23) (v := ?_) (a' := ?_) zf127 rfl rfl (by kernel_rfl) (fun _ _ _ h => h) (Or.inl ⟨by rfl, ?_⟩) ?_ ?_; rotate_left; intro w'; go_simp; with_reducible rfl; rotate_left; simp only [Cap.pz]; rfl
 refine pure_ (i := 18) (N := some 24) (v := ?_) (a' := ?_) zf128 rfl rfl (by kernel_rfl) (fun _ _ _ h => h) (Or.inl ⟨by rfl, ?_⟩) ?_ ?_; rotate_left; intro w'; go_simp; with_reducible rfl; rotate_left; simp only [Cap.pz]; rfl
 refine pure_ (i := 19) (N := some 25) (v := ?_) (a' := ?_) zf129 rfl rfl (by kernel_rfl) (fun _ _ _ h => h) (Or.inl ⟨by rfl, ?_⟩) ?_ ?_; rotate_left; intro w'; go_simp; with_reducible rfl; rotate_left; simp only [Cap.pz]; rfl
 refine take_ (i := 20) (N := some 26) (v := ?_) (a' := ?_) zf130 rfl rfl (by kernel_rfl) (fun _ _ _ h => h) (Or.inl ⟨by rfl, ?_⟩) hHeld ?_ ?_; rotate_left; rintro w' ⟨s0, s1, s2, s3, s4⟩; go_simp; with_reducible rfl; rotate_left; simp only [Cap.pz]; rfl
 refine pure_ (i := 21) (N := some 27) (v := ?_) (a' := ?_) zf131 rfl rfl (by kernel_rfl) (fun _ _ _ h => h) (Or.inl ⟨by rfl, ?_⟩) ?_ ?_; rotate_left; intro w'; go_simp; with_reducible rfl; rotate_left; simp only [Cap.pz]; rfl
 refine pure_ (i := 22) (N := some 28) (v := ?_) (a' := ?_) zf132 rfl rfl (by kernel_rfl) (fun _ _ _ h => h) (Or.inl ⟨by rfl, ?_⟩) ?_ ?_; rotate_left; intro w'; go_simp; with_reducible rfl; rotate_left; simp only [Cap.pz]; rfl
 refine take_ (i := 23) (N := some 29) (v := ?_) (a' := ?_) zf133 rfl rfl (by kernel_rfl) (fun _ _ _ h => h) (Or.inl ⟨by rfl, ?_⟩) hHeld ?_ ?_; rotate_left; rintro w' ⟨s0, s1, s2, s3, s4⟩; go_simp; with_reducible rfl; rotate_left; simp only [Cap.pz]; rfl
 refine pure_ (i := 24) (N := some 30) (v := ?_) (a' := ?_) zf134 rfl rfl (by kernel_rfl) (fun _ _ _ h => h) (Or.inl ⟨by rfl, ?_⟩) ?_ ?_; rotate_left; intro w'; go_simp; with_reducible rfl; rotate_left; simp only [Cap.pz]; rfl
 have n0_ := Aside0.mk (HF.out.below (below_drew1 (Below.refl _ _)))
 have n1_ := Aside0.mk (below_drew1 HH.out.bel)
 have n2_ := Aside0.mk (HKeep.drew (HKeep.refl g W))
 generalize W.drew = w7 at hHeld n0_ n1_ n2_ ⊢
 obtain ⟨hg0', hi0', hi1', hj0', hj1'⟩ := hHeld
 obtain ⟨cells, hB⟩ := n0_.out.2.2.2.2.1
 refine last_ (i := 25) (N := none) zf135 rfl rfl (by kernel_rfl) (by decide) (fun Kq hK => ?_)
 refine skip_ (w1 := (w7.setCell ⟨B, i * 2, none⟩ (.slice Aj nj cj)).setCell ⟨B, i * 2 + 1, none⟩ (.int .i64 vj)) (by rfl) rfl (elem_put (.tmp 30) (.tmp 22) rfl B (i * 2) (.slice Aj nj cj) (.int .i64 vj) rfl rfl hB (by rw [hi0']; rfl) (by rw [hi1']; rfl) ⟨rfl, rfl⟩) ?_
 refine hK.out _ _ ?_
 clear hK Kq
 have hF2 := n0_.out.put i (by rw [HN.out]; exact hi) (l.getD j ([], 0)) HJ.out.1 HJ.out.2
 rw [HNJ.out, HVJ.out] at hF2
 obtain ⟨Ak, ck, hk0, hk1, -, -⟩ := hF2.cell j (by rw [List.length_set, HN.out]; exact hj)
 have hs0 := Option.isSome_of_mem (Option.mem_def.2 hk0)
 have hs1 := Option.isSome_of_mem (Option.mem_def.2 hk1)
 have hB2 := blk_set (blk_set hB (i * 2) (.slice Aj nj cj)) (i * 2 + 1) (.int .i64 vj)
 have hk2 := ((n2_.out.set (.inr ⟨_, hB⟩) (i * 2) (.slice Aj nj cj)).set (.inr ⟨_, blk_set hB (i * 2) (.slice Aj nj cj)⟩) (i * 2 + 1) (.int .i64 vj))
 have hb2 := below_set (j := i * 2 + 1) (v := .int .i64 vj) (below_set (j := i * 2) (v := .slice Aj nj cj) n1_.out HF.out.2.1) HF.out.2.1
 generalize (w7.setCell ⟨B, i * 2, none⟩ (.slice Aj nj cj)).setCell ⟨B, i * 2 + 1, none⟩ (.int .i64 vj) = w8 at hF2 hB2 hk2 hb2 hk0 hk1 hs0 hs1 ⊢
 refine pure_ (i := 26) (N := some 31) (v := ?_) (a' := ?_) zf136 rfl rfl (by kernel_rfl) (fun _ _ _ h => h) (Or.inl ⟨by rfl, ?_⟩) ?_ ?_; rotate_left; intro w'; go_simp; with_reducible rfl; rotate_left; simp only [Cap.pz]; rfl
 refine last_ (i := 27) (N := none) zf137 rfl rfl (by kernel_rfl) (by decide) (fun Kq hK => ?_)
 refine skip_ (w1 := (w8.setCell ⟨B, j * 2, none⟩ (.slice Ai ni ci)).setCell ⟨B, j * 2 + 1, none⟩ (.int .i64 vi)) (by rfl) rfl (elem_put (.tmp 31) (.tmp 29) rfl B (j * 2) (.slice Ai ni ci) (.int .i64 vi) rfl rfl hB2 hs0 hs1 ⟨rfl, rfl⟩) ?_
 refine hK.out _ _ ?_
 clear hK Kq
 refine done_ (by kernel_rfl) ?_
 have hF3 := hF2.put j (by rw [List.length_set, HN.out]; exact hj) (l.getD i ([], 0)) HI.out.1 HI.out.2
 rw [HNI.out, HVI.out] at hF3
 have hk3 := ((hk2.set (.inr ⟨_, hB2⟩) (j * 2) (.slice Ai ni ci)).set (.inr ⟨_, blk_set hB2 (j * 2) (.slice Ai ni ci)⟩) (j * 2 + 1) (.int .i64 vi))
 have hb3 := below_set (j := j * 2 + 1) (v := .int .i64 vi) (below_set (j := j * 2) (v := .slice Ai ni ci) hb2 HF.out.2.1) HF.out.2.1
 refine bodyPost_end (results_none rfl _ _ _) rfl ?_
 exact ⟨rfl, hF3.at_ HH.out.ge hb3, hk3⟩
theorem head_cells {w : World} {A : Option Addr} {xs : List S43} (h : k43.C w A xs.length xs) (h0 : 0 < xs.length) : ∃ p, A = some p ∧ w.cell? p = some (.string (xs.headD z43).f0) ∧ w.cell? ⟨p.block, p.off + 1, none⟩ = some (.int .i64 (xs.headD z43).f1) ∧ w.cell? ⟨p.block, p.off + 2, none⟩ = some (.bool (xs.headD z43).f2) ∧ w.cell? ⟨p.block, p.off + 3, none⟩ = some (.string (xs.headD z43).f3) := by
  obtain ⟨p, e, h1, h2, h3, h4⟩ := at_T43 h 0 (by omega) (by omega)
  have ez : p.add ((0 : Int).toNat * 4) = p := by show p.add 0 = p; unfold Addr.add; split <;> simp_all
  have eh : rd_T43 xs 0 = xs.headD z43 := by cases xs with | nil => rfl | cons a l => rfl
  rw [ez, eh] at h1 h2 h3 h4
  exact ⟨p, e, h1, h2, h3, h4⟩
def ordOf (x y : S43) : Int := if lessE x y = true then -1 else if lessE y x = true then 1 else 0
theorem order_val (x y : S43) : impl_entryOrder.f x.f0 x.f1 x.f2 x.f3 y.f0 y.f1 y.f2 y.f3 = some (ordOf x y) := by
  have n0 : ∀ s : ByteArray, cmp_isNaN_string.f s = some false := fun s => by unfold cmp_isNaN_string.f; simp
  have n1 : ∀ s : Int, cmp_isNaN_int64.f s = some false := fun s => by unfold cmp_isNaN_int64.f; simp
  have hirr : ∀ a : List UInt8, Op.bytesLess a a = false := fun a => by
    have := Cap.less_tri a a
    simp at this
    exact this
  unfold impl_entryOrder.f cmp_Compare_string.f ordOf lessE
  rw [n0, n0, Option.bind_some, Option.bind_some, if_neg (by decide), if_neg (by decide)]
  by_cases h1 : Op.bytesLess x.f0.toList y.f0.toList = true
  · rw [if_pos h1, Option.bind_some, if_neg (by decide), h1]
    rfl
  rw [if_neg h1]
  rw [Bool.not_eq_true] at h1
  have ht := Cap.less_tri x.f0.toList y.f0.toList
  rw [h1, Bool.false_or] at ht
  rw [h1, Bool.false_or]
  by_cases h2 : x.f0.toList = y.f0.toList
  rotate_left
  · have h3 : Op.bytesLess y.f0.toList x.f0.toList = true := by rw [← ht]; simp [h2]
    rw [if_pos h3, Option.bind_some, if_neg (by decide), decide_eq_false h2, h3]
    rfl
  have h3 : Op.bytesLess y.f0.toList x.f0.toList = false := by rw [← h2]; exact hirr _
  rw [h3, if_neg (by decide), Option.bind_some, if_pos rfl, decide_eq_true h2, Bool.true_and, decide_eq_true h2.symm, Bool.true_and, Bool.false_or]
  unfold cmp_Compare_int64.f
  rw [n1, n1, Option.bind_some, Option.bind_some, if_neg (by decide), if_neg (by decide)]
  by_cases h4 : y.f1 < x.f1
  · rw [if_pos h4, Option.bind_some, decide_eq_true h4]
    rfl
  rw [if_neg h4, show decide (x.f1 > y.f1) = false from decide_eq_false h4]
  by_cases h5 : y.f1 > x.f1
  · rw [if_pos h5, Option.bind_some, decide_eq_true h5]
    rfl
  rw [if_neg h5, Option.bind_some, decide_eq_false h5]
  rfl
set_option maxHeartbeats 8000000 in
set_option maxRecDepth 100000 in
theorem readers_Less.calls (w : World) (g : Nat) (W : World) (l : HL) (i j : Nat) (hi : i < l.length) (hj : j < l.length) (hl : l.length ≤ 1099511627776) (hri : 0 < (l.getD i ([], 0)).1.length) (hrj : 0 < (l.getD j ([], 0)).1.length) (hH : HeapAt w g W l) :
  Calls Try.prog 58 #[.pointer (some ⟨g, 0, none⟩), .int .i64 (i : Int), .int .i64 (j : Int)] W fun e w' => e = .returned (.bool (HM.lessR lessE z43 (l.getD i ([], 0)) (l.getD j ([], 0)))) ∧ Below W.heap.size W w' := by
 obtain ⟨B, c, hF⟩ := hH.form (by omega)
 obtain ⟨Ai, ci, hi0, hi1, hi2, hi3⟩ := hF.cell i hi
 obtain ⟨Aj, cj, hj0, hj1, hj2, hj3⟩ := hF.cell j hj
 obtain ⟨p, rfl, hp0, hp1, hp2, hp3⟩ := head_cells (Kd.C_below hi3 hH.bel) hri
 obtain ⟨q, rfl, hq0, hq1, hq2, hq3⟩ := head_cells (Kd.C_below hj3 hH.bel) hrj
 have hg0 := hF.gcell
 have hu60 := Try.underlying60
 have hu43 := Try.underlying43
 unfold HM.lessR
 obtain ⟨x, hx⟩ : ∃ x, (l.getD i ([], 0)).1.headD z43 = x := ⟨_, rfl⟩
 obtain ⟨y, hy⟩ : ∃ y, (l.getD j ([], 0)).1.headD z43 = y := ⟨_, rfl⟩
 rw [hx] at hp0 hp1 hp2 hp3
 rw [hy] at hq0 hq1 hq2 hq3
 rw [hx, hy]
 obtain ⟨n, hn⟩ : ∃ n, l.length = n := ⟨_, rfl⟩
 obtain ⟨ni, hni⟩ : ∃ ni, (l.getD i ([], 0)).1.length = ni := ⟨_, rfl⟩
 obtain ⟨nj, hnj⟩ : ∃ nj, (l.getD j ([], 0)).1.length = nj := ⟨_, rfl⟩
 obtain ⟨vi, hvi⟩ : ∃ vi, (l.getD i ([], 0)).2 = vi := ⟨_, rfl⟩
 obtain ⟨vj, hvj⟩ : ∃ vj, (l.getD j ([], 0)).2 = vj := ⟨_, rfl⟩
 rw [hn] at hi hj hl hg0
 rw [hni] at hi0 hri
 rw [hvi] at hi1 ⊢
 rw [hnj] at hj0 hrj
 rw [hvj] at hj1 ⊢
 have HI0 := Aside0.mk hi0
 have HI1 := Aside0.mk hi1
 have HJ0 := Aside0.mk hj0
 have HJ1 := Aside0.mk hj1
 have HG0 := Aside0.mk hg0
 clear hi2 hi3 hj2 hj3 hn hni hnj hvi hvj hx hy hH hF
 have hgt_ := fun (t : TypeId) (x y : ByteArray) (W : World) => Cap.gtr_str (P := Try.prog) t x y W
 go_enter Try.func58, Try.ntmps58
 go_wp2
 refine start_ (n := 22) (S := fun w' => w'.cell? ⟨g, 0, none⟩ = some (.slice (some ⟨B, 0, none⟩) n c) ∧ w'.cell? ⟨B, i * 2, none⟩ = some (.slice (some p) ni ci) ∧ w'.cell? ⟨B, j * 2, none⟩ = some (.slice (some q) nj cj) ∧ w'.cell? p = some (.string x.f0) ∧ w'.cell? ⟨p.block, p.off + 1, none⟩ = some (.int .i64 x.f1) ∧ w'.cell? ⟨p.block, p.off + 2, none⟩ = some (.bool x.f2) ∧ w'.cell? ⟨p.block, p.off + 3, none⟩ = some (.string x.f3) ∧ w'.cell? q = some (.string y.f0) ∧ w'.cell? ⟨q.block, q.off + 1, none⟩ = some (.int .i64 y.f1) ∧ w'.cell? ⟨q.block, q.off + 2, none⟩ = some (.bool y.f2) ∧ w'.cell? ⟨q.block, q.off + 3, none⟩ = some (.string y.f3)) (ds := [20]) zf138 (by kernel_rfl) rfl rfl ⟨hg0, hi0, hj0, hp0, hp1, hp2, hp3, hq0, hq1, hq2, hq3⟩ (fun hHeld => ?_)
 refine pure_ (i := 0) (N := some 8) (v := ?_) (a' := ?_) zf139 rfl rfl (by kernel_rfl) (fun _ _ _ h => h) (Or.inl ⟨by rfl, ?_⟩) ?_ ?_; rotate_left; intro w'; go_simp; with_reducible rfl; rotate_left; simp only [Cap.pz]; rfl
 refine pure_ (i := 1) (N := some 9) (v := ?_) (a' := ?_) zf140 rfl rfl (by kernel_rfl) (fun _ _ _ h => h) (Or.inl ⟨by rfl, ?_⟩) ?_ ?_; rotate_left; intro w'; go_simp; with_reducible rfl; rotate_left; simp only [Cap.pz]; rfl
 refine pure_ (i := 2) (N := some 10) (v := ?_) (a' := ?_) zf141 rfl rfl (by kernel_rfl) (fun _ _ _ h => h) (Or.inl ⟨by rfl, ?_⟩) ?_ ?_; rotate_left; intro w'; go_simp; with_reducible rfl; rotate_left; simp only [Cap.pz]; rfl
 refine take_ (i := 3) (N := some 11) (v := ?_) (a' := ?_) zf142 rfl rfl (by kernel_rfl) (fun _ _ _ h => h) (Or.inl ⟨by rfl, ?_⟩) hHeld ?_ ?_; rotate_left; rintro w' ⟨s0, s1, s2, s3, s4, s5, s6, s7, s8, s9, s10⟩; go_simp; with_reducible rfl; rotate_left; simp only [Cap.pz]; rfl
 refine pure_ (i := 4) (N := some 12) (v := ?_) (a' := ?_) zf143 rfl rfl (by kernel_rfl) (fun _ _ _ h => h) (Or.inl ⟨by rfl, ?_⟩) ?_ ?_; rotate_left; intro w'; go_simp; with_reducible rfl; rotate_left; simp only [Cap.pz]; rfl
 refine pure_ (i := 5) (N := some 13) (v := ?_) (a' := ?_) zf144 rfl rfl (by kernel_rfl) (fun _ _ _ h => h) (Or.inl ⟨by rfl, ?_⟩) ?_ ?_; rotate_left; intro w'; go_simp; with_reducible rfl; rotate_left; simp only [Cap.pz]; rfl
 refine pure_ (i := 6) (N := some 14) (v := ?_) (a' := ?_) zf145 rfl rfl (by kernel_rfl) (fun _ _ _ h => h) (Or.inl ⟨by rfl, ?_⟩) ?_ ?_; rotate_left; intro w'; go_simp; with_reducible rfl; rotate_left; simp only [Cap.pz]; rfl
 refine take_ (i := 7) (N := some 15) (v := ?_) (a' := ?_) zf146 rfl rfl (by kernel_rfl) (fun _ _ _ h => h) (Or.inl ⟨by rfl, ?_⟩) hHeld ?_ ?_; rotate_left; rintro w' ⟨s0, s1, s2, s3, s4, s5, s6, s7, s8, s9, s10⟩; go_simp; with_reducible rfl; rotate_left; simp only [Cap.pz]; rfl
 refine pure_ (i := 8) (N := some 16) (v := ?_) (a' := ?_) zf147 rfl rfl (by kernel_rfl) (fun _ _ _ h => h) (Or.inl ⟨by rfl, ?_⟩) ?_ ?_; rotate_left; intro w'; go_simp; with_reducible rfl; rotate_left; simp only [Cap.pz]; rfl
 refine take_ (i := 9) (N := some 17) (v := ?_) (a' := ?_) zf148 rfl rfl (by kernel_rfl) (fun _ _ _ h => h) (Or.inl ⟨by rfl, ?_⟩) hHeld ?_ ?_; rotate_left; rintro w' ⟨s0, s1, s2, s3, s4, s5, s6, s7, s8, s9, s10⟩; go_simp; with_reducible rfl; rotate_left; simp only [Cap.pz]; rfl
 refine pure_ (i := 10) (N := some 18) (v := ?_) (a' := ?_) zf149 rfl rfl (by kernel_rfl) (fun _ _ _ h => h) (Or.inl ⟨by rfl, ?_⟩) ?_ ?_; rotate_left; intro w'; go_simp; with_reducible rfl; rotate_left; simp only [Cap.pz]; rfl
 refine pure_ (i := 11) (N := some 19) (v := ?_) (a' := ?_) zf150 rfl rfl (by kernel_rfl) (fun _ _ _ h => h) (Or.inl ⟨by rfl, ?_⟩) ?_ ?_; rotate_left; intro w'; go_simp; with_reducible rfl; rotate_left; simp only [Cap.pz]; rfl
 refine pure_ (i := 12) (N := some 20) (v := ?_) (a' := ?_) zf151 rfl rfl (by kernel_rfl) (fun _ _ _ h => h) (Or.inl ⟨by rfl, ?_⟩) ?_ ?_; rotate_left; intro w'; go_simp; with_reducible rfl; rotate_left; simp only [Cap.pz]; rfl
 refine take_ (i := 13) (N := some 21) (v := ?_) (a' := ?_) zf152 rfl rfl (by kernel_rfl) (fun _ _ _ h => h) (Or.inl ⟨by rfl, ?_⟩) hHeld ?_ ?_; rotate_left; rintro w' ⟨s0, s1, s2, s3, s4, s5, s6, s7, s8, s9, s10⟩; go_simp; with_reducible rfl; rotate_left; simp only [Cap.pz]; rfl
 refine pure_ (i := 14) (N := some 22) (v := ?_) (a' := ?_) zf153 rfl rfl (by kernel_rfl) (fun _ _ _ h => h) (Or.inl ⟨by rfl, ?_⟩) ?_ ?_; rotate_left; intro w'; go_simp; with_reducible rfl; rotate_left; simp only [Cap.pz]; rfl
 refine pure_ (i := 15) (N := some 23) (v := ?_) (a' := ?_) zf154 rfl rfl (by kernel_rfl) (fun _ _ _ h => h) (Or.inl ⟨by rfl, ?_⟩) ?_ ?_; rotate_left; intro w'; go_simp; with_reducible rfl; rotate_left; simp only [Cap.pz]; rfl
 refine pure_ (i := 16) (N := some 24) (v := ?_) (a' := ?_) zf155 rfl rfl (by kernel_rfl) (fun _ _ _ h => h) (Or.inl ⟨by rfl, ?_⟩) ?_ ?_; rotate_left; intro w'; go_simp; with_reducible rfl; rotate_left; simp only [Cap.pz]; rfl
 refine take_ (i := 17) (N := some 25) (v := ?_) (a' := ?_) zf156 rfl rfl (by kernel_rfl) (fun _ _ _ h => h) (Or.inl ⟨by rfl, ?_⟩) hHeld ?_ ?_; rotate_left; rintro w' ⟨s0, s1, s2, s3, s4, s5, s6, s7, s8, s9, s10⟩; go_simp; with_reducible rfl; rotate_left; simp only [Cap.pz]; rfl
 refine pure_ (i := 18) (N := some 26) (v := ?_) (a' := ?_) zf157 rfl rfl (by kernel_rfl) (fun _ _ _ h => h) (Or.inl ⟨by rfl, ?_⟩) ?_ ?_; rotate_left; intro w'; go_simp; with_reducible rfl; rotate_left; simp only [Cap.pz]; rfl
 refine take_ (i := 19) (N := some 27) (v := ?_) (a' := ?_) zf158 rfl rfl (by kernel_rfl) (fun _ _ _ h => h) (Or.inl ⟨by rfl, ?_⟩) hHeld ?_ ?_; rotate_left; rintro w' ⟨s0, s1, s2, s3, s4, s5, s6, s7, s8, s9, s10⟩; go_simp; with_reducible rfl; rotate_left; simp only [Cap.pz]; rfl
 have HB := Aside0.mk (below_drew1 (Below.refl W.heap.size W))
 generalize W.drew = w7 at hHeld HB ⊢
 refine last_ (i := 20) (N := some 28) zf159 rfl rfl (by kernel_rfl) (by decide) (fun Kq hK => ?_)
 refine goes_ Try.func27 (by kernel_rfl) rfl #[.agg #[.string x.f0, .int .i64 x.f1, .bool x.f2, .string x.f3], .agg #[.string y.f0, .int .i64 y.f1, .bool y.f2, .string y.f3]] (by rfl) rfl rfl (by (try simp only [List.map_toArray, List.map_cons, List.map_nil]); first | done | rfl | (simp only [List.length_drop, List.length_take]; rfl)) ?_
 refine (impl_entryOrder.calls x.f0 x.f1 x.f2 x.f3 y.f0 y.f1 y.f2 y.f3 (ordOf x y) _ (order_val x y)).mono ?_
 rintro e w8 ⟨rfl, hb⟩
 refine ⟨_, rfl, ?_⟩
 have n0_ := Aside0.mk (below_step HB.out hb)
 clear HB hb hHeld
 have HB := n0_
 clear n0_
 refine hK.out _ _ ?_
 clear hK Kq
 refine norm_ (a' := ?_) ?_ ?_; rotate_left; show Act.put _ (some 28) _ = _; simp only [Cap.pz]; rfl
 refine pure_ (i := 21) (N := some 7) (v := ?_) (a' := ?_) zf160 rfl rfl (by kernel_rfl) (fun _ _ _ h => h) (Or.inl ⟨by rfl, ?_⟩) ?_ ?_; rotate_left; intro w'; go_simp; with_reducible rfl; rotate_left; simp only [Cap.pz]; rfl
 refine done_ (by kernel_rfl) ?_
 by_cases h1 : lessE x y = true
 ·
  rw [show ordOf x y = -1 by unfold ordOf; rw [if_pos h1]]
  go_wp2
  go_ret
  exact ⟨by rw [h1]; rfl, HB.out⟩
 by_cases h2 : lessE y x = true
 ·
  rw [show ordOf x y = 1 by unfold ordOf; rw [if_neg h1, if_pos h2]]
  go_wp2
  go_ret
  exact ⟨by rw [Bool.eq_false_iff.2 h1, h2]; rfl, HB.out⟩
 rw [show ordOf x y = 0 by unfold ordOf; rw [if_neg h1, if_neg h2]]
 go_wp2
 refine start_ (n := 18) (S := fun w' => w'.cell? ⟨g, 0, none⟩ = some (.slice (some ⟨B, 0, none⟩) n c) ∧ w'.cell? ⟨B, i * 2 + 1, none⟩ = some (.int .i64 (vi : Int)) ∧ w'.cell? ⟨B, j * 2 + 1, none⟩ = some (.int .i64 (vj : Int))) (ds := [17]) zf161 (by kernel_rfl) rfl rfl ⟨pw_cell_below HB.out HG0.out, pw_cell_below HB.out HI1.out, pw_cell_below HB.out HJ1.out⟩ (fun hHeld => ?_)
 refine pure_ (i := 0) (N := some 33) (v := ?_) (a' := ?_) zf162 rfl rfl (by kernel_rfl) (fun _ _ _ h => h) (Or.inl ⟨by rfl, ?_⟩) ?_ ?_; rotate_left; intro w'; go_simp; with_reducible rfl; rotate_left; simp only [Cap.pz]; rfl
 refine pure_ (i := 1) (N := some 34) (v := ?_) (a' := ?_) zf163 rfl rfl (by kernel_rfl) (fun _ _ _ h => h) (Or.inl ⟨by rfl, ?_⟩) ?_ ?_; rotate_left; intro w'; go_simp; with_reducible rfl; rotate_left; simp only [Cap.pz]; rfl
 refine pure_ (i := 2) (N := some 35) (v := ?_) (a' := ?_) zf164 rfl rfl (by kernel_rfl) (fun _ _ _ h => h) (Or.inl ⟨by rfl, ?_⟩) ?_ ?_; rotate_left; intro w'; go_simp; with_reducible rfl; rotate_left; simp only [Cap.pz]; rfl
 refine take_ (i := 3) (N := some 36) (v := ?_) (a' := ?_) zf165 rfl rfl (by kernel_rfl) (fun _ _ _ h => h) (Or.inl ⟨by rfl, ?_⟩) hHeld ?_ ?_; rotate_left; rintro w' ⟨s0, s1, s2⟩; go_simp; with_reducible rfl; rotate_left; simp only [Cap.pz]; rfl
 refine pure_ (i := 4) (N := some 37) (v := ?_) (a' := ?_) zf166 rfl rfl (by kernel_rfl) (fun _ _ _ h => h) (Or.inl ⟨by rfl, ?_⟩) ?_ ?_; rotate_left; intro w'; go_simp; with_reducible rfl; rotate_left; simp only [Cap.pz]; rfl
 refine pure_ (i := 5) (N := some 38) (v := ?_) (a' := ?_) zf167 rfl rfl (by kernel_rfl) (fun _ _ _ h => h) (Or.inl ⟨by rfl, ?_⟩) ?_ ?_; rotate_left; intro w'; go_simp; with_reducible rfl; rotate_left; simp only [Cap.pz]; rfl
 refine pure_ (i := 6) (N := some 39) (v := ?_) (a' := ?_) zf168 rfl rfl (by kernel_rfl) (fun _ _ _ h => h) (Or.inl ⟨by rfl, ?_⟩) ?_ ?_; rotate_left; intro w'; go_simp; with_reducible rfl; rotate_left; simp only [Cap.pz]; rfl
 refine take_ (i := 7) (N := some 40) (v := ?_) (a' := ?_) zf169 rfl rfl (by kernel_rfl) (fun _ _ _ h => h) (Or.inl ⟨by rfl, ?_⟩) hHeld ?_ ?_; rotate_left; rintro w' ⟨s0, s1, s2⟩; go_simp; with_reducible rfl; rotate_left; simp only [Cap.pz]; rfl
 refine pure_ (i := 8) (N := some 41) (v := ?_) (a' := ?_) zf170 rfl rfl (by kernel_rfl) (fun _ _ _ h => h) (Or.inl ⟨by rfl, ?_⟩) ?_ ?_; rotate_left; intro w'; go_simp; with_reducible rfl; rotate_left; simp only [Cap.pz]; rfl
 refine pure_ (i := 9) (N := some 42) (v := ?_) (a' := ?_) zf171 rfl rfl (by kernel_rfl) (fun _ _ _ h => h) (Or.inl ⟨by rfl, ?_⟩) ?_ ?_; rotate_left; intro w'; go_simp; with_reducible rfl; rotate_left; simp only [Cap.pz]; rfl
 refine pure_ (i := 10) (N := some 43) (v := ?_) (a' := ?_) zf172 rfl rfl (by kernel_rfl) (fun _ _ _ h => h) (Or.inl ⟨by rfl, ?_⟩) ?_ ?_; rotate_left; intro w'; go_simp; with_reducible rfl; rotate_left; simp only [Cap.pz]; rfl
 refine take_ (i := 11) (N := some 44) (v := ?_) (a' := ?_) zf173 rfl rfl (by kernel_rfl) (fun _ _ _ h => h) (Or.inl ⟨by rfl, ?_⟩) hHeld ?_ ?_; rotate_left; rintro w' ⟨s0, s1, s2⟩; go_simp; with_reducible rfl; rotate_left; simp only [Cap.pz]; rfl
 refine pure_ (i := 12) (N := some 45) (v := ?_) (a' := ?_) zf174 rfl rfl (by kernel_rfl) (fun _ _ _ h => h) (Or.inl ⟨by rfl, ?_⟩) ?_ ?_; rotate_left; intro w'; go_simp; with_reducible rfl; rotate_left; simp only [Cap.pz]; rfl
 refine pure_ (i := 13) (N := some 46) (v := ?_) (a' := ?_) zf175 rfl rfl (by kernel_rfl) (fun _ _ _ h => h) (Or.inl ⟨by rfl, ?_⟩) ?_ ?_; rotate_left; intro w'; go_simp; with_reducible rfl; rotate_left; simp only [Cap.pz]; rfl
 refine pure_ (i := 14) (N := some 47) (v := ?_) (a' := ?_) zf176 rfl rfl (by kernel_rfl) (fun _ _ _ h => h) (Or.inl ⟨by rfl, ?_⟩) ?_ ?_; rotate_left; intro w'; go_simp; with_reducible rfl; rotate_left; simp only [Cap.pz]; rfl
 refine take_ (i := 15) (N := some 48) (v := ?_) (a' := ?_) zf177 rfl rfl (by kernel_rfl) (fun _ _ _ h => h) (Or.inl ⟨by rfl, ?_⟩) hHeld ?_ ?_; rotate_left; rintro w' ⟨s0, s1, s2⟩; go_simp; with_reducible rfl; rotate_left; simp only [Cap.pz]; rfl
 refine pure_ (i := 16) (N := some 49) (v := ?_) (a' := ?_) zf178 rfl rfl (by kernel_rfl) (fun _ _ _ h => h) (Or.inl ⟨by rfl, ?_⟩) ?_ ?_; rotate_left; intro w'; go_simp; with_reducible rfl; rotate_left; simp only [Cap.pz]; rfl
 refine pure_ (i := 17) (N := some 6) (v := ?_) (a' := ?_) zf179 rfl rfl (by kernel_rfl) (fun _ _ _ h => h) (Or.inl ⟨by rfl, ?_⟩) ?_ ?_; rotate_left; intro w'; go_simp; with_reducible rfl; rotate_left; simp only [Cap.pz]; rfl
 refine done_ (by kernel_rfl) ?_
 go_wp2
 go_ret
 exact ⟨by show Ending.returned (Value.bool (decide (vi < vj))) = _; rw [Bool.eq_false_iff.2 h1, Bool.eq_false_iff.2 h2]; rfl, below_drew1 HB.out⟩
theorem HKeep.grown {g : Nat} {W W1 W2 : World} {row : Option Nat} (h : HKeep g W W1) (hg : W1.grownBy W2 row) (hr : ∀ k, row = some k → ∃ cells, W1.heap[k]? = some (.cells cells 60 (0, 0))) : HKeep g W W2 :=
  ⟨Nat.le_trans h.1 hg.size, fun k hk hkg hc => (hg.block k (Nat.lt_of_lt_of_le hk h.1) (fun e => by obtain ⟨c, hc2⟩ := hr k e.symm; exact hc c ((h.2 k hk hkg hc).symm.trans hc2))).trans (h.2 k hk hkg hc)⟩
theorem HKeep.far {g B : Nat} {W W1 : World} (h : HKeep g W W1) (hB : W.heap.size ≤ B) (j : Nat) (v : Value) : HKeep g W (W1.setCell ⟨B, j, none⟩ v) :=
  ⟨by rw [World.size_setCell]; exact h.1, fun k hk hg hc => by
    rw [Below.heap_setCell _ _ _ k (fun e => by subst e; exact Nat.lt_irrefl _ (Nat.lt_of_lt_of_le hk hB))]
    exact h.2 k hk hg hc⟩
theorem HForm.far {w : World} {g B c : Nat} {W : World} {l : HL} (h : HForm w g B c W l) {p : Nat} (hg : p ≠ g) (hB : p ≠ B) (j : Nat) (v : Value) : HForm w g B c (W.setCell ⟨p, j, none⟩ v) l := by
  obtain ⟨h1, h2, h3, h4, ⟨cells, h5⟩, h6⟩ := h
  refine ⟨h1, h2, h3, blk_far h4 (fun e => hg e.symm) _, ⟨cells, blk_far h5 (fun e => hB e.symm) _⟩, ?_⟩
  refine Kd.R_mono (Kd.R_step (Kd.R_tight rfl h6) (fun k hk _ => Below.heap_setCell _ _ _ k (fun e => hB (by subst e; simpa [Value.ownBlock] using hk)))) (fun k hk => by rw [show k = B by simpa [Value.ownBlock] using hk]; exact h1)
theorem HForm.cut {w : World} {g B c : Nat} {W : World} {l : HL} (h : HForm w g B c W l) (hg : w.heap.size ≤ g) (hb : Below w.heap.size w W) (m : Nat) (hm : m ≤ l.length) : HeapAt w g (W.setCell ⟨g, 0, none⟩ (.slice (some ⟨B, 0, none⟩) m c)) (l.take m) := by
  obtain ⟨h1, h2, h3, h4, ⟨cells, h5⟩, h6⟩ := h
  exact ⟨⟨_, blk_put h4 0 _ rfl, Kd.R_step (Kd.R_take h6 hm) (fun k hk _ => Below.heap_setCell _ _ _ k hk)⟩, hg, below_set hb hg⟩
theorem readers_Len.calls (w : World) (g : Nat) (W : World) (l : HL) (hH : HeapAt w g W l) :
  Calls Try.prog 29 #[.pointer (some ⟨g, 0, none⟩)] W fun e w' => e = .returned (.int .i64 (l.length : Int)) ∧ w' = W := by
 obtain ⟨⟨v, h1, h2⟩, hg, hB⟩ := hH
 obtain ⟨A, c, rfl⟩ := Kd.R_slice h2
 have hg0 : W.cell? ⟨g, 0, none⟩ = some (.slice A l.length c) := (blk_cell h1 0).trans rfl
 clear h1 h2 hg hB
 have hgt_ := fun (t : TypeId) (x y : ByteArray) (W : World) => Cap.gtr_str (P := Try.prog) t x y W
 go_enter Try.func29, Try.ntmps29
 go_wp2
 go_ret
 exact ⟨rfl, rfl⟩
set_option maxHeartbeats 8000000 in
set_option maxRecDepth 100000 in
theorem readers_Push.calls (w : World) (g : Nat) (W : World) (l : HL) (r : List S43 × Nat) (Ar : Option Addr) (m : Nat) (hm : r.1.length ≤ m) (hC : k43.C w Ar r.1.length r.1) (hl : l.length ≤ 1099511627776) (hH : HeapAt w g W l) :
  Calls Try.prog 60 #[.pointer (some ⟨g, 0, none⟩), .iface 60 (.agg #[.slice Ar r.1.length m, .int .i64 (r.2 : Int)])] W fun e w' => e = .returned (.tuple #[]) ∧ HeapAt w g w' (l ++ [r]) ∧ HKeep g W w' := by
 have hg0 : ∃ A c, W.cell? ⟨g, 0, none⟩ = some (.slice A l.length c) := by
  obtain ⟨⟨v, h1, h2⟩, hg, hB⟩ := hH
  obtain ⟨A, c, rfl⟩ := Kd.R_slice h2
  exact ⟨A, c, (blk_cell h1 0).trans rfl⟩
 obtain ⟨A, c, hg0⟩ := hg0
 have hu60 := Try.underlying60
 obtain ⟨n, hn⟩ : ∃ n, l.length = n := ⟨_, rfl⟩
 rw [hn] at hg0
 have HN := Aside0.mk hn
 clear hn
 have hta : ∀ w', Sem.run Try.prog (Instr.typeAssert (.iface 60 (.agg #[.slice Ar r.1.length m, .int .i64 (r.2 : Int)])) 20 60 false) w' = .ok (.agg #[.slice Ar r.1.length m, .int .i64 (r.2 : Int)]) w' := fun w' => by kernel_rfl
 have hgt_ := fun (t : TypeId) (x y : ByteArray) (W : World) => Cap.gtr_str (P := Try.prog) t x y W
 go_enter Try.func60, Try.ntmps60
 go_wp2
 refine start_ (n := 12) (S := fun w' => w'.cell? ⟨g, 0, none⟩ = some (.slice A n c)) (ds := [11]) zf180 (by kernel_rfl) rfl rfl (hg0) (fun hHeld => ?_)
 generalize hw7 : W.drew = w7 at hHeld ⊢
 have hH7 := hH.drew
 have hk7 := HKeep.drew (HKeep.refl g W)
 rw [hw7] at hH7 hk7
 clear hw7 hg0 hH
 refine pure_ (i := 0) (N := some 4) (v := ?_) (a' := ?_) zf181 rfl rfl (by kernel_rfl) (fun _ _ _ h => h) (Or.inl ⟨by rfl, ?_⟩) ?_ ?_; rotate_left; intro w'; go_simp; with_reducible rfl; rotate_left; simp only [Cap.pz]; rfl
 refine pure_ (i := 1) (N := some 5) (v := ?_) (a' := ?_) zf182 rfl rfl (by kernel_rfl) (fun _ _ _ h => h) (Or.inl ⟨by rfl, ?_⟩) ?_ ?_; rotate_left; intro w'; go_simp; with_reducible rfl; rotate_left; simp only [Cap.pz]; rfl
 refine pure_ (i := 2) (N := some 6) (v := ?_) (a' := ?_) zf183 rfl rfl (by kernel_rfl) (fun _ _ _ h => h) (Or.inl ⟨by rfl, ?_⟩) ?_ ?_; rotate_left; intro w'; go_simp; with_reducible rfl; rotate_left; simp only [Cap.pz]; rfl
 refine pure_ (i := 3) (N := some 7) (v := ?_) (a' := ?_) zf184 rfl rfl (by kernel_rfl) (fun _ _ _ h => h) (Or.inl ⟨by rfl, ?_⟩) ?_ ?_; rotate_left; intro w'; go_simp; with_reducible rfl; rotate_left; simp only [Cap.pz]; rfl
 refine take_ (i := 4) (N := some 8) (v := ?_) (a' := ?_) zf185 rfl rfl (by kernel_rfl) (fun _ _ _ h => h) (Or.inl ⟨by rfl, ?_⟩) hHeld ?_ ?_; rotate_left; rintro w' s0; go_simp; with_reducible rfl; rotate_left; simp only [Cap.pz]; rfl
 refine pure_ (i := 5) (N := some 9) (v := ?_) (a' := ?_) zf186 rfl rfl (by kernel_rfl) (fun _ _ _ h => h) (Or.inl ⟨by rfl, ?_⟩) ?_ ?_; rotate_left; intro w'; go_simp; with_reducible rfl; rotate_left; simp only [Cap.pz]; rfl
 refine pure_ (i := 6) (N := some 10) (v := ?_) (a' := ?_) zf187 rfl rfl (by kernel_rfl) (fun _ _ _ h => h) (Or.inl ⟨by rfl, ?_⟩) ?_ ?_; rotate_left; intro w'; go_simp; with_reducible rfl; rotate_left; simp only [Cap.pz]; rfl
 obtain ⟨⟨v, h1, h2⟩, hgg, hB⟩ := hH7
 have hv : v = .slice A n c := by have h3 := (blk_cell h1 0).symm.trans hHeld; simpa using h3
 subst hv
 have hlt := blk_lt h1
 have hg8 : g ≠ w7.heap.size := Nat.ne_of_lt hlt
 clear hHeld
 refine one_ (i := 7) (N := some 11) zf188 rfl rfl (by kernel_rfl) (by decide) (fun Kq hK => ?_)
 refine Kd.R_lit_step (kH w) (w0 := w) w.heap.size 60 (by rfl) rfl (xs := [r]) (inner := [.slice Ar r.1.length m, .int .i64 (r.2 : Int)]) (ok := fun k => k ≠ g) (okp := fun k => k ≠ g) (by go_simp) ⟨rfl, fun j p hj => ?_⟩ (fun _ hk => hk) (fun e => hg8 e.symm) hB (below_size hB) (by simp) ?_
 ·
  rcases j with _ | j
  ·
   obtain rfl : r = p := by simpa using hj
   exact ⟨Ar, m, rfl, hm, hC⟩
  ·
   simp at hj
 intro v1 w8 hR1 hB8 hgr8 hnew
 have h18 := blk_grown h1 hgr8 (by simp)
 have h28 := Kd.R_grown h2 hgr8 (fun _ _ => by simp)
 have hk8 := hk7.grown hgr8 (fun _ h => by cases h)
 obtain ⟨A1, c1, rfl, -, hC1⟩ := Kd.R_reads hR1
 refine hK.out _ _ ((blk_cell h18 0).trans rfl) (fun hHeld => ?_)
 clear hK Kq
 refine norm_ (a' := ?_) ?_ ?_; rotate_left; show Act.put _ (some 11) _ = _; simp only [Cap.pz]; rfl
 refine one_ (i := 8) (N := some 12) zf189 rfl rfl (by kernel_rfl) (by decide) (fun Kq hK => ?_)
 refine Kd.R_append_rows_step (kH w) (w0 := w) w.heap.size (by rfl) (.tmp 8) (.tmp 11) 55 60 (.agg #[(.slice none 0 0), (.int .i64 0)]) 32 rfl Try.underlying55 infoH rfl (show 0 < 2 by decide) (by decide) (.slice A n c) l [r] A1 1 c1 (fun k => k ≠ g) (fun k => k ≠ g ∧ some k ≠ (Value.slice A n c).ownBlock) rfl rfl h28 hC1 (fun x cs hx => hx) (fun _ hk => hk) (fun k hk e => by have := blk_lt h18; omega) hB8 (below_size hB8) (by omega) ?_
 intro v2 w9 hR2 hB9 hgr9 hat
 have h19 := blk_grown h18 hgr9 (fun e => h28.1 g e.symm rfl)
 have hk9 := hk8.grown hgr9 (fun k hk => Kd.R_typed h28 k hk)
 obtain ⟨A2, c2, rfl⟩ := Kd.R_slice hR2
 obtain ⟨n2, hn2⟩ : ∃ n2, (l ++ [r]).length = n2 := ⟨_, rfl⟩
 rw [hn2] at hR2 ⊢
 clear hn2
 have hg9 : w9.cell? ⟨g, 0, none⟩ = some (.slice A n c) := (blk_cell h19 0).trans rfl
 have hf9 := blk_frozen h19 0
 refine hK.out _ _ hg9 (fun hHeld => ?_)
 clear hK Kq
 refine norm_ (a' := ?_) ?_ ?_; rotate_left; show Act.put _ (some 12) _ = _; simp only [Cap.pz]; rfl
 refine pure_ (i := 9) (N := some 13) (v := ?_) (a' := ?_) zf190 rfl rfl (by kernel_rfl) (fun _ _ _ h => h) (Or.inl ⟨by rfl, ?_⟩) ?_ ?_; rotate_left; intro w'; go_simp; with_reducible rfl; rotate_left; simp only [Cap.pz]; rfl
 refine pure_ (i := 10) (N := some 14) (v := ?_) (a' := ?_) zf191 rfl rfl (by kernel_rfl) (fun _ _ _ h => h) (Or.inl ⟨by rfl, ?_⟩) ?_ ?_; rotate_left; intro w'; go_simp; with_reducible rfl; rotate_left; simp only [Cap.pz]; rfl
 refine last_ (i := 11) (N := none) zf192 rfl rfl (by kernel_rfl) (by decide) (fun Kq hK => ?_)
 refine skip_ (w1 := ?_) (by rfl) rfl ?_ ?_
 rotate_left
 ·
  go_simp
  rfl
 refine hK.out _ _ ?_
 clear hK Kq
 refine done_ (by kernel_rfl) ?_
 refine bodyPost_end (results_none rfl _ _ _) rfl ?_
 refine ⟨rfl, ⟨⟨_, blk_put h19 0 _ rfl, Kd.R_step hR2 (fun k hk _ => Below.heap_setCell _ _ _ k hk)⟩, hgg, below_set hB9 hgg⟩, hk9.set (.inl rfl) 0 _⟩
set_option maxHeartbeats 8000000 in
set_option maxRecDepth 100000 in
theorem readers_Pop.calls (w : World) (g : Nat) (W : World) (l : HL) (hl0 : 0 < l.length) (hl : l.length ≤ 1099511627776) (hH : HeapAt w g W l) :
  Calls Try.prog 59 #[.pointer (some ⟨g, 0, none⟩)] W fun e w' => ∃ v, e = .returned v ∧ HeapAt w g w' (l.take (l.length - 1)) ∧ HKeep g W w' := by
 obtain ⟨B, c, hF⟩ := hH.form hl0
 obtain ⟨A, k, hi0, hi1, hi2, hi3⟩ := hF.cell (l.length - 1) (by omega)
 have hg0 := hF.gcell
 have HF := Aside0.mk hF
 have HH := Aside0.mk hH
 have hu60 := Try.underlying60
 obtain ⟨n, hn⟩ : ∃ n, l.length = n := ⟨_, rfl⟩
 obtain ⟨m, hm⟩ : ∃ m, (l.getD (l.length - 1) ([], 0)).1.length = m := ⟨_, rfl⟩
 obtain ⟨vi, hvi⟩ : ∃ vi, ((l.getD (l.length - 1) ([], 0)).2 : Int) = vi := ⟨_, rfl⟩
 rw [hm] at hi0
 rw [hvi] at hi1
 rw [hn] at hl0 hl hg0 hi0 hi1 ⊢
 have hlc : n ≤ c := by rw [← hn]; exact hF.2.2.1
 have HN := Aside0.mk hn
 obtain ⟨q, hq⟩ : ∃ q, n - 1 = q := ⟨_, rfl⟩
 have hqn : q < n := by omega
 have hqle : q ≤ c := by omega
 have hw1 : IntKind.i64.wrap ((n : Int) - 1) = (q : Int) := by rw [IntKind.wrap_i64]; omega
 have hw2 : wrap64 ((n : Int) - 1) = (q : Int) := by unfold wrap64; omega
 rw [hq] at hi0 hi1 ⊢
 clear hH hF hi2 hi3 hn hm hvi hq
 have hgt_ := fun (t : TypeId) (x y : ByteArray) (W : World) => Cap.gtr_str (P := Try.prog) t x y W
 go_enter Try.func59, Try.ntmps59
 go_wp2
 refine start_ (n := 14) (S := fun w' => w'.cell? ⟨g, 0, none⟩ = some (.slice (some ⟨B, 0, none⟩) n c) ∧ w'.cell? ⟨B, q * 2, none⟩ = some (.slice A m k) ∧ w'.cell? ⟨B, q * 2 + 1, none⟩ = some (.int .i64 vi)) (ds := [13]) zf74 (by kernel_rfl) rfl rfl ⟨hg0, hi0, hi1⟩ (fun hHeld => ?_)
 have n0_ := Aside0.mk (HF.out.below (below_drew1 (Below.refl _ _)))
 have n1_ := Aside0.mk (below_drew1 HH.out.bel)
 have n2_ := Aside0.mk (HKeep.drew (HKeep.refl g W))
 generalize W.drew = w7 at hHeld n0_ n1_ n2_ ⊢
 refine pure_ (i := 0) (N := some 4) (v := ?_) (a' := ?_) zf75 rfl rfl (by kernel_rfl) (fun _ _ _ h => h) (Or.inl ⟨by rfl, ?_⟩) ?_ ?_; rotate_left; intro w'; go_simp; with_reducible rfl; rotate_left; simp only [Cap.pz]; rfl
 refine pure_ (i := 1) (N := some 5) (v := ?_) (a' := ?_) zf76 rfl rfl (by kernel_rfl) (fun _ _ _ h => h) (Or.inl ⟨by rfl, ?_⟩) ?_ ?_; rotate_left; intro w'; go_simp; with_reducible rfl; rotate_left; simp only [Cap.pz]; rfl
 refine pure_ (i := 2) (N := some 6) (v := ?_) (a' := ?_) zf77 rfl rfl (by kernel_rfl) (fun _ _ _ h => h) (Or.inl ⟨by rfl, ?_⟩) ?_ ?_; rotate_left; intro w'; go_simp; with_reducible rfl; rotate_left; simp only [Cap.pz]; rfl
 refine take_ (i := 3) (N := some 7) (v := ?_) (a' := ?_) zf78 rfl rfl (by kernel_rfl) (fun _ _ _ h => h) (Or.inl ⟨by rfl, ?_⟩) hHeld ?_ ?_; rotate_left; rintro w' ⟨s0, s1, s2⟩; go_simp; with_reducible rfl; rotate_left; simp only [Cap.pz]; rfl
 refine pure_ (i := 4) (N := some 8) (v := ?_) (a' := ?_) zf79 rfl rfl (by kernel_rfl) (fun _ _ _ h => h) (Or.inl ⟨by rfl, ?_⟩) ?_ ?_; rotate_left; intro w'; go_simp; with_reducible rfl; rotate_left; simp only [Cap.pz]; rfl
 refine pure_ (i := 5) (N := some 9) (v := ?_) (a' := ?_) zf80 rfl rfl (by kernel_rfl) (fun _ _ _ h => h) (Or.inl ⟨by rfl, ?_⟩) ?_ ?_; rotate_left; intro w'; go_simp; with_reducible rfl; rotate_left; simp only [Cap.pz]; rfl
 refine pure_ (i := 6) (N := some 10) (v := ?_) (a' := ?_) zf81 rfl rfl (by kernel_rfl) (fun _ _ _ h => h) (Or.inl ⟨by rfl, ?_⟩) ?_ ?_; rotate_left; intro w'; go_simp; with_reducible rfl; rotate_left; simp only [Cap.pz]; rfl
 refine take_ (i := 7) (N := some 11) (v := ?_) (a' := ?_) zf82 rfl rfl (by kernel_rfl) (fun _ _ _ h => h) (Or.inl ⟨by rfl, ?_⟩) hHeld ?_ ?_; rotate_left; rintro w' ⟨s0, s1, s2⟩; go_simp; with_reducible rfl; rotate_left; simp only [Cap.pz]; rfl
 refine pure_ (i := 8) (N := some 12) (v := ?_) (a' := ?_) zf83 rfl rfl (by kernel_rfl) (fun _ _ _ h => h) (Or.inl ⟨by rfl, ?_⟩) ?_ ?_; rotate_left; intro w'; go_simp; with_reducible rfl; rotate_left; simp only [Cap.pz]; rfl
 refine pure_ (i := 9) (N := some 13) (v := ?_) (a' := ?_) zf84 rfl rfl (by kernel_rfl) (fun _ _ _ h => h) (Or.inl ⟨by rfl, ?_⟩) ?_ ?_; rotate_left; intro w'; go_simp; with_reducible rfl; rotate_left; simp only [Cap.pz]; rfl
 refine pure_ (i := 10) (N := some 14) (v := ?_) (a' := ?_) zf85 rfl rfl (by kernel_rfl) (fun _ _ _ h => h) (Or.inl ⟨by rfl, ?_⟩) ?_ ?_; rotate_left; intro w'; go_simp; with_reducible rfl; rotate_left; simp only [Cap.pz]; rfl
 refine take_ (i := 11) (N := some 15) (v := ?_) (a' := ?_) zf86 rfl rfl (by kernel_rfl) (fun _ _ _ h => h) (Or.inl ⟨by rfl, ?_⟩) hHeld ?_ ?_; rotate_left; rintro w' ⟨s0, s1, s2⟩; go_simp; with_reducible rfl; rotate_left; simp only [Cap.pz]; rfl
 refine one_ (i := 12) (N := some 3) zf87 rfl rfl (by kernel_rfl) (by decide) (fun Kq hK => ?_)
 refine value_ (w1 := ?_) (v := ?_) (by rfl) rfl ?_ ?_
 rotate_left 2
 ·
  go_simp
  constructor
  ·
   rfl
  ·
   rfl
 have hgn : w7.heap.size ≠ g := (fun e => by have := blk_lt n0_.out.2.2.2.1; omega)
 have hBn : w7.heap.size ≠ B := (fun e => by obtain ⟨cs_, h_⟩ := n0_.out.2.2.2.2.1; have := blk_lt h_; omega)
 have hb_ := below_alloc (Below.refl w7.heap.size w7) (.cells #[.slice none 0 0, .int .i64 0] 60 (0, 0))
 have n3_ := Aside0.mk (n0_.out.below hb_)
 have n4_ := Aside0.mk (below_step n1_.out hb_)
 have n5_ := Aside0.mk (n2_.out.trans (HKeep.below hb_))
 have hz := blk_new w7 (.cells #[.slice none 0 0, .int .i64 0] 60 (0, 0))
 have hge := n1_.out.size
 have hge2 := n2_.out.1
 refine hK.out _ _ ⟨n3_.out.gcell.trans (by rw [HN.out]), pw_cell_below hb_ hHeld.2.1, pw_cell_below hb_ hHeld.2.2⟩ (fun hHeld => ?_)
 clear hK Kq hb_ n0_ n1_ n2_
 generalize w7.heap.size = gp at hgn hBn hz hge hge2 ⊢
 generalize w7.alloc (.cells #[.slice none 0 0, .int .i64 0] 60 (0, 0)) = w8 at hz hHeld n3_ n4_ n5_ ⊢
 refine norm_ (a' := ?_) ?_ ?_; rotate_left; show Act.put _ (some 3) _ = _; simp only [Cap.pz]; rfl
 refine last_ (i := 13) (N := none) zf88 rfl rfl (by kernel_rfl) (by decide) (fun Kq hK => ?_)
 refine skip_ (w1 := (w8.setCell ⟨gp, 0, none⟩ (.slice A m k)).setCell ⟨gp, 0 + 1, none⟩ (.int .i64 vi)) (by rfl) rfl (elem_put (.tmp 3) (.tmp 15) rfl gp 0 (.slice A m k) (.int .i64 vi) rfl rfl hz (by rw [(blk_cell hz 0)]; rfl) (by rw [(blk_cell hz 1)]; rfl) ⟨rfl, rfl⟩) ?_
 refine hK.out _ _ ?_
 clear hK Kq
 refine done_ (by kernel_rfl) ?_
 have hF9 := (n3_.out.far hgn hBn 0 (.slice A m k)).far hgn hBn (0 + 1) (.int .i64 vi)
 have hB9 := below_set (j := 0 + 1) (v := .int .i64 vi) (below_set (j := 0) (v := .slice A m k) n4_.out hge) hge
 have hk9 := (n5_.out.far hge2 0 (.slice A m k)).far hge2 (0 + 1) (.int .i64 vi)
 have hz9 := blk_set (blk_set hz 0 (.slice A m k)) (0 + 1) (.int .i64 vi)
 generalize (w8.setCell ⟨gp, 0, none⟩ (.slice A m k)).setCell ⟨gp, 0 + 1, none⟩ (.int .i64 vi) = w9 at hF9 hB9 hk9 hz9 ⊢
 clear hz hHeld n3_ n4_ n5_ hge2
 have hg9 := hF9.gcell
 rw [HN.out] at hg9
 go_wp2
 refine start_ (n := 15) (S := fun w' => w'.cell? ⟨g, 0, none⟩ = some (.slice (some ⟨B, 0, none⟩) n c)) (ds := [14]) zf193 (by kernel_rfl) rfl rfl (hg9) (fun hHeld => ?_)
 have hF10 := hF9.below (below_drew1 (Below.refl _ _))
 have hB10 := below_drew1 hB9
 have hk10 := HKeep.drew hk9
 have hz10 := blk_drew hz9
 generalize w9.drew = w10 at hHeld hF10 hB10 hk10 hz10 ⊢
 clear hF9 hB9 hk9 hz9 hg9
 refine pure_ (i := 0) (N := some 16) (v := ?_) (a' := ?_) zf194 rfl rfl (by kernel_rfl) (fun _ _ _ h => h) (Or.inl ⟨by rfl, ?_⟩) ?_ ?_; rotate_left; intro w'; go_simp; with_reducible rfl; rotate_left; simp only [Cap.pz]; rfl
 refine pure_ (i := 1) (N := some 17) (v := ?_) (a' := ?_) zf195 rfl rfl (by kernel_rfl) (fun _ _ _ h => h) (Or.inl ⟨by rfl, ?_⟩) ?_ ?_; rotate_left; intro w'; go_simp; with_reducible rfl; rotate_left; simp only [Cap.pz]; rfl
 refine pure_ (i := 2) (N := some 18) (v := ?_) (a' := ?_) zf196 rfl rfl (by kernel_rfl) (fun _ _ _ h => h) (Or.inl ⟨by rfl, ?_⟩) ?_ ?_; rotate_left; intro w'; go_simp; with_reducible rfl; rotate_left; simp only [Cap.pz]; rfl
 refine pure_ (i := 3) (N := some 19) (v := ?_) (a' := ?_) zf197 rfl rfl (by kernel_rfl) (fun _ _ _ h => h) (Or.inl ⟨by rfl, ?_⟩) ?_ ?_; rotate_left; intro w'; go_simp; with_reducible rfl; rotate_left; simp only [Cap.pz]; rfl
 refine take_ (i := 4) (N := some 20) (v := ?_) (a' := ?_) zf198 rfl rfl (by kernel_rfl) (fun _ _ _ h => h) (Or.inl ⟨by rfl, ?_⟩) hHeld ?_ ?_; rotate_left; rintro w' s0; go_simp; with_reducible rfl; rotate_left; simp only [Cap.pz]; rfl
 refine pure_ (i := 5) (N := some 21) (v := ?_) (a' := ?_) zf199 rfl rfl (by kernel_rfl) (fun _ _ _ h => h) (Or.inl ⟨by rfl, ?_⟩) ?_ ?_; rotate_left; intro w'; go_simp; with_reducible rfl; rotate_left; simp only [Cap.pz]; rfl
 refine pure_ (i := 6) (N := some 22) (v := ?_) (a' := ?_) zf200 rfl rfl (by kernel_rfl) (fun _ _ _ h => h) (Or.inl ⟨by rfl, ?_⟩) ?_ ?_; rotate_left; intro w'; go_simp; with_reducible rfl; rotate_left; simp only [Cap.pz]; rfl
 refine pure_ (i := 7) (N := some 23) (v := ?_) (a' := ?_) zf201 rfl rfl (by kernel_rfl) (fun _ _ _ h => h) (Or.inl ⟨by rfl, ?_⟩) ?_ ?_; rotate_left; intro w'; go_simp; with_reducible rfl; rotate_left; simp only [Cap.pz]; rfl
 refine take_ (i := 8) (N := some 24) (v := ?_) (a' := ?_) zf202 rfl rfl (by kernel_rfl) (fun _ _ _ h => h) (Or.inl ⟨by rfl, ?_⟩) hHeld ?_ ?_; rotate_left; rintro w' s0; go_simp; with_reducible rfl; rotate_left; simp only [Cap.pz]; rfl
 refine pure_ (i := 9) (N := some 25) (v := ?_) (a' := ?_) zf203 rfl rfl (by kernel_rfl) (fun _ _ _ h => h) (Or.inl ⟨by rfl, ?_⟩) ?_ ?_; rotate_left; intro w'; go_simp; with_reducible rfl; rotate_left; simp only [Cap.pz]; rfl
 refine pure_ (i := 10) (N := some 26) (v := ?_) (a' := ?_) zf204 rfl rfl (by kernel_rfl) (fun _ _ _ h => h) (Or.inl ⟨by rfl, ?_⟩) ?_ ?_; rotate_left; intro w'; go_simp; with_reducible rfl; rotate_left; simp only [Cap.pz]; rfl
 refine pure_ (i := 11) (N := some 27) (v := ?_) (a' := ?_) zf205 rfl rfl (by kernel_rfl) (fun _ _ _ h => h) (Or.inl ⟨by rfl, ?_⟩) ?_ ?_; rotate_left; intro w'; go_simp; with_reducible rfl; rotate_left; simp only [Cap.pz]; rfl
 refine pure_ (i := 12) (N := some 28) (v := ?_) (a' := ?_) zf206 rfl rfl (by kernel_rfl) (fun _ _ _ h => h) (Or.inl ⟨by rfl, ?_⟩) ?_ ?_; rotate_left; intro w'; go_simp; with_reducible rfl; rotate_left; simp only [Cap.pz]; rfl
 refine pure_ (i := 13) (N := some 29) (v := ?_) (a' := ?_) zf207 rfl rfl (by kernel_rfl) (fun _ _ _ h => h) (Or.inl ⟨by rfl, ?_⟩) ?_ ?_; rotate_left; intro w'; go_simp; with_reducible rfl; rotate_left; simp only [Cap.pz]; rfl
 have hf10 := blk_frozen hF10.2.2.2.1 0
 refine last_ (i := 14) (N := none) zf208 rfl rfl (by kernel_rfl) (by decide) (fun Kq hK => ?_)
 refine skip_ (w1 := ?_) (by rfl) rfl ?_ ?_
 rotate_left
 ·
  go_simp
  rfl
 refine hK.out _ _ ?_
 clear hK Kq
 refine done_ (by kernel_rfl) ?_
 have hFc := hF10.cut HH.out.ge hB10 q (by rw [HN.out]; omega)
 have hkc := hk10.set (.inl rfl) 0 (.slice (some ⟨B, 0, none⟩) q c)
 have hzc := blk_far hz10 hgn (p := ⟨g, 0, none⟩) (.slice (some ⟨B, 0, none⟩) q c)
 generalize w10.setCell ⟨g, 0, none⟩ (.slice (some ⟨B, 0, none⟩) q c) = w11 at hFc hkc hzc ⊢
 have hz0 : w11.cell? ⟨gp, 0, none⟩ = some (.slice A m k) := (blk_cell hzc 0).trans rfl
 have hz1 : w11.cell? ⟨gp, 0 + 1, none⟩ = some (.int .i64 vi) := (blk_cell hzc (0 + 1)).trans rfl
 clear hz10 hzc hHeld hf10
 go_wp2
 go_ret
 exact ⟨_, rfl, hFc, hkc⟩
theorem meth_ (g : Nat) : (∀ w' : World, Sem.run Try.prog (method 196 54 (.pointer (some ⟨g, 0, none⟩)) "Less") w' = .ok (58, .pointer (some ⟨g, 0, none⟩)) w') ∧ (∀ w' : World, Sem.run Try.prog (method 196 54 (.pointer (some ⟨g, 0, none⟩)) "Swap") w' = .ok (61, .pointer (some ⟨g, 0, none⟩)) w') ∧
    (∀ w' : World, Sem.run Try.prog (method 196 54 (.pointer (some ⟨g, 0, none⟩)) "Len") w' = .ok (29, .pointer (some ⟨g, 0, none⟩)) w') ∧ (∀ w' : World, Sem.run Try.prog (method 196 54 (.pointer (some ⟨g, 0, none⟩)) "Push") w' = .ok (60, .pointer (some ⟨g, 0, none⟩)) w') ∧
    (∀ w' : World, Sem.run Try.prog (method 196 54 (.pointer (some ⟨g, 0, none⟩)) "Pop") w' = .ok (59, .pointer (some ⟨g, 0, none⟩)) w') :=
  ⟨fun _ => by kernel_rfl, fun _ => by kernel_rfl, fun _ => by kernel_rfl, fun _ => by kernel_rfl, fun _ => by kernel_rfl⟩
theorem swapR_len {β : Type} (d : β) (l : List β) (i j : Nat) : (HM.swapR d l i j).length = l.length := by unfold HM.swapR; rw [List.length_set, List.length_set]
theorem swapR_ne {l : HL} {n : Nat} (hne : ∀ t, t < n → 0 < (l.getD t ([], 0)).1.length) {i j : Nat} (hi : i < n) (hj : j < n) : ∀ t, t < n → 0 < ((HM.swapR ([], 0) l i j).getD t ([], 0)).1.length := by
  intro t ht
  unfold HM.swapR
  rw [List.getD_eq_getElem?_getD, List.getElem?_set, List.length_set]
  by_cases e : j = t
  · subst e
    rw [if_pos rfl]
    by_cases h : j < l.length
    · rw [if_pos h]; exact hne i hi
    have := hne j hj
    rw [List.getD_eq_getElem?_getD, List.getElem?_eq_none (by omega)] at this
    exact absurd this (by simp)
  rw [if_neg e, List.getElem?_set]
  by_cases e2 : i = t
  rotate_left
  · rw [if_neg e2, ← List.getD_eq_getElem?_getD]
    exact hne t ht
  subst e2
  rw [if_pos rfl]
  by_cases h : i < l.length
  · rw [if_pos h]; exact hne j hj
  have := hne i hi
  rw [List.getD_eq_getElem?_getD, List.getElem?_eq_none (by omega)] at this
  exact absurd this (by simp)
set_option maxHeartbeats 8000000 in
set_option maxRecDepth 100000 in
theorem heap_up.calls (w : World) (g : Nat) (W : World) (l : HL) (j : Nat) (hj : j < l.length) (hl : l.length ≤ 1099511627776) (hne : ∀ t, t < l.length → 0 < (l.getD t ([], 0)).1.length) (hH : HeapAt w g W l) (f : Nat) (hf : j < f) :
  Calls Try.prog 38 #[.iface 54 (.pointer (some ⟨g, 0, none⟩)), .int .i64 (j : Int)] W fun e w' => e = .returned (.tuple #[]) ∧ HeapAt w g w' (HM.upR (HM.lessR lessE z43) ([], 0) f l j) ∧ HKeep g W w' := by
 obtain ⟨N, hN⟩ : ∃ N, l.length = N := ⟨_, rfl⟩
 obtain ⟨L, hL⟩ : ∃ L, HM.upR (HM.lessR lessE z43) ([], 0) f l j = L := ⟨_, rfl⟩
 have h0 : Aside0 (HeapAt w g W l ∧ l.length = N ∧ j < N ∧ (∀ t, t < N → 0 < (l.getD t ([], 0)).1.length) ∧ j < f ∧ HM.upR (HM.lessR lessE z43) ([], 0) f l j = L ∧ HKeep g W W) := ⟨hH, hN, by omega, by rw [← hN]; exact hne, hf, hL, HKeep.refl g W⟩
 rw [hL]
 rw [hN] at hl
 clear hL hN hj hne hf hH
 have hgt_ := fun (t : TypeId) (x y : ByteArray) (W : World) => Cap.gtr_str (P := Try.prog) t x y W
 go_enter Try.func38, Try.ntmps38
 go_wp2
 go_loopw [1] (fun v1 wr => ∃ (j f : Nat) (l : HL), v1 = .int .i64 (j : Int) ∧ Aside0 (HeapAt w g wr l ∧ l.length = N ∧ j < N ∧ (∀ t, t < N → 0 < (l.getD t ([], 0)).1.length) ∧ j < f ∧ HM.upR (HM.lessR lessE z43) ([], 0) f l j = L ∧ HKeep g W wr)) (fun v1 _ => (intOf v1).toNat)
 case atStart => exact ⟨j, f, l, rfl, h0⟩
 case round =>
  clear h0
  obtain ⟨j, f, l, rfl, HI⟩ := hrel
  have hjN : j < N := HI.out.2.2.1
  have hwj : IntKind.i64.wrap ((j : Int) - 1) = (j : Int) - 1 := by rw [IntKind.wrap_i64]; omega
  have hwk : wrap64 ((j : Int) - 1) = (j : Int) - 1 := by unfold wrap64; omega
  by_cases hz : j = 0
  ·
   subst hz
   go_wp2
   refine bodyPost_end (results_none rfl _ _ _) rfl ?_
   obtain ⟨h1, h2, h3, h4, h5, h6, h7⟩ := HI.out
   refine ⟨rfl, ?_, h7⟩
   cases f with
   | zero => exact absurd h5 (by omega)
   | succ f =>
    unfold HM.upR at h6
    rw [if_pos rfl] at h6
    rw [← h6]
    exact h1
  obtain ⟨i, hi⟩ : ∃ i, (j - 1) / 2 = i := ⟨_, rfl⟩
  have hij : i < j := by omega
  have hne : ¬ (i : Int) = (j : Int) := by omega
  have hq : ((j : Int) - 1).tdiv 2 = (i : Int) := by
   rw [show (j : Int) - 1 = ((j - 1 : Nat) : Int) by omega, ← hi]
   rfl
  have hmL := (meth_ g).1
  have hmS := (meth_ g).2.1
  obtain ⟨h1, h2, h3, h4, h5, h6, h7⟩ := HI.out
  clear HI
  have hcall := readers_Less.calls w g wr l j i (by omega) (by omega) (by omega) (h4 j (by omega)) (h4 i (by omega)) h1
  cases f with
  | zero => exact absurd h5 (by omega)
  | succ f =>
   unfold HM.upR at h6
   rw [if_neg hz, hi] at h6
   cases hb : HM.lessR lessE z43 (l.getD j ([], 0)) (l.getD i ([], 0)) with
   | false =>
    rw [hb] at hcall h6
    rw [if_neg (by decide)] at h6
    have HI := Aside0.mk (And.intro h1 (And.intro h6 h7))
    clear h1 h2 h3 h4 h5 h6 h7 hb
    go_wp2_with (go_at_call 58; (with_reducible refine hcall.mono ?_); rintro e w1 ⟨rfl, hb1⟩)
    refine bodyPost_end (results_none rfl _ _ _) rfl ?_
    obtain ⟨h1, h6, h7⟩ := HI.out
    exact ⟨rfl, by rw [← h6]; exact h1.below hb1, h7.trans (HKeep.below hb1)⟩
   | true =>
    rw [hb] at hcall h6
    rw [if_pos rfl] at h6
    have HI := Aside0.mk (And.intro h1 (And.intro h2 (And.intro h3 (And.intro h4 (And.intro h5 (And.intro h6 h7))))))
    clear h1 h2 h3 h4 h5 h6 h7 hb
    go_wp2_with (first | (go_at_call 58; (with_reducible refine hcall.mono ?_); rintro e w1 ⟨rfl, hb1⟩; have HB1 := Aside0.mk hb1; clear hb1) | (go_at_call 61; (with_reducible refine (readers_Swap.calls w g w1 l i j (by have := HI.out.2.1; omega) (by have := HI.out.2.1; omega) (by have := HI.out.2.1; omega) (HI.out.1.below HB1.out)).mono ?_); rintro e w2 ⟨rfl, hH2, hK2⟩; have HH2 := Aside0.mk (And.intro hH2 hK2); clear hH2 hK2))
    go_roundw
    case rel =>
     obtain ⟨h1, h2, h3, h4, h5, h6, h7⟩ := HI.out
     exact ⟨i, f, _, rfl, ⟨HH2.out.1, by rw [swapR_len]; exact h2, by omega, swapR_ne h4 (by omega) (by omega), by omega, h6, (h7.trans (HKeep.below HB1.out)).trans HH2.out.2⟩⟩
    case measure => simp [intOf]; omega
set_option maxHeartbeats 8000000 in
set_option maxRecDepth 100000 in
theorem heap_down.calls (w : World) (g : Nat) (W : World) (l : HL) (i n : Nat) (hi : i < l.length) (hn : n ≤ l.length) (hl : l.length ≤ 1099511627776) (hne : ∀ t, t < n → 0 < (l.getD t ([], 0)).1.length) (hH : HeapAt w g W l) (f : Nat) (hf : n ≤ i + f) :
  Calls Try.prog 39 #[.iface 54 (.pointer (some ⟨g, 0, none⟩)), .int .i64 (i : Int), .int .i64 (n : Int)] W fun e w' => ∃ b, e = .returned (.bool b) ∧ HeapAt w g w' (HM.downR (HM.lessR lessE z43) ([], 0) f l i n) ∧ HKeep g W w' := by
 obtain ⟨N, hN⟩ : ∃ N, l.length = N := ⟨_, rfl⟩
 obtain ⟨L, hL⟩ : ∃ L, HM.downR (HM.lessR lessE z43) ([], 0) f l i n = L := ⟨_, rfl⟩
 have h0 : Aside0 (HeapAt w g W l ∧ l.length = N ∧ i < N ∧ (∀ t, t < n → 0 < (l.getD t ([], 0)).1.length) ∧ n ≤ i + f ∧ HM.downR (HM.lessR lessE z43) ([], 0) f l i n = L ∧ HKeep g W W) := ⟨hH, hN, by omega, hne, hf, hL, HKeep.refl g W⟩
 rw [hL]
 rw [hN] at hl hn
 clear hL hN hi hne hf hH
 have hmL := (meth_ g).1
 have hmS := (meth_ g).2.1
 have hgt_ := fun (t : TypeId) (x y : ByteArray) (W : World) => Cap.gtr_str (P := Try.prog) t x y W
 go_enter Try.func39, Try.ntmps39
 go_wp2
 go_loopw [7] (fun v7 wr => ∃ (i f : Nat) (l : HL), v7 = .int .i64 (i : Int) ∧ Aside0 (HeapAt w g wr l ∧ l.length = N ∧ i < N ∧ (∀ t, t < n → 0 < (l.getD t ([], 0)).1.length) ∧ n ≤ i + f ∧ HM.downR (HM.lessR lessE z43) ([], 0) f l i n = L ∧ HKeep g W wr)) (fun v7 _ => n - (intOf v7).toNat)
 case atStart => exact ⟨i, f, l, rfl, h0⟩
 case round =>
  clear h0
  obtain ⟨i, f, l, rfl, HI⟩ := hrel
  have hiN : i < N := HI.out.2.2.1
  obtain ⟨p, hp⟩ : ∃ p, 2 * i + 1 = p := ⟨_, rfl⟩
  obtain ⟨q, hq⟩ : ∃ q, 2 * i + 2 = q := ⟨_, rfl⟩
  have hw1 : IntKind.i64.wrap (2 * (i : Int)) = 2 * (i : Int) := by rw [IntKind.wrap_i64]; omega
  have hw2 : IntKind.i64.wrap (2 * (i : Int) + 1) = (p : Int) := by rw [IntKind.wrap_i64]; omega
  have hw3 : IntKind.i64.wrap ((p : Int) + 1) = (q : Int) := by rw [IntKind.wrap_i64]; omega
  have hk1 : wrap64 (2 * (i : Int)) = 2 * (i : Int) := by unfold wrap64; omega
  have hk2 : wrap64 (2 * (i : Int) + 1) = (p : Int) := by unfold wrap64; omega
  have hk3 : wrap64 ((p : Int) + 1) = (q : Int) := by unfold wrap64; omega
  have hpi : p ≤ 2 * N + 1 := by omega
  have hip : i < p := by omega
  have hiq : i < q := by omega
  by_cases hz : p < n
  rotate_left
  ·
   have hb1 : decide ((p : Int) ≥ (n : Int)) = true := decide_eq_true (by omega)
   go_wp2
   go_ret
   obtain ⟨h1, h2, h3, h4, h5, h6, h7⟩ := HI.out
   refine ⟨_, rfl, ?_, h7⟩
   cases f with
   | zero => unfold HM.downR at h6; rw [← h6]; exact h1
   | succ f =>
    unfold HM.downR at h6
    rw [hp, if_neg hz] at h6
    rw [← h6]
    exact h1
  obtain ⟨h1, h2, h3, h4, h5, h6, h7⟩ := HI.out
  clear HI
  cases f with
  | zero => exact absurd h5 (by omega)
  | succ f =>
   unfold HM.downR at h6
   rw [hp, if_pos hz] at h6
   have hb1 : decide ((p : Int) ≥ (n : Int)) = false := decide_eq_false (by omega)
   have hb2 : decide ((p : Int) < 0) = false := decide_eq_false (by omega)
   by_cases hz2 : q < n
   rotate_left
   ·
    have hb3 : decide ((q : Int) < (n : Int)) = false := decide_eq_false (by omega)
    have hkid : HM.kid (HM.lessR lessE z43) ([], 0) l i n = p := by unfold HM.kid; rw [hp, hq, if_neg (fun h => hz2 h.1)]
    rw [hkid] at h6
    clear hkid
    have hcB : ∀ W', HeapAt w g W' l → Calls Try.prog 58 #[.pointer (some ⟨g, 0, none⟩), .int .i64 (p : Int), .int .i64 (i : Int)] W' fun e w' => e = .returned (.bool (HM.lessR lessE z43 (l.getD p ([], 0)) (l.getD i ([], 0)))) ∧ Below W'.heap.size W' w' := fun W' h => readers_Less.calls w g W' l p i (by omega) (by omega) (by omega) (h4 p (by omega)) (h4 i (by omega)) h
    cases hb : HM.lessR lessE z43 (l.getD p ([], 0)) (l.getD i ([], 0)) with
    | false =>
     rw [hb] at hcB h6
     rw [if_neg (by decide)] at h6
     have HI := Aside0.mk (And.intro h1 (And.intro h2 (And.intro h6 h7)))
     clear h1 h2 h3 h4 h5 h6 h7 hb
     go_wp2_with (first | (go_at_call 58; (with_reducible refine (hcB wr HI.out.1).mono ?_); rintro e w1 ⟨rfl, hb1⟩; have HB1 := Aside0.mk hb1; clear hb1))
     go_ret
     obtain ⟨h1, h2, h6, h7⟩ := HI.out
     exact ⟨_, rfl, by rw [← h6]; exact h1.below HB1.out, h7.trans (HKeep.below HB1.out)⟩
    | true =>
     rw [hb] at hcB h6
     rw [if_pos rfl] at h6
     have HI := Aside0.mk (And.intro h1 (And.intro h2 (And.intro h3 (And.intro h4 (And.intro h5 (And.intro h6 h7))))))
     clear h1 h2 h3 h4 h5 h6 h7 hb
     go_wp2_with (first | (go_at_call 58; (with_reducible refine (hcB wr HI.out.1).mono ?_); rintro e w1 ⟨rfl, hb1⟩; have HB1 := Aside0.mk hb1; clear hb1) | (go_at_call 61; (with_reducible refine (readers_Swap.calls w g w1 l i p (by have := HI.out.2.1; omega) (by have := HI.out.2.1; omega) (by have := HI.out.2.1; omega) (HI.out.1.below HB1.out)).mono ?_); rintro e w3 ⟨rfl, hH2, hK2⟩; have HH2 := Aside0.mk (And.intro hH2 hK2); clear hH2 hK2))
     go_roundw
     case rel =>
      obtain ⟨h1, h2, h3, h4, h5, h6, h7⟩ := HI.out
      exact ⟨p, f, _, rfl, ⟨HH2.out.1, by rw [swapR_len]; exact h2, by omega, swapR_ne h4 (by omega) (by omega), by omega, h6, (h7.trans (HKeep.below HB1.out)).trans HH2.out.2⟩⟩
     case measure => simp [intOf]; omega
   have hb3 : decide ((q : Int) < (n : Int)) = true := decide_eq_true (by omega)
   have hcA : ∀ W', HeapAt w g W' l → Calls Try.prog 58 #[.pointer (some ⟨g, 0, none⟩), .int .i64 (q : Int), .int .i64 (p : Int)] W' fun e w' => e = .returned (.bool (HM.lessR lessE z43 (l.getD q ([], 0)) (l.getD p ([], 0)))) ∧ Below W'.heap.size W' w' := fun W' h => readers_Less.calls w g W' l q p (by omega) (by omega) (by omega) (h4 q (by omega)) (h4 p (by omega)) h
   cases ha : HM.lessR lessE z43 (l.getD q ([], 0)) (l.getD p ([], 0)) with
   | false =>
    rw [ha] at hcA
    have hkid : HM.kid (HM.lessR lessE z43) ([], 0) l i n = p := by unfold HM.kid; rw [hp, hq, if_neg (by rw [ha]; simp)]
    rw [hkid] at h6
    clear ha hkid
    have hcB : ∀ W', HeapAt w g W' l → Calls Try.prog 58 #[.pointer (some ⟨g, 0, none⟩), .int .i64 (p : Int), .int .i64 (i : Int)] W' fun e w' => e = .returned (.bool (HM.lessR lessE z43 (l.getD p ([], 0)) (l.getD i ([], 0)))) ∧ Below W'.heap.size W' w' := fun W' h => readers_Less.calls w g W' l p i (by omega) (by omega) (by omega) (h4 p (by omega)) (h4 i (by omega)) h
    cases hb : HM.lessR lessE z43 (l.getD p ([], 0)) (l.getD i ([], 0)) with
    | false =>
     rw [hb] at hcB h6
     rw [if_neg (by decide)] at h6
     have HI := Aside0.mk (And.intro h1 (And.intro h2 (And.intro h6 h7)))
     clear h1 h2 h3 h4 h5 h6 h7 hb
     go_wp2_with (first | (go_at_call 58; (with_reducible refine (hcA wr HI.out.1).mono ?_); rintro e w1 ⟨rfl, hb1⟩; have HB1 := Aside0.mk hb1; clear hb1) | (go_at_call 58; (with_reducible refine (hcB w1 (HI.out.1.below HB1.out)).mono ?_); rintro e w2 ⟨rfl, hb1⟩; have HB2 := Aside0.mk (below_step HB1.out hb1); clear hb1))
     go_ret
     obtain ⟨h1, h2, h6, h7⟩ := HI.out
     exact ⟨_, rfl, by rw [← h6]; exact h1.below HB2.out, h7.trans (HKeep.below HB2.out)⟩
    | true =>
     rw [hb] at hcB h6
     rw [if_pos rfl] at h6
     have HI := Aside0.mk (And.intro h1 (And.intro h2 (And.intro h3 (And.intro h4 (And.intro h5 (And.intro h6 h7))))))
     clear h1 h2 h3 h4 h5 h6 h7 hb
     go_wp2_with (first | (go_at_call 58; (with_reducible refine (hcA wr HI.out.1).mono ?_); rintro e w1 ⟨rfl, hb1⟩; have HB1 := Aside0.mk hb1; clear hb1) | (go_at_call 58; (with_reducible refine (hcB w1 (HI.out.1.below HB1.out)).mono ?_); rintro e w2 ⟨rfl, hb1⟩; have HB2 := Aside0.mk (below_step HB1.out hb1); clear hb1) | (go_at_call 61; (with_reducible refine (readers_Swap.calls w g w2 l i p (by have := HI.out.2.1; omega) (by have := HI.out.2.1; omega) (by have := HI.out.2.1; omega) (HI.out.1.below HB2.out)).mono ?_); rintro e w3 ⟨rfl, hH2, hK2⟩; have HH2 := Aside0.mk (And.intro hH2 hK2); clear hH2 hK2))
     go_roundw
     case rel =>
      obtain ⟨h1, h2, h3, h4, h5, h6, h7⟩ := HI.out
      exact ⟨p, f, _, rfl, ⟨HH2.out.1, by rw [swapR_len]; exact h2, by omega, swapR_ne h4 (by omega) (by omega), by omega, h6, (h7.trans (HKeep.below HB2.out)).trans HH2.out.2⟩⟩
     case measure => simp [intOf]; omega
   | true =>
    rw [ha] at hcA
    have hkid : HM.kid (HM.lessR lessE z43) ([], 0) l i n = q := by unfold HM.kid; rw [hp, hq, if_pos ⟨hz2, ha⟩]
    rw [hkid] at h6
    clear ha hkid
    have hcB : ∀ W', HeapAt w g W' l → Calls Try.prog 58 #[.pointer (some ⟨g, 0, none⟩), .int .i64 (q : Int), .int .i64 (i : Int)] W' fun e w' => e = .returned (.bool (HM.lessR lessE z43 (l.getD q ([], 0)) (l.getD i ([], 0)))) ∧ Below W'.heap.size W' w' := fun W' h => readers_Less.calls w g W' l q i (by omega) (by omega) (by omega) (h4 q (by omega)) (h4 i (by omega)) h
    cases hb : HM.lessR lessE z43 (l.getD q ([], 0)) (l.getD i ([], 0)) with
    | false =>
     rw [hb] at hcB h6
     rw [if_neg (by decide)] at h6
     have HI := Aside0.mk (And.intro h1 (And.intro h2 (And.intro h6 h7)))
     clear h1 h2 h3 h4 h5 h6 h7 hb
     go_wp2_with (first | (go_at_call 58; (with_reducible refine (hcA wr HI.out.1).mono ?_); rintro e w1 ⟨rfl, hb1⟩; have HB1 := Aside0.mk hb1; clear hb1) | (go_at_call 58; (with_reducible refine (hcB w1 (HI.out.1.below HB1.out)).mono ?_); rintro e w2 ⟨rfl, hb1⟩; have HB2 := Aside0.mk (below_step HB1.out hb1); clear hb1))
     go_ret
     obtain ⟨h1, h2, h6, h7⟩ := HI.out
     exact ⟨_, rfl, by rw [← h6]; exact h1.below HB2.out, h7.trans (HKeep.below HB2.out)⟩
    | true =>
     rw [hb] at hcB h6
     rw [if_pos rfl] at h6
     have HI := Aside0.mk (And.intro h1 (And.intro h2 (And.intro h3 (And.intro h4 (And.intro h5 (And.intro h6 h7))))))
     clear h1 h2 h3 h4 h5 h6 h7 hb
     go_wp2_with (first | (go_at_call 58; (with_reducible refine (hcA wr HI.out.1).mono ?_); rintro e w1 ⟨rfl, hb1⟩; have HB1 := Aside0.mk hb1; clear hb1) | (go_at_call 58; (with_reducible refine (hcB w1 (HI.out.1.below HB1.out)).mono ?_); rintro e w2 ⟨rfl, hb1⟩; have HB2 := Aside0.mk (below_step HB1.out hb1); clear hb1) | (go_at_call 61; (with_reducible refine (readers_Swap.calls w g w2 l i q (by have := HI.out.2.1; omega) (by have := HI.out.2.1; omega) (by have := HI.out.2.1; omega) (HI.out.1.below HB2.out)).mono ?_); rintro e w3 ⟨rfl, hH2, hK2⟩; have HH2 := Aside0.mk (And.intro hH2 hK2); clear hH2 hK2))
     go_roundw
     case rel =>
      obtain ⟨h1, h2, h3, h4, h5, h6, h7⟩ := HI.out
      exact ⟨q, f, _, rfl, ⟨HH2.out.1, by rw [swapR_len]; exact h2, by omega, swapR_ne h4 (by omega) (by omega), by omega, h6, (h7.trans (HKeep.below HB2.out)).trans HH2.out.2⟩⟩
     case measure => simp [intOf]; omega
theorem upR_len {β : Type} (lr : β → β → Bool) (d : β) : ∀ (f : Nat) (l : List β) (j : Nat), (HM.upR lr d f l j).length = l.length
  | 0, l, j => by unfold HM.upR; rfl
  | f + 1, l, j => by
    unfold HM.upR
    split
    · rfl
    · split
      · rw [upR_len, swapR_len]
      · rfl
theorem downR_len {β : Type} (lr : β → β → Bool) (d : β) : ∀ (f : Nat) (l : List β) (i n : Nat), (HM.downR lr d f l i n).length = l.length
  | 0, l, i, n => by unfold HM.downR; rfl
  | f + 1, l, i, n => by
    unfold HM.downR
    split
    · split
      · rw [downR_len, swapR_len]
      · rfl
    · rfl
theorem downR_ne {lr : List S43 × Nat → List S43 × Nat → Bool} {n : Nat} : ∀ {l : HL} (_ : ∀ t, t < n → 0 < (l.getD t ([], 0)).1.length) (f : Nat) {i : Nat}, ∀ t, t < n → 0 < ((HM.downR lr ([], 0) f l i n).getD t ([], 0)).1.length
  | l, h, 0, i => by unfold HM.downR; exact h
  | l, h, f + 1, i => by
    unfold HM.downR
    split
    · split
      · exact downR_ne (swapR_ne h (by omega) (by unfold HM.kid; split <;> omega)) f
      · exact h
    · exact h
theorem upR_zero {β : Type} (lr : β → β → Bool) (d : β) (f : Nat) (l : List β) : HM.upR lr d f l 0 = l := by cases f <;> simp [HM.upR]
set_option maxHeartbeats 8000000 in
set_option maxRecDepth 100000 in
theorem heap_Push.calls (w : World) (g : Nat) (W : World) (l : HL) (r : List S43 × Nat) (Ar : Option Addr) (m : Nat) (hm : r.1.length ≤ m) (hC : k43.C w Ar r.1.length r.1) (hr : 0 < r.1.length) (hl : l.length + 1 ≤ 1099511627776) (hne : ∀ t, t < l.length → 0 < (l.getD t ([], 0)).1.length) (hH : HeapAt w g W l) :
  Calls Try.prog 28 #[.iface 54 (.pointer (some ⟨g, 0, none⟩)), .iface 60 (.agg #[.slice Ar r.1.length m, .int .i64 (r.2 : Int)])] W fun e w' => e = .returned (.tuple #[]) ∧ HeapAt w g w' (HM.pushR lessE z43 l r) ∧ HKeep g W w' := by
 have hcP := readers_Push.calls w g W l r Ar m hm hC (by omega) hH
 obtain ⟨N, hN⟩ : ∃ N, l.length = N := ⟨_, rfl⟩
 obtain ⟨l1, hl1⟩ : ∃ l1, l ++ [r] = l1 := ⟨_, rfl⟩
 have hlen : l1.length = N + 1 := by rw [← hl1, List.length_append, hN]; rfl
 have hne1 : ∀ t, t < l1.length → 0 < (l1.getD t ([], 0)).1.length := by
  intro t ht
  rw [← hl1, List.getD_eq_getElem?_getD]
  by_cases h : t < l.length
  ·
   rw [List.getElem?_append_left h, ← List.getD_eq_getElem?_getD]; exact hne t h
  have e : t = l.length := by omega
  subst e
  rw [List.getElem?_append_right (Nat.le_refl _), Nat.sub_self]
  exact hr
 have hL : HM.pushR lessE z43 l r = HM.upR (HM.lessR lessE z43) ([], 0) (N + 1) l1 N := by unfold HM.pushR; rw [hl1, hN]
 rw [hL]
 rw [hl1] at hcP
 rw [hN] at hl
 have hcL : ∀ W', HeapAt w g W' l1 → Calls Try.prog 29 #[.pointer (some ⟨g, 0, none⟩)] W' fun e w' => e = .returned (.int .i64 ((N : Int) + 1)) ∧ w' = W' := fun W' h => by
  have := readers_Len.calls w g W' l1 h
  rwa [hlen, show ((N + 1 : Nat) : Int) = (N : Int) + 1 by omega] at this
 have hcU : ∀ W', HeapAt w g W' l1 → Calls Try.prog 38 #[.iface 54 (.pointer (some ⟨g, 0, none⟩)), .int .i64 (N : Int)] W' fun e w' => e = .returned (.tuple #[]) ∧ HeapAt w g w' (HM.upR (HM.lessR lessE z43) ([], 0) (N + 1) l1 N) ∧ HKeep g W' w' :=
  fun W' h => heap_up.calls w g W' l1 N (by omega) (by omega) hne1 h (N + 1) (by omega)
 have hw1 : IntKind.i64.wrap (((N : Int) + 1) - 1) = (N : Int) := by rw [IntKind.wrap_i64]; omega
 have hk1 : wrap64 (((N : Int) + 1) - 1) = (N : Int) := by unfold wrap64; omega
 have hmN := (meth_ g).2.2.1
 have hmP := (meth_ g).2.2.2.1
 clear hL hlen hne1 hl1 hN hH hm hC hr hne
 have hgt_ := fun (t : TypeId) (x y : ByteArray) (W : World) => Cap.gtr_str (P := Try.prog) t x y W
 go_enter Try.func28, Try.ntmps28
 go_wp2_with (first | (go_at_call 60; (with_reducible refine hcP.mono ?_); rintro e w1 ⟨rfl, hH1, hK1⟩; have HH1 := Aside0.mk (And.intro hH1 hK1); clear hH1 hK1) | (go_at_call 29; (with_reducible refine (hcL _ HH1.out.1).mono ?_); rintro e w2 ⟨rfl, rfl⟩) | (go_at_call 38; (with_reducible refine (hcU _ HH1.out.1).mono ?_); rintro e w3 ⟨rfl, hH3, hK3⟩; have HH3 := Aside0.mk (And.intro hH3 hK3); clear hH3 hK3))
 refine bodyPost_end (results_none rfl _ _ _) rfl ?_
 exact ⟨rfl, HH3.out.1, HH1.out.2.trans HH3.out.2⟩
set_option maxHeartbeats 8000000 in
set_option maxRecDepth 100000 in
theorem heap_Pop.calls (w : World) (g : Nat) (W : World) (l : HL) (h0 : 0 < l.length) (hl : l.length ≤ 1099511627776) (hne : ∀ t, t < l.length - 1 → 0 < ((HM.swapR ([], 0) l 0 (l.length - 1)).getD t ([], 0)).1.length) (hH : HeapAt w g W l) :
  Calls Try.prog 30 #[.iface 54 (.pointer (some ⟨g, 0, none⟩))] W fun e w' => ∃ v, e = .returned v ∧ HeapAt w g w' (HM.popR lessE z43 l) ∧ HKeep g W w' := by
 have hcL := readers_Len.calls w g W l hH
 obtain ⟨N, hN⟩ : ∃ N, l.length = N + 1 := ⟨l.length - 1, by omega⟩
 have hcS := readers_Swap.calls w g W l 0 N (by omega) (by omega) (by omega) hH
 rw [show ((0 : Nat) : Int) = 0 from rfl] at hcS
 rw [hN, Nat.add_sub_cancel] at hne
 obtain ⟨l1, hl1⟩ : ∃ l1, HM.swapR ([], 0) l 0 N = l1 := ⟨_, rfl⟩
 have hlen1 : l1.length = N + 1 := by rw [← hl1, swapR_len, hN]
 rw [hl1] at hcS hne
 obtain ⟨l2, hl2⟩ : ∃ l2, HM.downR (HM.lessR lessE z43) ([], 0) (N + 1) l1 0 N = l2 := ⟨_, rfl⟩
 have hlen2 : l2.length = N + 1 := by rw [← hl2, downR_len, hlen1]
 have hcD : ∀ W', HeapAt w g W' l1 → Calls Try.prog 39 #[.iface 54 (.pointer (some ⟨g, 0, none⟩)), .int .i64 0, .int .i64 (N : Int)] W' fun e w' => ∃ b, e = .returned (.bool b) ∧ HeapAt w g w' l2 ∧ HKeep g W' w' := fun W' h => by
  have := heap_down.calls w g W' l1 0 N (by omega) (by omega) (by omega) hne h (N + 1) (by omega)
  rwa [hl2] at this
 have hcP : ∀ W', HeapAt w g W' l2 → Calls Try.prog 59 #[.pointer (some ⟨g, 0, none⟩)] W' fun e w' => ∃ v, e = .returned v ∧ HeapAt w g w' (l2.take N) ∧ HKeep g W' w' := fun W' h => by
  have := readers_Pop.calls w g W' l2 (by omega) (by omega) h
  rwa [hlen2, Nat.add_sub_cancel] at this
 have hL : HM.popR lessE z43 l = l2.take N := by unfold HM.popR; rw [hN, Nat.add_sub_cancel, hl1, hl2]
 rw [hL]
 rw [hN] at hcL hl
 rw [show ((N + 1 : Nat) : Int) = (N : Int) + 1 by omega] at hcL
 have hw1 : IntKind.i64.wrap (((N : Int) + 1) - 1) = (N : Int) := by rw [IntKind.wrap_i64]; omega
 have hk1 : wrap64 (((N : Int) + 1) - 1) = (N : Int) := by unfold wrap64; omega
 have hmN := (meth_ g).2.2.1
 have hmS := (meth_ g).2.1
 have hmP := (meth_ g).2.2.2.2
 clear hL hlen1 hlen2 hne hl1 hl2 hN hH h0
 have hgt_ := fun (t : TypeId) (x y : ByteArray) (W : World) => Cap.gtr_str (P := Try.prog) t x y W
 go_enter Try.func30, Try.ntmps30
 go_wp2_with (first | (go_at_call 29; (with_reducible refine hcL.mono ?_); rintro e w2 ⟨rfl, rfl⟩) | (go_at_call 61; (with_reducible refine hcS.mono ?_); rintro e w1 ⟨rfl, hH1, hK1⟩; have HH1 := Aside0.mk (And.intro hH1 hK1); clear hH1 hK1) | (go_at_call 39; (with_reducible refine (hcD w1 HH1.out.1).mono ?_); rintro e w3 ⟨b, rfl, hH3, hK3⟩; have HH3 := Aside0.mk (And.intro hH3 hK3); clear hH3 hK3) | (go_at_call 59; (with_reducible refine (hcP w3 HH3.out.1).mono ?_); rintro e w4 ⟨v, rfl, hH4, hK4⟩; have HH4 := Aside0.mk (And.intro hH4 hK4); clear hH4 hK4))
 go_ret
 exact ⟨_, rfl, HH4.out.1, (HH1.out.2.trans HH3.out.2).trans HH4.out.2⟩
set_option maxHeartbeats 8000000 in
set_option maxRecDepth 100000 in
theorem heap_Fix.calls (w : World) (g : Nat) (W : World) (l : HL) (h0 : 0 < l.length) (hl : l.length ≤ 1099511627776) (hne : ∀ t, t < l.length → 0 < (l.getD t ([], 0)).1.length) (hH : HeapAt w g W l) :
  Calls Try.prog 31 #[.iface 54 (.pointer (some ⟨g, 0, none⟩)), .int .i64 0] W fun e w' => e = .returned (.tuple #[]) ∧ HeapAt w g w' (HM.downR (HM.lessR lessE z43) ([], 0) l.length l 0 l.length) ∧ HKeep g W w' := by
 have hcL := readers_Len.calls w g W l hH
 have hcD := heap_down.calls w g W l 0 l.length h0 (Nat.le_refl _) hl hne hH l.length (by omega)
 obtain ⟨l1, hl1⟩ : ∃ l1, HM.downR (HM.lessR lessE z43) ([], 0) l.length l 0 l.length = l1 := ⟨_, rfl⟩
 have hlen1 : l1.length = l.length := by rw [← hl1, downR_len]
 rw [hl1] at hcD ⊢
 obtain ⟨N, hN⟩ : ∃ N, l.length = N := ⟨_, rfl⟩
 have hcU : ∀ W', HeapAt w g W' l1 → Calls Try.prog 38 #[.iface 54 (.pointer (some ⟨g, 0, none⟩)), .int .i64 0] W' fun e w' => e = .returned (.tuple #[]) ∧ HeapAt w g w' l1 ∧ HKeep g W' w' := fun W' h => by
  have := heap_up.calls w g W' l1 0 (by omega) (by omega) (by rw [hlen1, ← hl1]; exact downR_ne hne _) h 1 (by omega)
  rwa [upR_zero] at this
 rw [hN] at hcL hcD
 rw [show ((0 : Nat) : Int) = 0 from rfl] at hcD
 have hmN := (meth_ g).2.2.1
 clear hlen1 hl1 hN hne hH h0 hl
 have hgt_ := fun (t : TypeId) (x y : ByteArray) (W : World) => Cap.gtr_str (P := Try.prog) t x y W
 go_enter Try.func31, Try.ntmps31
 go_wp2_with (first | (go_at_call 29; (with_reducible refine hcL.mono ?_); rintro e w2 ⟨rfl, rfl⟩) | (go_at_call 39; (with_reducible refine hcD.mono ?_); rintro e w3 ⟨b, rfl, hH3, hK3⟩; have HH3 := Aside0.mk (And.intro hH3 hK3); clear hH3 hK3; cases b) | (go_at_call 38; (with_reducible refine (hcU w3 HH3.out.1).mono ?_); rintro e w4 ⟨rfl, hH4, hK4⟩; have HH4 := Aside0.mk (And.intro hH4 hK4); clear hH4 hK4))
 ·
  refine bodyPost_end (results_none rfl _ _ _) rfl ?_
  exact ⟨rfl, HH4.out.1, HH3.out.2.trans HH4.out.2⟩
 ·
  refine bodyPost_end (results_none rfl _ _ _) rfl ?_
  exact ⟨rfl, HH3.out.1, HH3.out.2⟩
/-! How many entries stand in a heap. -/
def hTot (l : HL) : Nat := (l.map (fun r => r.1.length)).sum
theorem hq_swap {β : Type} (d : β) (l : List β) {i j : Nat} (hi : i < l.length) (hj : j < l.length) : (HM.swapR d l i j).Perm l := by
  unfold HM.swapR
  have e1 : l.getD j d = l[j] := by rw [List.getD_eq_getElem?_getD, List.getElem?_eq_getElem hj]; rfl
  have e2 : l.getD i d = l[i] := by rw [List.getD_eq_getElem?_getD, List.getElem?_eq_getElem hi]; rfl
  rw [e1, e2]
  exact List.set_set_perm hi hj
theorem hq_swapLast {β : Type} (d : β) (l : List β) {j : Nat} (hj : j < l.length) : (HM.swapR d l 0 j).getD j d = l.getD 0 d := by
  unfold HM.swapR
  rw [List.getD_eq_getElem?_getD, List.getElem?_set_self (by rw [List.length_set]; exact hj)]
  rfl
theorem hq_kid {β : Type} (lr : β → β → Bool) (d : β) (l : List β) (i n : Nat) (h : 2 * i + 1 < n) : i < HM.kid lr d l i n ∧ HM.kid lr d l i n < n := by
  unfold HM.kid
  split <;> omega
theorem hq_down {β : Type} (lr : β → β → Bool) (d : β) : ∀ (f : Nat) (l : List β) (i n : Nat), n ≤ l.length → (HM.downR lr d f l i n).Perm l
  | 0, l, i, n, _ => by unfold HM.downR; exact List.Perm.refl _
  | f + 1, l, i, n, hn => by
    unfold HM.downR
    by_cases h : 2 * i + 1 < n
    rotate_left
    · rw [if_neg h]
    rw [if_pos h]
    obtain ⟨k1, k2⟩ := hq_kid lr d l i n h
    by_cases hl : lr (l.getD (HM.kid lr d l i n) d) (l.getD i d) = true
    rotate_left
    · rw [if_neg hl]
    rw [if_pos hl]
    exact (hq_down lr d f _ _ n (by rw [swapR_len]; exact hn)).trans (hq_swap d l (by omega) (by omega))
theorem hq_rest {β : Type} (lr : β → β → Bool) (d : β) : ∀ (f : Nat) (l : List β) (i n k : Nat), n ≤ l.length → n ≤ k → (HM.downR lr d f l i n).getD k d = l.getD k d
  | 0, l, i, n, k, _, _ => by unfold HM.downR; rfl
  | f + 1, l, i, n, k, hn, hk => by
    unfold HM.downR
    by_cases h : 2 * i + 1 < n
    rotate_left
    · rw [if_neg h]
    rw [if_pos h]
    obtain ⟨k1, k2⟩ := hq_kid lr d l i n h
    by_cases hl : lr (l.getD (HM.kid lr d l i n) d) (l.getD i d) = true
    rotate_left
    · rw [if_neg hl]
    rw [if_pos hl, hq_rest lr d f _ _ n k (by rw [swapR_len]; exact hn) hk]
    unfold HM.swapR
    rw [List.getD_eq_getElem?_getD, List.getElem?_set_ne (by omega), List.getElem?_set_ne (by omega), ← List.getD_eq_getElem?_getD]
theorem hq_up {β : Type} (lr : β → β → Bool) (d : β) : ∀ (f : Nat) (l : List β) (j : Nat), j < l.length → (HM.upR lr d f l j).Perm l
  | 0, l, j, _ => by unfold HM.upR; exact List.Perm.refl _
  | f + 1, l, j, hj => by
    unfold HM.upR
    by_cases h0 : j = 0
    · rw [if_pos h0]
    rw [if_neg h0]
    by_cases hl : lr (l.getD j d) (l.getD ((j - 1) / 2) d) = true
    rotate_left
    · rw [if_neg hl]
    rw [if_pos hl]
    exact (hq_up lr d f _ _ (by rw [swapR_len]; omega)).trans (hq_swap d l (by omega) hj)
theorem hTot_perm {l m : HL} (h : l.Perm m) : hTot l = hTot m := (h.map _).sum_nat
theorem hTot_app (l m : HL) : hTot (l ++ m) = hTot l + hTot m := by unfold hTot; rw [List.map_append, List.sum_append]
theorem hTot_push (l : HL) (r : List S43 × Nat) : hTot (HM.pushR lessE z43 l r) = hTot l + r.1.length := by
  unfold HM.pushR
  rw [hTot_perm (hq_up _ _ _ _ _ (by rw [List.length_append]; exact Nat.lt_succ_self _)), hTot_app]
  simp [hTot]
theorem hq_neGet {l : HL} (h : ∀ r ∈ l, 0 < r.1.length) : ∀ t, t < l.length → 0 < (l.getD t ([], 0)).1.length := by
  intro t ht
  rw [List.getD_eq_getElem?_getD, List.getElem?_eq_getElem ht]
  exact h _ (List.getElem_mem ht)
theorem hq_pushNe {l : HL} {r : List S43 × Nat} (h : ∀ r ∈ l, 0 < r.1.length) (hr : 0 < r.1.length) : ∀ x ∈ HM.pushR lessE z43 l r, 0 < x.1.length := by
  intro x hx
  unfold HM.pushR at hx
  have := (hq_up _ _ _ _ _ (by rw [List.length_append]; exact Nat.lt_succ_self _)).mem_iff.1 hx
  rcases List.mem_append.1 this with h2 | h2
  · exact h x h2
  · rw [List.mem_singleton.1 h2]; exact hr
theorem hq_pushLen (l : HL) (r : List S43 × Nat) : (HM.pushR lessE z43 l r).length = l.length + 1 := by
  unfold HM.pushR
  rw [upR_len, List.length_append]; rfl
theorem hq_popPerm {l : HL} {r : List S43 × Nat} : (HM.popR lessE z43 (r :: l) ++ [r]).Perm (r :: l) := by
  unfold HM.popR
  have hn : (r :: l).length - 1 = l.length := rfl
  rw [hn]
  have hs : (HM.swapR ([], 0) (r :: l) 0 l.length).length = l.length + 1 := by rw [swapR_len]; rfl
  obtain ⟨m, hm⟩ : ∃ m, HM.downR (HM.lessR lessE z43) ([], 0) (r :: l).length (HM.swapR ([], 0) (r :: l) 0 l.length) 0 l.length = m := ⟨_, rfl⟩
  have hlen : m.length = l.length + 1 := by rw [← hm, downR_len, hs]
  have hp : m.Perm (r :: l) := by rw [← hm]; exact (hq_down _ _ _ _ _ _ (by omega)).trans (hq_swap _ _ (by simp) (by simp))
  have hl : m.getD l.length ([], 0) = r := by rw [← hm, hq_rest _ _ _ _ _ _ _ (by omega) (Nat.le_refl _), hq_swapLast _ _ (by simp)]; rfl
  rw [hm]
  have e : m.take l.length ++ [r] = m := by
    have h1 := List.take_append_drop l.length m
    have h2 : m.drop l.length = [r] := by
      rw [List.drop_eq_getElem_cons (by omega), List.drop_eq_nil_of_le (by omega)]
      rw [List.getD_eq_getElem?_getD, List.getElem?_eq_getElem (by omega)] at hl
      exact congrArg (fun z => [z]) hl
    rw [← h2]; exact h1
  rw [e]
  exact hp
theorem hq_popTot {l : HL} {r : List S43 × Nat} (hr : r.1.length = 0) : hTot (HM.popR lessE z43 (r :: l)) = hTot l := by
  have h := hTot_perm (hq_popPerm (l := l) (r := r))
  rw [hTot_app] at h
  simp only [hTot, List.map_cons, List.sum_cons, List.map_nil, List.sum_nil] at h ⊢
  omega
theorem hq_popNe {l : HL} {r : List S43 × Nat} (h : ∀ r ∈ l, 0 < r.1.length) : ∀ x ∈ HM.popR lessE z43 (r :: l), 0 < x.1.length := by
  intro x hx
  have hp : (HM.popR lessE z43 (r :: l)).Perm l := List.Perm.cons_inv ((List.perm_append_singleton r _).symm.trans hq_popPerm)
  exact h x (hp.mem_iff.1 hx)
theorem hq_popLen (l : HL) (r : List S43 × Nat) : (HM.popR lessE z43 (r :: l)).length = l.length := by
  have h := (hq_popPerm (l := l) (r := r)).length_eq
  rw [List.length_append] at h
  simpa using h
theorem hq_swapNe {l : HL} {r : List S43 × Nat} (h : ∀ r ∈ l, 0 < r.1.length) : ∀ t, t < (r :: l).length - 1 → 0 < ((HM.swapR ([], 0) (r :: l) 0 ((r :: l).length - 1)).getD t ([], 0)).1.length := by
  intro t ht
  have hn : (r :: l).length - 1 = l.length := rfl
  rw [hn] at ht ⊢
  have hg := hq_neGet h
  unfold HM.swapR
  rw [List.getD_eq_getElem?_getD, List.getElem?_set_ne (by omega), List.getElem?_set]
  by_cases e : 0 = t
  rotate_left
  · rw [if_neg e, ← List.getD_eq_getElem?_getD]
    obtain ⟨q, rfl⟩ : ∃ q, t = q + 1 := ⟨t - 1, by omega⟩
    show 0 < (l.getD q ([], 0)).1.length
    exact hg q (by omega)
  subst e
  rw [if_pos rfl, if_pos (by simp)]
  show 0 < ((r :: l).getD l.length ([], 0)).1.length
  obtain ⟨q, hq⟩ : ∃ q, l.length = q + 1 := ⟨l.length - 1, by omega⟩
  rw [hq]
  show 0 < (l.getD q ([], 0)).1.length
  exact hg q (by omega)
def sliceLen : Value → Nat
  | .slice _ n _ => n
  | _ => 0
theorem HeapAt.grown {w : World} {g : Nat} {W W1 : World} {l : HL} (h : HeapAt w g W l) (hg : W.grownBy W1 none) (hb : Below w.heap.size w W1) : HeapAt w g W1 l := by
  obtain ⟨⟨v, h1, h2⟩, hge, hB⟩ := h
  exact ⟨⟨v, blk_grown h1 hg (by simp), Kd.R_grown h2 hg (fun _ _ => by simp)⟩, hge, hb⟩
theorem HeapAt.over {w : World} {g : Nat} {W W1 : World} {l : HL} {base : Nat} {ok : Nat → Prop} {v : Value} {xs : List S43} (h : HeapAt w g W l) (hv : k43.R 43 W base ok v xs) (hg : W.grownBy W1 v.ownBlock) (hb : Below w.heap.size w W1) : HeapAt w g W1 l := by
  obtain ⟨⟨u, h1, h2⟩, hge, hB⟩ := h
  refine ⟨⟨u, blk_grown h1 hg (Kd.R_ne hv h1 (by decide)), Kd.R_over h2 hv (fun q hq => ?_) hg⟩, hge, hb⟩
  have : q = 60 := by simpa [kH] using hq
  subst this
  decide
theorem HKeep.row {g : Nat} {W W1 : World} {base : Nat} {ok : Nat → Prop} {v : Value} {xs : List S43} (hk : HKeep g W W1) (hv : k43.R 43 W base ok v xs) {cs : Array Value} (hg : W.heap[g]? = some (.cells cs 57 (0, 0))) : k43.R 43 W1 base ok v xs := by
  refine Kd.R_mono (Kd.R_step (Kd.R_bound hv) (fun k hk2 hlt => hk.2 k hlt (fun e => ?_) (fun cells hc => ?_))) (fun k hk2 => hk2.1)
  · obtain ⟨-, -, -, q, hq, cells, hc⟩ := hk2
    have hq2 : q = 43 := by rw [show k43.E = [] from rfl] at hq; simpa using hq
    subst hq2
    subst e
    rw [hg] at hc
    injection hc with hc
    injection hc with _ ht
    exact absurd ht (by decide)
  · obtain ⟨-, -, -, q, hq, cells2, hc2⟩ := hk2
    have hq2 : q = 43 := by rw [show k43.E = [] from rfl] at hq; simpa using hq
    subst hq2
    rw [hc2] at hc
    injection hc with hc
    injection hc with _ ht
    exact absurd ht (by decide)
theorem drop_map {l0 : List S26} {i : Nat} (h : i < l0.length) : (l0.map (·.f0)).drop i = (rd_T26 l0 (i : Int)).f0 :: (l0.map (·.f0)).drop (i + 1) := by
  rw [List.drop_eq_getElem_cons (by rw [List.length_map]; exact h), List.getElem_map]
  unfold rd_T26
  rw [Int.toNat_natCast, List.getD_eq_getElem?_getD, List.getElem?_eq_getElem h]
  rfl
set_option maxHeartbeats 8000000 in
set_option maxRecDepth 100000 in
theorem impl_merged.calls (A0 : Option Addr) (c0 : Nat) (l0 : List S26) (r : List S43) (w : World) (hr0 : Kd.C k26 w A0 l0.length l0) (hc0 : l0.length ≤ c0) (h : impl_merged.f l0 = some r) :
  Calls Try.prog 18 #[.slice A0 l0.length c0] w fun e w' => ∃ v0_, e = .returned v0_ ∧ Kd.R k43 43 w' w.heap.size (fun _ => True) v0_ r ∧ Below w.heap.size w w' := by
 unfold impl_merged.f at h
 split at h
 case isFalse => exact absurd h (by simp)
 case isTrue hbd =>
 obtain ⟨hb1, hb2⟩ := hbd
 have h2 := Option.some.inj h
 clear h
 obtain ⟨rs, hrs⟩ : ∃ rs, l0.map (·.f0) = rs := ⟨_, rfl⟩
 rw [hrs] at hb1 h2
 obtain ⟨T, hT⟩ : ∃ T, rs.flatten.length = T := ⟨_, rfl⟩
 rw [hT] at hb1 h2
 obtain ⟨H0, hH0⟩ : ∃ H0, HM.startR lessE z43 0 rs [] = H0 := ⟨_, rfl⟩
 rw [hH0] at h2
 have HR0 := Aside0.mk hr0
 have HRS := Aside0.mk hrs
 have HG := Aside0.mk h2
 have H0' := Aside0.mk (show HM.startR lessE z43 0 (rs.drop 0) [] = H0 ∧ hTot ([] : HL) + (rs.drop 0).flatten.length = T from ⟨by rw [List.drop_zero]; exact hH0, by rw [List.drop_zero, hT]; simp [hTot]⟩)
 obtain ⟨n, hn⟩ : ∃ n, l0.length = n := ⟨_, rfl⟩
 rw [hn] at hc0 hb2 ⊢
 have HN := Aside0.mk hn
 clear hr0 hrs h2 hT hH0 hn
 have hu26 := Try.underlying26
 have hu43 := Try.underlying43
 have hu57 := Try.underlying57
 have hu60 := Try.underlying60
 have hgt_ := fun (t : TypeId) (x y : ByteArray) (W : World) => Cap.gtr_str (P := Try.prog) t x y W
 go_enter Try.func18, Try.ntmps18
 go_wp2_with (first | ((with_reducible refine gate_dst (N := 8) rfl ?_); refine box_event ?hg (N := 8) ?hd (cs := #[.slice none 0 0]) (t := 57) ?hr ?_; (case hd => rfl); (case hg => rfl); (case hr => first | (go_simp; done) | (go_simp; rfl)); intro g hg w1 hbox hb; have HH := Aside0.mk (show HeapAt w g w1 [] from ⟨⟨_, hbox, Kd.R_nil _ _ _ _ _⟩, by rw [hg]; exact Nat.le_refl _, hb⟩); clear hbox hb hg))
 go_loopw [11] (fun v11 wr => ∃ (i : Nat) (hp : HL), v11 = .int .i64 (i : Int) ∧ i ≤ n ∧ Aside0 (HeapAt w g wr hp ∧ hp.length ≤ i ∧ (∀ r ∈ hp, 0 < r.1.length) ∧ HM.startR lessE z43 i (rs.drop i) hp = H0 ∧ hTot hp + (rs.drop i).flatten.length = T)) (fun v11 _ => n - (intOf v11).toNat)
 case atStart => exact ⟨0, [], rfl, Nat.zero_le _, ⟨HH.out, Nat.le_refl _, fun r hr => by simp at hr, H0'.out⟩⟩
 case round =>
  clear HH H0'
  obtain ⟨i, hp, rfl, hin, HI⟩ := hrel
  have hwi : IntKind.i64.wrap ((i : Int) + 1) = ((i + 1 : Nat) : Int) := by rw [IntKind.wrap_i64]; omega
  have hwk : wrap64 ((i : Int) + 1) = ((i + 1 : Nat) : Int) := by unfold wrap64; omega
  by_cases hlt : i < n
  ·
   have hil : i < l0.length := by rw [HN.out]; exact hlt
   obtain ⟨ad, Ai, ci, e0, hx0, hl0, hC0⟩ := at_T26 HR0.out (i : Int) (by omega) (by omega)
   cases e0
   rw [Int.toNat_natCast] at hx0
   replace hx0 := pw_cell_below HI.out.1.bel hx0
   obtain ⟨x, hx⟩ : ∃ x, (rd_T26 l0 (i : Int)).f0 = x := ⟨_, rfl⟩
   have hdm := drop_map hil
   rw [HRS.out, hx] at hdm
   rw [hx] at hx0 hl0 hC0
   obtain ⟨m, hm⟩ : ∃ m, x.length = m := ⟨_, rfl⟩
   rw [hm] at hx0
   have HX := Aside0.mk (And.intro hl0 (And.intro hC0 (And.intro hdm hm)))
   clear hl0 hC0 hdm hm hx hil
   have hcP : ∀ W', HeapAt w g W' hp → 0 < m → Calls Try.prog 28 #[.iface 54 (.pointer (some ⟨g, 0, none⟩)), .iface 60 (.agg #[.slice Ai m ci, .int .i64 (i : Int)])] W' fun e w' => e = .returned (.tuple #[]) ∧ HeapAt w g w' (HM.pushR lessE z43 hp (x, i)) ∧ HKeep g W' w' := fun W' h hm0 => by
    obtain ⟨h1, h2, h3, h4⟩ := HX.out
    have := heap_Push.calls w g W' hp (x, i) Ai ci h1 h2 (by rw [h4]; exact hm0) (by have := HI.out.2.1; omega) (hq_neGet HI.out.2.2.1) h
    rwa [h4] at this
   by_cases hm0 : 0 < m
   rotate_left
   ·
    have hm1 : m = 0 := by omega
    subst hm1
    go_wp2_with (first | ((with_reducible refine gate_dst (N := 5) rfl ?_); refine box_event ?hg (N := 5) ?hd (cs := #[.slice none 0 0]) (t := 26) ?hr ?_; (case hd => rfl); (case hg => rfl); (case hr => first | (go_simp; done) | (go_simp; rfl)); intro gb hg w5 hbox hb; have HB5 := Aside0.mk hb; have GE5 := Aside0.mk (show wr.heap.size ≤ gb by rw [hg]; exact Nat.le_refl _); have hcz : w5.cell? ⟨gb, 0, none⟩ = some (.slice none 0 0) := (blk_cell hbox 0).trans rfl; have hfz := blk_frozen hbox 0; clear hbox hb hg))
    go_roundw
    case rel =>
     obtain ⟨h1, h2, h3, h4, h5⟩ := HI.out
     obtain ⟨x1, x2, x3, x4⟩ := HX.out
     refine ⟨i + 1, _, by go_num, hlt, ⟨h1.below (below_set HB5.out GE5.out), by omega, h3, ?_, ?_⟩⟩
     ·
      rw [x3] at h4
      unfold HM.startR at h4
      rw [if_pos x4] at h4
      exact h4
     ·
      rw [x3, List.flatten_cons, List.length_append] at h5
      omega
    case measure => simp [intOf]; omega
   replace hcP := fun W' h => hcP W' h hm0
   have hmI : (0 : Int) < (m : Int) := by omega
   go_wp2_with (first | ((with_reducible refine gate_dst (N := 5) rfl ?_); refine box_event ?hg (N := 5) ?hd (cs := #[.slice none 0 0]) (t := 26) ?hr ?_; (case hd => rfl); (case hg => rfl); (case hr => first | (go_simp; done) | (go_simp; rfl)); intro gb hg w5 hbox hb; have HB5 := Aside0.mk hb; have GE5 := Aside0.mk (show wr.heap.size ≤ gb by rw [hg]; exact Nat.le_refl _); have hcz : w5.cell? ⟨gb, 0, none⟩ = some (.slice none 0 0) := (blk_cell hbox 0).trans rfl; have hfz := blk_frozen hbox 0; clear hbox hb hg) | (go_at_call 28; (with_reducible refine (hcP _ (HI.out.1.below (below_set HB5.out GE5.out))).mono ?_); rintro e w6 ⟨rfl, hH6, hK6⟩; have HH6 := Aside0.mk (And.intro hH6 hK6); clear hH6 hK6))
   go_roundw
   case rel =>
    obtain ⟨h1, h2, h3, h4, h5⟩ := HI.out
    obtain ⟨x1, x2, x3, x4⟩ := HX.out
    refine ⟨i + 1, _, by go_num, hlt, ⟨HH6.out.1, by rw [hq_pushLen]; omega, hq_pushNe h3 (by rw [x4]; exact hm0), ?_, ?_⟩⟩
    ·
     rw [x3] at h4
     unfold HM.startR at h4
     rw [if_neg (by omega)] at h4
     exact h4
    ·
     rw [x3, List.flatten_cons, List.length_append] at h5
     rw [hTot_push]
     show hTot hp + x.length + _ = T
     omega
   case measure => simp [intOf]; omega
  have ei : i = n := by omega
  have hend : HeapAt w g wr hp ∧ hp.length ≤ n ∧ (∀ r ∈ hp, 0 < r.1.length) ∧ hTot hp = T ∧ hp = H0 := by
   obtain ⟨h1, h2, h3, h4, h5⟩ := HI.out
   subst ei
   have hd : rs.drop i = [] := List.drop_eq_nil_of_le (by rw [← HRS.out, List.length_map, HN.out]; exact Nat.le_refl _)
   rw [hd] at h4 h5
   exact ⟨h1, h2, h3, by simpa using h5, by unfold HM.startR at h4; exact h4⟩
  have HE := Aside0.mk hend
  clear hend HI
  go_wp2_with ((with_reducible refine gate_dst (N := 29) rfl ?_); refine Kd.R_lit k43 (w0 := w) w.heap.size 43 ?hg (N := 29) ?hd (xs := ([] : List S43)) (inner := []) (ok := fun _ => True) (okp := fun _ => True) ?hr ?hp (fun _ hk => hk) trivial HE.out.1.bel (below_size HE.out.1.bel) (by simp) ?_; (case hd => rfl); (case hg => rfl); (case hr => first | (go_simp; done) | (go_simp; rfl)); (case hp => exact (Reps.none _ _)); intro v9 w9 ho hb hg_ hnew_; obtain ⟨A9, c9, rfl⟩ := Kd.R_slice ho; have HE9 := Aside0.mk (show HeapAt w g w9 hp ∧ k43.R 43 w9 w.heap.size (fun _ => True) (.slice A9 ([] : List S43).length c9) [] from ⟨HE.out.1.grown hg_ hb, ho⟩); clear ho hb hg_ hnew_)
  clear hlt hwi hwk ei hin
  go_loopw [6] (fun v6 wr => ∃ (f : Nat) (hp : HL) (out : List S43) (A : Option Addr) (c : Nat), v6 = .slice A out.length c ∧ Aside0 (HeapAt w g wr hp ∧ hp.length ≤ n ∧ (∀ r ∈ hp, 0 < r.1.length) ∧ hTot hp = f ∧ f + out.length = T ∧ HM.mergeGo lessE z43 f hp out = r ∧ k43.R 43 wr w.heap.size (fun _ => True) (.slice A out.length c) out)) (fun v6 _ => T - sliceLen v6)
  case atStart => exact ⟨T, hp, [], A9, c9, rfl, ⟨HE9.out.1, HE.out.2.1, HE.out.2.2.1, HE.out.2.2.2.1, rfl, by rw [HE.out.2.2.2.2]; exact HG.out, HE9.out.2⟩⟩
  case round =>
   clear HE HE9 HG
   obtain ⟨f, hp, out, A, c, rfl, HI⟩ := hrel
   have hcL := fun W' (h : HeapAt w g W' hp) => readers_Len.calls w g W' hp h
   cases hp with
   | nil =>
    go_wp2_with (go_at_call 29; (with_reducible refine (hcL _ HI.out.1).mono ?_); rintro e w2 ⟨rfl, rfl⟩)
    go_ret
    obtain ⟨h1, h2, h3, h4, h5, h6, h7⟩ := HI.out
    refine ⟨_, rfl, ?_, h1.bel⟩
    have : out = r := by cases f <;> (unfold HM.mergeGo at h6; exact h6)
    rw [← this]
    exact h7
   | cons r0 l =>
    obtain ⟨h1, h2, h3, h4, h5, h6, h7⟩ := HI.out
    have hr0 : 0 < r0.1.length := h3 r0 (by simp)
    obtain ⟨xs, ix⟩ := r0
    cases xs with
    | nil => exact absurd hr0 (by simp)
    | cons x tl =>
    cases f with
    | zero => exact absurd h4 (by simp [hTot])
    | succ f =>
    have h4f : hTot ((tl, ix) :: l) = f := by simp only [hTot, List.map_cons, List.sum_cons, List.length_cons] at h4 ⊢; omega
    obtain ⟨B, cB, hF⟩ := h1.form (by simp)
    obtain ⟨Ax, cx, hx0, -, hxl, hxC⟩ := hF.cell 0 (by simp)
    rw [Nat.zero_mul] at hx0
    have hx0' : wr.cell? ⟨B, 0, none⟩ = some (.slice Ax (x :: tl).length cx) := hx0
    have hxC' : k43.C w Ax (x :: tl).length (x :: tl) := hxC
    have hxl' : (x :: tl).length ≤ cx := hxl
    clear hx0 hxC hxl
    obtain ⟨p, rfl, hp0, hp1, hp2, hp3⟩ := head_cells (Kd.C_below hxC' h1.bel) (by simp)
    have hg0 := hF.gcell
    obtain ⟨N, hN⟩ : ∃ N, (((x :: tl, ix) : List S43 × Nat) :: l).length = N := ⟨_, rfl⟩
    obtain ⟨M, hM⟩ : ∃ M, (x :: tl).length = M := ⟨_, rfl⟩
    have hN0 : 0 < N := by rw [← hN]; simp
    have hM0 : 0 < M := by rw [← hM]; simp
    have hMt : tl.length = M - 1 := by rw [← hM]; rfl
    rw [hN] at hg0 hcL
    rw [hM] at hx0' hxl'
    have HF := Aside0.mk hF
    have HX := Aside0.mk (And.intro hxl' (And.intro hxC' (And.intro hM (And.intro h3 (And.intro h4f (And.intro h5 (And.intro h6 hN)))))))
    have H7 := Aside0.mk h7
    have hN1 : (0 : Int) < (N : Int) := by omega
    clear hxl' hxC' hM h3 h4 h4f h5 h6 h7 hr0 hN hF h1 h2
    replace hp0 : wr.cell? p = some (.string x.f0) := hp0
    replace hp1 : wr.cell? ⟨p.block, p.off + 1, none⟩ = some (.int .i64 x.f1) := hp1
    replace hp2 : wr.cell? ⟨p.block, p.off + 2, none⟩ = some (.bool x.f2) := hp2
    replace hp3 : wr.cell? ⟨p.block, p.off + 3, none⟩ = some (.string x.f3) := hp3
    go_wp2_with (first | (go_at_call 29; (with_reducible refine (hcL _ HI.out.1).mono ?_); rintro e w2 ⟨rfl, rfl⟩) | ((with_reducible refine gate_dst (N := 44) rfl ?_); refine Kd.R_append k43 (w0 := w) w.heap.size rfl (.tmp 33) (.tmp 43) 24 43 (.agg #[(.string ⟨#[]⟩), (.int .i64 0), (.bool false), (.string ⟨#[]⟩)]) 48 rfl Try.underlying24 info43 rfl (by decide) (by omega) (.slice A out.length c) out x [.string x.f0, .int .i64 x.f1, .bool x.f2, .string x.f3] (fun _ => True) (fun _ => False) rfl (by first | (go_simp; done) | (go_simp; rfl)) (k43_mkM _ _ _ x) (fun _ hk => hk.elim) (fun _ _ => trivial) H7.out HI.out.1.bel (below_size HI.out.1.bel) (by have := HX.out.2.2.2.2.2.1; omega) ?_; intro v2 w8 ho hb hg hat; have HH8 := Aside0.mk (HI.out.1.over H7.out hg hb); obtain ⟨A2, c2, rfl⟩ := Kd.R_slice ho; have HO8 := Aside0.mk ho; clear ho hb hg hat))
    obtain ⟨B8, cB8, hF8⟩ := HH8.out.form (by simp)
    obtain ⟨Ax8, cx8, hx8, -, hxl8, hxC8⟩ := hF8.cell 0 (by simp)
    rw [Nat.zero_mul] at hx8
    replace hx8 : w8.cell? ⟨B8, 0, none⟩ = some (.slice Ax8 (x :: tl).length cx8) := hx8
    replace hxC8 : k43.C w Ax8 (x :: tl).length (x :: tl) := hxC8
    replace hxl8 : (x :: tl).length ≤ cx8 := hxl8
    have hg8 := hF8.gcell
    rw [HX.out.2.2.2.2.2.2.2] at hg8
    rw [HX.out.2.2.1] at hx8
    have hMc : M ≤ cx8 := by rw [← HX.out.2.2.1]; exact hxl8
    have h1c : 1 ≤ cx8 := by omega
    have h1M : (1 : Int) ≤ (M : Int) := by omega
    have hcD := Kd.C_drop hxC8 (show 1 ≤ (x :: tl).length by simp) hxl8
    rw [show (x :: tl).drop 1 = tl from rfl, show 1 * k43.sz = 4 from rfl] at hcD
    have HF8 := Aside0.mk hF8
    have HD8 := Aside0.mk hcD
    clear hF8 hcD hxC8 hxl8
    clear hx0' hp0 hp1 hp2 hp3 hg0
    refine start_ (n := 15) (S := fun w' => w'.cell? ⟨g, 0, none⟩ = some (.slice (some ⟨B8, 0, none⟩) N cB8) ∧ w'.cell? ⟨B8, 0, none⟩ = some (.slice Ax8 M cx8)) (ds := [14]) zf193 (by kernel_rfl) rfl rfl ⟨hg8, hx8⟩ (fun hHeld => ?_)
    refine pure_ (i := 0) (N := some 45) (v := ?_) (a' := ?_) zf194 rfl rfl (by kernel_rfl) (fun _ _ _ h => h) (Or.inl ⟨by rfl, ?_⟩) ?_ ?_; rotate_left; intro w'; go_simp; with_reducible rfl; rotate_left; simp only [Cap.pz]; rfl
    refine pure_ (i := 1) (N := some 46) (v := ?_) (a' := ?_) zf195 rfl rfl (by kernel_rfl) (fun _ _ _ h => h) (Or.inl ⟨by rfl, ?_⟩) ?_ ?_; rotate_left; intro w'; go_simp; with_reducible rfl; rotate_left; simp only [Cap.pz]; rfl
    refine pure_ (i := 2) (N := some 47) (v := ?_) (a' := ?_) zf196 rfl rfl (by kernel_rfl) (fun _ _ _ h => h) (Or.inl ⟨by rfl, ?_⟩) ?_ ?_; rotate_left; intro w'; go_simp; with_reducible rfl; rotate_left; simp only [Cap.pz]; rfl
    refine take_ (i := 3) (N := some 48) (v := ?_) (a' := ?_) zf197 rfl rfl (by kernel_rfl) (fun _ _ _ h => h) (Or.inl ⟨by rfl, ?_⟩) hHeld ?_ ?_; rotate_left; rintro w' ⟨s0, s1⟩; go_simp; with_reducible rfl; rotate_left; simp only [Cap.pz]; rfl
    refine pure_ (i := 4) (N := some 49) (v := ?_) (a' := ?_) zf198 rfl rfl (by kernel_rfl) (fun _ _ _ h => h) (Or.inl ⟨by rfl, ?_⟩) ?_ ?_; rotate_left; intro w'; go_simp; with_reducible rfl; rotate_left; simp only [Cap.pz]; rfl
    refine pure_ (i := 5) (N := some 50) (v := ?_) (a' := ?_) zf199 rfl rfl (by kernel_rfl) (fun _ _ _ h => h) (Or.inl ⟨by rfl, ?_⟩) ?_ ?_; rotate_left; intro w'; go_simp; with_reducible rfl; rotate_left; simp only [Cap.pz]; rfl
    refine pure_ (i := 6) (N := some 51) (v := ?_) (a' := ?_) zf200 rfl rfl (by kernel_rfl) (fun _ _ _ h => h) (Or.inl ⟨by rfl, ?_⟩) ?_ ?_; rotate_left; intro w'; go_simp; with_reducible rfl; rotate_left; simp only [Cap.pz]; rfl
    refine take_ (i := 7) (N := some 52) (v := ?_) (a' := ?_) zf201 rfl rfl (by kernel_rfl) (fun _ _ _ h => h) (Or.inl ⟨by rfl, ?_⟩) hHeld ?_ ?_; rotate_left; rintro w' ⟨s0, s1⟩; go_simp; with_reducible rfl; rotate_left; simp only [Cap.pz]; rfl
    refine pure_ (i := 8) (N := some 53) (v := ?_) (a' := ?_) zf202 rfl rfl (by kernel_rfl) (fun _ _ _ h => h) (Or.inl ⟨by rfl, ?_⟩) ?_ ?_; rotate_left; intro w'; go_simp; with_reducible rfl; rotate_left; simp only [Cap.pz]; rfl
    refine pure_ (i := 9) (N := some 54) (v := ?_) (a' := ?_) zf203 rfl rfl (by kernel_rfl) (fun _ _ _ h => h) (Or.inl ⟨by rfl, ?_⟩) ?_ ?_; rotate_left; intro w'; go_simp; with_reducible rfl; rotate_left; simp only [Cap.pz]; rfl
    refine take_ (i := 10) (N := some 55) (v := ?_) (a' := ?_) zf204 rfl rfl (by kernel_rfl) (fun _ _ _ h => h) (Or.inl ⟨by rfl, ?_⟩) hHeld ?_ ?_; rotate_left; rintro w' ⟨s0, s1⟩; go_simp; with_reducible rfl; rotate_left; simp only [Cap.pz]; rfl
    generalize hw10 : w8.drew = w10 at hHeld ⊢
    have n0_ := Aside0.mk (hw10 ▸ HF8.out.below (below_drew1 (Below.refl _ _)))
    have n1_ := Aside0.mk (hw10 ▸ below_drew1 HH8.out.bel)
    have n2_ := Aside0.mk (hw10 ▸ Kd.R_drew HO8.out)
    clear hw10
    refine pure_ (i := 11) (N := some 56) (v := ?_) (a' := ?_) zf205 rfl rfl (by kernel_rfl) (fun _ _ _ h => h) (Or.inl ⟨by rfl, ?_⟩) ?_ ?_; rotate_left; intro w'; go_simp; with_reducible rfl; rotate_left; simp only [Cap.pz]; rfl
    have hAd : (if cx8 = 1 then Ax8 else Option.map (fun x => x.add 4) Ax8) = (if cx8 = 1 then Ax8 else Option.map (fun x => ({ block := x.block, off := x.off + 4, spot := none } : Addr)) Ax8) := by simp [Addr.add]
    have hD9 := HD8.out
    rw [hAd] at hD9
    generalize (if cx8 = 1 then Ax8 else Option.map (fun x => ({ block := x.block, off := x.off + 4, spot := none } : Addr)) Ax8) = A9 at hD9 ⊢
    clear hAd
    refine pure_ (i := 12) (N := some 57) (v := ?_) (a' := ?_) zf206 rfl rfl (by kernel_rfl) (fun _ _ _ h => h) (Or.inl ⟨by rfl, ?_⟩) ?_ ?_; rotate_left; intro w'; go_simp; with_reducible rfl; rotate_left; simp only [Cap.pz]; rfl
    refine pure_ (i := 13) (N := some 58) (v := ?_) (a' := ?_) zf207 rfl rfl (by kernel_rfl) (fun _ _ _ h => h) (Or.inl ⟨by rfl, ?_⟩) ?_ ?_; rotate_left; intro w'; go_simp; with_reducible rfl; rotate_left; simp only [Cap.pz]; rfl
    have hfz := n0_.out.frozen 0
    obtain ⟨hh0, hh1⟩ := hHeld
    refine last_ (i := 14) (N := none) zf208 rfl rfl (by kernel_rfl) (by decide) (fun Kq hK => ?_)
    refine skip_ (w1 := w10.setCell ⟨B8, 0, none⟩ (.slice A9 (M - 1) (cx8 - 1))) (by rfl) rfl ?_ ?_
    ·
     go_simp
    refine hK.out _ _ ?_
    clear hK Kq
    refine done_ (by kernel_rfl) ?_
    have hMt8 : tl.length = M - 1 := hMt
    have hF11 := n0_.out.put0 tl (A := A9) (m := cx8 - 1) (by omega) hD9
    rw [hMt8] at hF11
    have hk11 := (HKeep.refl g w10).set (.inr n0_.out.2.2.2.2.1) 0 (.slice A9 (M - 1) (cx8 - 1))
    have ho11 := hk11.row n2_.out n0_.out.2.2.2.1
    have hB11 := below_set (j := 0) (v := .slice A9 (M - 1) (cx8 - 1)) n1_.out n0_.out.2.1
    have hx11 : (w10.setCell ⟨B8, 0, none⟩ (.slice A9 (M - 1) (cx8 - 1))).cell? ⟨B8, 0, none⟩ = some (.slice A9 (M - 1) (cx8 - 1)) := World.cell?_setCell_same' _ _ _ (by rw [hh1]; rfl)
    have hg11 := hF11.gcell
    rw [show (((tl, ix) : List S43 × Nat) :: l).length = N from HX.out.2.2.2.2.2.2.2] at hg11
    have hH11 := hF11.at_ HI.out.1.ge hB11
    clear hF11 hk11 hB11 n0_ n1_ n2_ hh0 hh1 hfz hD9 HF8 HD8 HH8 HO8 HF H7
    generalize w10.setCell ⟨B8, 0, none⟩ (.slice A9 (M - 1) (cx8 - 1)) = w11 at hH11 ho11 hx11 hg11 ⊢
    have HH11 := Aside0.mk hH11
    have HO11 := Aside0.mk ho11
    clear hH11 ho11
    have h3l : ∀ r ∈ l, 0 < r.1.length := fun r hr => HX.out.2.2.2.1 r (List.mem_cons_of_mem _ hr)
    have hNn : l.length + 1 ≤ n := HI.out.2.1
    have h6 := HX.out.2.2.2.2.2.2.1
    unfold HM.mergeGo at h6
    by_cases hz : tl.length = 0
    ·
     have hz1 : M - 1 = 0 := by omega
     rw [hz1] at hx11
     replace h6 : HM.mergeGo lessE z43 f (HM.popR lessE z43 ((tl, ix) :: l)) (out ++ [x]) = r := by rw [if_pos (show (x :: tl).tail.length = 0 from hz)] at h6; exact h6
     have HZ := Aside0.mk (And.intro hz (And.intro h6 h3l))
     clear h6 h3l hz
     go_wp2_with (go_at_call 30; (with_reducible refine (heap_Pop.calls w g _ ((tl, ix) :: l) (by simp) (by simp only [List.length_cons]; omega) (hq_swapNe HZ.out.2.2) HH11.out).mono ?_); rintro e w12 ⟨v12, rfl, hH12, hK12⟩; have HH12 := Aside0.mk (And.intro hH12 hK12); clear hH12 hK12)
     go_roundw
     case rel =>
      obtain ⟨x1, x2, x3, x4, x5, x6, x7, x8⟩ := HX.out
      obtain ⟨⟨v, hv1, -⟩, -, -⟩ := HH11.out
      refine ⟨f, _, out ++ [x], A2, c2, by simp, ⟨HH12.out.1, by rw [hq_popLen]; omega, hq_popNe HZ.out.2.2, ?_, by rw [List.length_append, List.length_singleton]; omega, HZ.out.2.1, HH12.out.2.row HO11.out hv1⟩⟩
      rw [hq_popTot HZ.out.1]
      simp only [hTot, List.map_cons, List.sum_cons] at x5 ⊢
      have := HZ.out.1
      omega
     case measure => simp [sliceLen]; have := HX.out.2.2.2.2.2.1; omega
    have hz1 : 0 < M - 1 := by omega
    replace h6 : HM.mergeGo lessE z43 f (HM.downR (HM.lessR lessE z43) ([], 0) (l.length + 1) ((tl, ix) :: l) 0 (l.length + 1)) (out ++ [x]) = r := by rw [if_neg (show ¬ (x :: tl).tail.length = 0 from hz)] at h6; exact h6
    have HZ := Aside0.mk (And.intro hz (And.intro h6 h3l))
    have h3a : ∀ r ∈ ((tl, ix) : List S43 × Nat) :: l, 0 < r.1.length := fun r hr => by
     rcases List.mem_cons.1 hr with h | h
     ·
      rw [h]; exact Nat.pos_of_ne_zero hz
     ·
      exact h3l r h
    have H3A := Aside0.mk h3a
    clear h6 h3l hz h3a
    have hz2 : ¬ (M : Int) - 1 = 0 := by omega
    have hz3 : ¬ M - 1 = 0 := by omega
    go_wp2_with (go_at_call 31; (with_reducible refine (heap_Fix.calls w g _ ((tl, ix) :: l) (by simp) (by simp only [List.length_cons]; omega) (hq_neGet H3A.out) HH11.out).mono ?_); rintro e w12 ⟨rfl, hH12, hK12⟩; have HH12 := Aside0.mk (And.intro hH12 hK12); clear hH12 hK12)
    go_roundw
    case rel =>
     obtain ⟨x1, x2, x3, x4, x5, x6, x7, x8⟩ := HX.out
     obtain ⟨⟨v, hv1, -⟩, -, -⟩ := HH11.out
     have hperm := hq_down (HM.lessR lessE z43) ([], 0) (l.length + 1) ((tl, ix) :: l) 0 (l.length + 1) (Nat.le_refl _)
     refine ⟨f, _, out ++ [x], A2, c2, by simp, ⟨HH12.out.1, by rw [downR_len]; exact hNn, fun r hr => H3A.out r (hperm.mem_iff.1 hr), (hTot_perm hperm).trans x5, by rw [List.length_append, List.length_singleton]; omega, HZ.out.2.1, HH12.out.2.row HO11.out hv1⟩⟩
    case measure => simp [sliceLen]; have := HX.out.2.2.2.2.2.1; omega
end Go.Proofs.Ytjjccaepbfijeaa.QFnExactMergeRuns
