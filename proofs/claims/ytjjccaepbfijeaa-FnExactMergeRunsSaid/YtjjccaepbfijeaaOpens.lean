/- What an argument's cells read as data, they read as a printed kind, too: kind by kind. No condition. -/
import Derived.Test.YtjjccaepbfijeaaV0
import Derived.Deep.Slices
import Derived.WalkKit
import Derived.ProofKit
set_option linter.unusedVariables false
namespace Go.Proofs.Ytjjccaepbfijeaa.Opens
open Go.RowKit Go.Deep Go.ChangeShapes Go.WideShapes Go.Proofs.YtjjccaepbfijeaaW.PrintWords Go.Proofs.YtjjccaepbfijeaaW.PrintLast Go.Proofs.YtjjccaepbfijeaaW.PrintMore
/-- Cells of type t that read as data read as kind d, and what they read as is good. -/
structure Opens (P : Program) (t : TypeId) {α : Type} (d : Kd α) (good : α → Prop) : Prop where mk ::
  out : ∀ {H : Type} (enc : TypeId × Value → H) (w : World) (base : Nat) (spare : Nat → Bool) (held : Bool) (fuel : Nat) (cs : List Value) (x : DataW H × List MemPlace),
    DataW.trod enc P w base spare held fuel t cs = some x → ∃ a, d.K w a cs ∧ good a
theorem opens_int {P : Program} {t : TypeId} {k : IntKind} (hu : P.underlying t = some (.int k)) : Opens P t (Kd.int k) (fun n => (Lit.int k n).wf = true) := by
  constructor
  intro H enc w base spare held fuel cs x h
  obtain ⟨n, rfl, _, hw⟩ := DataW.trod_int hu h
  exact ⟨n, rfl, hw⟩
theorem opens_bool {P : Program} {t : TypeId} (hu : P.underlying t = some .bool) : Opens P t Kd.bool (fun _ => True) := by
  constructor
  intro H enc w base spare held fuel cs x h
  obtain ⟨b, rfl, _⟩ := DataW.trod_bool hu h
  exact ⟨b, rfl, trivial⟩
theorem opens_string {P : Program} {t : TypeId} (hu : P.underlying t = some .string) : Opens P t Kd.string (fun s => s.size ≤ 9223372036854775807) := by
  constructor
  intro H enc w base spare held fuel cs x h
  obtain ⟨s, rfl, _, hs⟩ := DataW.trod_string hu h
  exact ⟨s, rfl, hs⟩
theorem opens_slice {P : Program} {t e : TypeId} {α : Type} {d : Kd α} {good : α → Prop} (hu : P.underlying t = some (.slice e)) (hsz : P.cellsOf e = d.sz) (he : Opens P e d good) :
    Opens P t (Kd.slice e d) (fun xs => xs.length ≤ 9223372036854775807 ∧ ∀ a ∈ xs, good a) := by
  constructor
  intro H enc w base spare held fuel cs x h
  rcases open_slice hu h with ⟨rfl, _⟩ | ⟨a, len, cap, m, n, D, Pl, rfl, hb, hl, hm, hmm, _, hx⟩
  · exact ⟨[], ⟨none, 0, rfl, Nat.le_refl _, Kd.C_nil d w⟩, by simp, by simp⟩
  · have hlm : len ≤ m := by subst hmm; split <;> omega
    by_cases h0 : len = 0
    · subst h0
      refine ⟨[], ⟨some a, cap, rfl, Nat.zero_le _, ?_⟩, by simp, by simp⟩
      exact ⟨rfl, by simp, fun hlt => absurd hlt (Nat.lt_irrefl 0)⟩
    · have one : ∀ i, i < len → ∃ v : α, good v ∧ ∃ c : List Value, c.length = d.sz ∧ d.K w v c ∧ ∀ j u, c[j]? = some u → w.cell? (a.add (i * d.sz + j)) = some u := by
        intro i hi
        obtain ⟨cs', h1, h2⟩ := hx i (by omega)
        obtain ⟨v, hK, hg⟩ := he.out enc w base spare held n cs' _ h2
        obtain ⟨_, hlen, hcell⟩ := World.cells?_some h1
        refine ⟨v, hg, cs', d.K_len hK, hK, ?_⟩
        intro j u hj
        have hjl : j < cs'.length := (List.getElem?_eq_some_iff.1 hj).1
        have := hcell j (by omega)
        rw [hj, Deep.add_add, hsz] at this
        exact this
      obtain ⟨v0, _⟩ := one 0 (by omega)
      haveI : Inhabited α := ⟨v0⟩
      obtain ⟨X, hX⟩ := choose_lt one
      refine ⟨(List.range len).map X, ⟨some a, cap, by simp, by simpa using hl, ?_⟩, ?_, ?_⟩
      · refine ⟨rfl, by simp; unfold maxLen at hm; omega, fun _ => ⟨a, rfl, ?_⟩⟩
        intro j p hj
        obtain ⟨hjl, hjp⟩ := List.getElem?_eq_some_iff.1 hj
        simp only [List.length_map, List.length_range] at hjl
        simp only [List.getElem_map, List.getElem_range] at hjp
        subst hjp
        exact (hX j hjl).2
      · simp; unfold maxLen at hm; omega
      · intro y hy
        obtain ⟨i, hi, rfl⟩ := List.mem_map.1 hy
        exact (hX i (List.mem_range.1 hi)).1
/-- The fields from cell o on. -/
structure OpensF (P : Program) (fs : List Field) (o : Nat) {α : Type} (d : Kd α) (good : α → Prop) : Prop where mk ::
  out : ∀ {H : Type} (enc : TypeId × Value → H) (w : World) (base : Nat) (spare : Nat → Bool) (held : Bool) (n : Nat) (cs : List Value), cs.length = o + d.sz →
    (∀ (i : Nat) (f : Field), fs[i]? = some f → ∃ y, DataW.trod enc P w base spare held n f.type ((cs.drop f.offset).take (P.cellsOf f.type)) = some y) → ∃ a, d.K w a (cs.drop o) ∧ good a
theorem opensF_one {P : Program} {f : Field} {o : Nat} {α : Type} {d : Kd α} {good : α → Prop} (hf : Opens P f.type d good) (ho : f.offset = o) (hs : P.cellsOf f.type = d.sz) : OpensF P [f] o d good := by
  constructor
  intro H enc w base spare held n cs hl h
  obtain ⟨y, hy⟩ := h 0 f rfl
  obtain ⟨a, hK, hg⟩ := hf.out enc w base spare held n _ y hy
  refine ⟨a, ?_, hg⟩
  rw [ho, hs, List.take_of_length_le (by rw [List.length_drop]; omega)] at hK
  exact hK
theorem opensF_cons {P : Program} {f : Field} {fs : List Field} {o : Nat} {α β : Type} {d : Kd α} {d2 : Kd β} {good : α → Prop} {good2 : β → Prop} (hf : Opens P f.type d good) (ho : f.offset = o) (hs : P.cellsOf f.type = d.sz) (hr : OpensF P fs (o + d.sz) d2 good2) :
    OpensF P (f :: fs) o (Kd.pair d d2) (fun x => good x.1 ∧ good2 x.2) := by
  constructor
  intro H enc w base spare held n cs hl h
  have hl' : cs.length = o + (d.sz + d2.sz) := hl
  obtain ⟨y, hy⟩ := h 0 f rfl
  obtain ⟨a, hK, hg⟩ := hf.out enc w base spare held n _ y hy
  obtain ⟨b, hK2, hg2⟩ := hr.out enc w base spare held n cs (by omega) (fun i g hi => h (i + 1) g hi)
  rw [ho, hs] at hK
  refine ⟨(a, b), ⟨(cs.drop o).take d.sz, cs.drop (o + d.sz), ?_, hK, hK2⟩, hg, hg2⟩
  rw [← List.drop_drop, List.take_append_drop]
theorem opens_struct {P : Program} {t : TypeId} {fs : Array Field} {α : Type} {d : Kd α} {good : α → Prop} (hu : P.underlying t = some (.struct fs)) (hc : P.cellsOf t = d.sz) (hf : OpensF P fs.toList 0 d good) : Opens P t d good := by
  constructor
  intro H enc w base spare held fuel cs x h
  obtain ⟨xs, n, rfl, _, hl, hxl, hx⟩ := DataW.trod_struct hu h
  obtain ⟨a, hK, hg⟩ := hf.out enc w base spare held n cs (by omega) (fun i f hi => by
    have hi' : fs[i]? = some f := by simpa using hi
    have h1 := hx i f hi'
    have hlt : i < xs.length := by have := (Array.getElem?_eq_some_iff.1 hi').1; omega
    rw [List.getElem?_eq_getElem hlt] at h1
    exact ⟨_, h1⟩)
  exact ⟨a, by simpa using hK, hg⟩
end Go.Proofs.Ytjjccaepbfijeaa.Opens
