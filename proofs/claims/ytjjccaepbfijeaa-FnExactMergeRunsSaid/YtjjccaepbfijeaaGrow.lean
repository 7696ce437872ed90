/- What a world has told still stands when it grows: short names for steps that a printed walk takes often. No condition. -/
import Derived.Test.YtjjccaepbfijeaaV0
set_option linter.all false
namespace Go.Proofs.Ytjjccaepbfijeaa.Grow
open Go.RowKit Go.Proofs.YtjjccaepbfijeaaW.PrintWords
/-- A world behind another: memory was made, choices were drawn. -/
class Behind (w1 w2 : World) : Prop where
  below : Below w1.heap.size w1 w2
instance behind_refl (w : World) : Behind w w := ⟨Below.refl _ _⟩
instance behind_alloc (w W : World) (o : Obj) [h : Behind w W] : Behind w (W.alloc o) := ⟨below_alloc h.below o⟩
instance behind_drew (w W : World) [h : Behind w W] : Behind w W.drew := ⟨below_drew1 h.below⟩
instance behind_drewN (w W : World) (n : Nat) [h : Behind w W] : Behind w (W.drewN n) := ⟨pw_below_drewN h.below n⟩
theorem bl {w w1 w2 : World} (h : Below w.heap.size w w1) [k : Behind w1 w2] : Below w.heap.size w w2 := below_then h (below_size h) k.below
theorem bk {w1 w2 : World} {g : Nat} {o : Obj} (h : w1.heap[g]? = some o) [k : Behind w1 w2] : w2.heap[g]? = some o := blk_below h k.below
theorem cb {α : Type} {d : Kd α} {w w1 w2 : World} {A : Option Addr} {n : Nat} {xs : List α} (h : d.C w A n xs) (hb : Below w.heap.size w w1) [k : Behind w1 w2] : d.C w2 A n xs := Kd.C_below h (bl hb)
theorem rg {α : Type} {d : Kd α} {w1 w2 : World} {e base : Nat} {ok : Nat → Prop} {v : Value} {xs : List α} (h : d.R e w1 base ok v xs) [k : Behind w1 w2] : d.R e w2 base ok v xs := Kd.R_below h k.below
theorem sg {α : Type} {d : Kd α} {w1 w2 : World} {e base : Nat} {ok : Nat → Prop} {v : Value} {xs : List α} (h : Kd.S d e w1 base ok v xs) [k : Behind w1 w2] : Kd.S d e w2 base ok v xs := Kd.S_below h k.below
theorem bc {w w1 : World} {a : Addr} {v : Value} (hb : Below w.heap.size w w1) (h : w.cell? a = some v) : w1.cell? a = some v := (hb.cell (World.block_lt_of_cell? w _ h)).trans h
end Go.Proofs.Ytjjccaepbfijeaa.Grow
