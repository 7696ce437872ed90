-- A text of this session, printed by a program of its own (wip/tools: xpatch.py, xprint.sh, mkq.py). No condition.
import Derived.Test.YtepnjhmdcaolkaaDoorGrow
import Derived.Test.YtepnjhmdcaolkaaDoorProg
import Derived.Test.YtepnjhmdcaolkaaDoorCap
import Derived.Laws.CopyOwn
import Derived.Below
import Derived.Deep.Draws
import Derived.Deep.AppendLies
import Derived.Maps.AppendAt
import Derived.OwnWalk
import Derived.Laws.BytesArg
import Derived.Laws.MakeOwn
import Derived.Laws.OwnMore
import Derived.Deep.OwnRows
import Derived.Tactics
import Derived.Lib.ConvBytes
import Derived.Laws.Slices
import Derived.WalkKit
import Derived.KernelRfl
import Derived.RowKit3
import Derived.Deep.LoopGhost
import Derived.Deep.QuietTactic
import Derived.BigQuiet
import Derived.WideLaws
import Derived.Deep.DeepCutAuto
import Derived.Deep.CutBlock
import Derived.Deep.RegionHeld3
import Derived.Laws.Rows
import Derived.Lib.AppendStr
import Derived.ArgAppend
import Derived.Laws.IdiomCopy
import Derived.OrdersHeld
import Derived.Laws.BitsLemmas
import Derived.RowKit
import Derived.Test.YtepnjhmdcaolkaaDoorV0
namespace Go.Proofs.YtepnjhmdcaolkaaDoor.QFnExactWriteRequest
open Go.RowKit Go.Proofs.YtepnjhmdcaolkaaDoorW.PrintWords Go.Proofs.YtepnjhmdcaolkaaDoorW.PrintLast Go.Proofs.YtepnjhmdcaolkaaDoorW.PrintMore
attribute [local go_sem] max2_int min2_int max_two min_two max_three min_three max_four min_four   -- for this text's walks alone
set_option linter.unusedVariables false
set_option linter.unusedSimpArgs false



def errW : Option Int → Value
  | none => .nilIface
  | some c => .iface 0 (.int .i64 c)
theorem errW_none : errW none = .nilIface := rfl
theorem errW_some (c : Int) : errW (some c) = .iface 0 (.int .i64 c) := rfl

theorem info5 : (Tryd.prog.info? 5).map (fun i => (i.zero, i.size, i.bytes)) = some (some (.int .u8 0), 1, 1) := by kernel_rfl
theorem info9 : (Tryd.prog.info? 9).map (fun i => (i.zero, i.size, i.bytes)) = some (some (.string ⟨#[]⟩), 1, 16) := by kernel_rfl
theorem info45 : (Tryd.prog.info? 45).map (fun i => (i.zero, i.size, i.bytes)) = some (some (.agg #[(.string ⟨#[]⟩), (.string ⟨#[]⟩)]), 2, 32) := by kernel_rfl
-- the values' own types
/-! #### struct type 71 -/
structure S71 where
  f0 : ByteArray
  f1 : ByteArray
def z71 : S71 := ⟨(⟨#[]⟩ : ByteArray), (⟨#[]⟩ : ByteArray)⟩
def k71 : Kd S71 := Kd.iso (Kd.pair Kd.string Kd.string) (fun x : S71 => (x.f0, x.f1))
theorem k71_open {w : World} {x : S71} {cs : List Value} (h : k71.K w x cs) : cs = [.string x.f0, .string x.f1] := by
  obtain ⟨_, _, rfl, rfl, rfl⟩ := h
  exact rfl
theorem k71_openM {w : World} {base : Nat} {ok : Nat → Prop} {x : S71} {cs : List Value} (h : k71.M w base ok x cs) : cs = [.string x.f0, .string x.f1] := by
  obtain ⟨_, _, rfl, rfl, rfl⟩ := h
  exact rfl
theorem k71_mk (w : World) (x : S71)  : k71.K w x [.string x.f0, .string x.f1] := ⟨[.string x.f0], [.string x.f1], rfl, rfl, rfl⟩
theorem k71_mkM (w : World) (base : Nat) (ok : Nat → Prop) (x : S71)  : k71.M w base ok x [.string x.f0, .string x.f1] := ⟨[.string x.f0], [.string x.f1], rfl, rfl, rfl⟩
def rd_T71 (xs : List S71) (i : Int) : S71 := xs.getD i.toNat z71
theorem at_T71 {w : World} {A : Option Addr} {n : Nat} {xs : List S71} (h : Kd.C k71 w A n xs) (i : Int) (h0 : 0 ≤ i) (h1 : i < n) : ∃ ad , A = some ad ∧ w.cell? (ad.add (i.toNat * 2)) = some (.string (rd_T71 xs i).f0) ∧ w.cell? ⟨(ad.add (i.toNat * 2)).block, (ad.add (i.toNat * 2)).off + 1, none⟩ = some (.string (rd_T71 xs i).f1) := by
  obtain ⟨ad, c, e, _, hK, hc0⟩ := Kd.C_get h z71 i h0 h1
  have hc : ∀ j u, c[j]? = some u → w.cell? (ad.add (i.toNat * 2 + j)) = some u := hc0
  obtain rfl := k71_open hK
  exact ⟨ad, e, hc 0 _ rfl, by rw [← add_field _ _ 1 (by omega)]; exact hc 1 _ rfl⟩

/-! #### struct type 45 -/
structure S45 where
  f0 : ByteArray
  f1 : ByteArray
def z45 : S45 := ⟨(⟨#[]⟩ : ByteArray), (⟨#[]⟩ : ByteArray)⟩
def k45 : Kd S45 := Kd.iso (Kd.pair Kd.string Kd.string) (fun x : S45 => (x.f0, x.f1))
theorem k45_open {w : World} {x : S45} {cs : List Value} (h : k45.K w x cs) : cs = [.string x.f0, .string x.f1] := by
  obtain ⟨_, _, rfl, rfl, rfl⟩ := h
  exact rfl
theorem k45_openM {w : World} {base : Nat} {ok : Nat → Prop} {x : S45} {cs : List Value} (h : k45.M w base ok x cs) : cs = [.string x.f0, .string x.f1] := by
  obtain ⟨_, _, rfl, rfl, rfl⟩ := h
  exact rfl
theorem k45_mk (w : World) (x : S45)  : k45.K w x [.string x.f0, .string x.f1] := ⟨[.string x.f0], [.string x.f1], rfl, rfl, rfl⟩
theorem k45_mkM (w : World) (base : Nat) (ok : Nat → Prop) (x : S45)  : k45.M w base ok x [.string x.f0, .string x.f1] := ⟨[.string x.f0], [.string x.f1], rfl, rfl, rfl⟩
def rd_T45 (xs : List S45) (i : Int) : S45 := xs.getD i.toNat z45
theorem at_T45 {w : World} {A : Option Addr} {n : Nat} {xs : List S45} (h : Kd.C k45 w A n xs) (i : Int) (h0 : 0 ≤ i) (h1 : i < n) : ∃ ad , A = some ad ∧ w.cell? (ad.add (i.toNat * 2)) = some (.string (rd_T45 xs i).f0) ∧ w.cell? ⟨(ad.add (i.toNat * 2)).block, (ad.add (i.toNat * 2)).off + 1, none⟩ = some (.string (rd_T45 xs i).f1) := by
  obtain ⟨ad, c, e, _, hK, hc0⟩ := Kd.C_get h z45 i h0 h1
  have hc : ∀ j u, c[j]? = some u → w.cell? (ad.add (i.toNat * 2 + j)) = some u := hc0
  obtain rfl := k45_open hK
  exact ⟨ad, e, hc 0 _ rfl, by rw [← add_field _ _ 1 (by omega)]; exact hc 1 _ rfl⟩

/-! The flags of a region's operations. -/
def zf0 : Array Bool := #[false, false, false, false, false, false, false, false, false, false]
def zf1 : Array Bool := #[true, false, false, false, false, false, false, false, false, false]
def zf2 : Array Bool := #[true, true, false, false, false, false, false, false, false, false]
def zf3 : Array Bool := #[true, true, true, false, false, false, false, false, false, false]
def zf4 : Array Bool := #[true, true, true, false, true, false, false, false, false, false]
def zf5 : Array Bool := #[true, true, true, false, true, true, false, false, false, false]
def zf6 : Array Bool := #[true, true, true, false, true, true, true, false, false, false]
def zf7 : Array Bool := #[true, true, true, true, true, true, true, false, false, false]
def zf8 : Array Bool := #[true, true, true, true, true, true, true, true, false, false]
def zf9 : Array Bool := #[true, true, true, true, true, true, true, true, true, false]
def zf10 : Array Bool := #[true, true, true, true, true, true, true, true, true, true]
def zf11 : Array Bool := #[true, true, true, true, true, true, false, false, false, false]
def zf12 : Array Bool := #[false, false, false, false, false, false, false, false, false]
def zf13 : Array Bool := #[true, false, false, false, false, false, false, false, false]
def zf14 : Array Bool := #[true, false, false, false, true, false, false, false, false]
def zf15 : Array Bool := #[true, true, false, false, true, false, false, false, false]
def zf16 : Array Bool := #[true, true, false, false, true, true, false, false, false]
def zf17 : Array Bool := #[true, true, true, false, true, true, false, false, false]
def zf18 : Array Bool := #[true, true, true, true, true, true, false, false, false]
def zf19 : Array Bool := #[true, true, true, true, true, true, true, false, false]
def zf20 : Array Bool := #[true, true, true, true, true, true, true, true, false]
def zf21 : Array Bool := #[true, true, true, true, true, true, true, true, true]
def zf22 : Array Bool := #[false, false, false, false, false, false, false, false]
def zf23 : Array Bool := #[true, false, false, false, false, false, false, false]
def zf24 : Array Bool := #[true, false, false, true, false, false, false, false]
def zf25 : Array Bool := #[true, true, false, true, false, false, false, false]
def zf26 : Array Bool := #[true, true, true, true, false, false, false, false]
def zf27 : Array Bool := #[true, true, true, true, true, false, false, false]
def zf28 : Array Bool := #[true, true, true, true, true, true, false, false]
def zf29 : Array Bool := #[true, true, true, true, true, true, true, false]
def zf30 : Array Bool := #[true, true, true, true, true, true, true, true]
def zf31 : Array Bool := #[false, false, false, false, false, false, false, false, false, false, false, false]
def zf32 : Array Bool := #[true, false, false, false, false, false, false, false, false, false, false, false]
def zf33 : Array Bool := #[true, true, false, false, false, false, false, false, false, false, false, false]
def zf34 : Array Bool := #[true, true, true, false, false, false, false, false, false, false, false, false]
def zf35 : Array Bool := #[true, true, true, false, false, false, false, false, true, false, false, false]
def zf36 : Array Bool := #[true, true, true, true, false, false, false, false, true, false, false, false]
def zf37 : Array Bool := #[true, true, true, true, true, false, false, false, true, false, false, false]
def zf38 : Array Bool := #[true, true, true, true, true, false, false, false, true, true, false, false]
def zf39 : Array Bool := #[true, true, true, true, true, true, false, false, true, true, false, false]
def zf40 : Array Bool := #[true, true, true, true, true, true, true, false, true, true, false, false]
def zf41 : Array Bool := #[true, true, true, true, true, true, true, true, true, true, false, false]
def zf42 : Array Bool := #[true, true, true, true, true, true, true, true, true, true, true, false]
def zf43 : Array Bool := #[true, true, true, true, true, true, true, true, true, true, true, true]
def zf44 : Array Bool := #[false, false, false, false, false, false, false, false, false, false, false]
def zf45 : Array Bool := #[true, false, false, false, false, false, false, false, false, false, false]
def zf46 : Array Bool := #[true, true, false, false, false, false, false, false, false, false, false]
def zf47 : Array Bool := #[true, true, false, true, false, false, false, false, false, false, false]
def zf48 : Array Bool := #[true, true, false, true, true, false, false, false, false, false, false]
def zf49 : Array Bool := #[true, true, false, true, true, true, false, false, false, false, false]
def zf50 : Array Bool := #[true, true, false, true, true, true, true, false, false, false, false]
def zf51 : Array Bool := #[true, true, true, true, true, true, true, true, true, false, false]
def zf52 : Array Bool := #[true, true, true, true, true, true, true, false, false, false, false]
def zf53 : Array Bool := #[true, true, false, true, true, true, true, true, false, false, false]
def zf54 : Array Bool := #[true, true, true, true, true, true, true, true, false, false, false]
def zf55 : Array Bool := #[true, true, false, true, true, true, true, true, true, false, false]
def zf56 : Array Bool := #[true, true, true, true, true, true, true, true, true, true, false]
def zf57 : Array Bool := #[true, true, true, true, true, true, true, true, true, true, true]
def zf58 : Array Bool := #[false, false, false, false, false, false, false, false, false, false, false, false, false, false, false, false, false, false]
def zf59 : Array Bool := #[true, false, false, false, false, false, false, false, false, false, false, false, false, false, false, false, false, false]
def zf60 : Array Bool := #[true, true, false, false, false, false, false, false, false, false, false, false, false, false, false, false, false, false]
def zf61 : Array Bool := #[true, true, false, true, false, false, false, false, false, false, false, false, false, false, false, false, false, false]
def zf62 : Array Bool := #[true, true, false, true, false, false, false, false, false, true, false, false, false, false, false, false, false, false]
def zf63 : Array Bool := #[true, true, false, true, false, false, false, false, false, true, false, true, false, false, false, false, false, false]
def zf64 : Array Bool := #[true, true, true, true, false, false, false, false, false, true, false, true, false, false, false, false, false, false]
def zf65 : Array Bool := #[true, true, true, true, true, false, false, false, false, true, false, true, false, false, false, false, false, false]
def zf66 : Array Bool := #[true, true, true, true, true, true, false, false, false, true, false, true, false, false, false, false, false, false]
def zf67 : Array Bool := #[true, true, true, true, true, true, true, false, false, true, false, true, false, false, false, false, false, false]
def zf68 : Array Bool := #[true, true, true, true, true, true, true, true, false, true, false, true, false, false, false, false, false, false]
def zf69 : Array Bool := #[true, true, true, true, true, true, true, true, true, true, false, true, false, false, false, false, false, false]
def zf70 : Array Bool := #[true, true, true, true, true, true, true, true, true, true, true, true, false, false, false, false, false, false]
def zf71 : Array Bool := #[true, true, true, true, true, true, true, true, true, true, true, true, true, false, false, false, false, false]
def zf72 : Array Bool := #[true, true, true, true, true, true, true, true, true, true, true, true, true, true, false, false, false, false]
def zf73 : Array Bool := #[true, true, true, true, true, true, true, true, true, true, true, true, true, true, true, false, false, false]
def zf74 : Array Bool := #[true, true, true, true, true, true, true, true, true, true, true, true, true, true, true, true, false, false]
def zf75 : Array Bool := #[true, true, true, true, true, true, true, true, true, true, true, true, true, true, true, true, true, false]
def zf76 : Array Bool := #[true, true, true, true, true, true, true, true, true, true, true, true, true, true, true, true, true, true]
end Go.Proofs.YtepnjhmdcaolkaaDoor.QFnExactWriteRequest
