-- A text of this session, printed by a program of its own (wip/tools: xpatch.py, xprint.sh, mkq.py). No condition.
import Derived.Test.YteflpfkfmohenaaGrow
import Derived.Test.YteflpfkfmohenaaProg
import Derived.Test.YteflpfkfmohenaaCap
import Derived.Laws.CopyOwn
import Derived.Below
import Derived.Deep.Draws
import Derived.Deep.AppendLies
import Derived.Maps.AppendAt
import Derived.OwnWalk
import Derived.Laws.BytesArg
import Derived.Laws.MakeOwn
import Derived.Laws.OwnMore
import Derived.Deep.OwnRows
import Derived.Tactics
import Derived.Lib.ConvBytes
import Derived.Laws.Slices
import Derived.WalkKit
import Derived.KernelRfl
import Derived.RowKit3
import Derived.Deep.LoopGhost
import Derived.Deep.QuietTactic
import Derived.BigQuiet
import Derived.WideLaws
import Derived.Deep.DeepCutAuto
import Derived.Deep.CutBlock
import Derived.Deep.RegionHeld3
import Derived.Laws.Rows
import Derived.Lib.AppendStr
import Derived.ArgAppend
import Derived.Laws.IdiomCopy
import Derived.OrdersHeld
import Derived.Laws.BitsLemmas
import Derived.RowKit
import Derived.Test.YteflpfkfmohenaaV0
namespace Go.Proofs.Yteflpfkfmohenaa.QFnExactRepairPlan
open Go.RowKit Go.Proofs.YteflpfkfmohenaaW.PrintWords Go.Proofs.YteflpfkfmohenaaW.PrintLast Go.Proofs.YteflpfkfmohenaaW.PrintMore
attribute [local go_sem] max2_int min2_int max_two min_two max_three min_three max_four min_four   -- for this text's walks alone
set_option linter.unusedVariables false
set_option linter.unusedSimpArgs false



def errW : Option Int → Value
  | none => .nilIface
  | some c => .iface 0 (.int .i64 c)
theorem errW_none : errW none = .nilIface := rfl
theorem errW_some (c : Int) : errW (some c) = .iface 0 (.int .i64 c) := rfl

theorem info2 : (Try.prog.info? 2).map (fun i => (i.zero, i.size, i.bytes)) = some (some (.int .i64 0), 1, 8) := by kernel_rfl
theorem info3 : (Try.prog.info? 3).map (fun i => (i.zero, i.size, i.bytes)) = some (some (.int .i64 0), 1, 8) := by kernel_rfl
theorem info4 : (Try.prog.info? 4).map (fun i => (i.zero, i.size, i.bytes)) = some (some (.bool false), 1, 1) := by kernel_rfl
theorem info77 : (Try.prog.info? 77).map (fun i => (i.zero, i.size, i.bytes)) = some (some (.slice none 0 0), 1, 24) := by kernel_rfl
-- the values' own types
def rd_L3 (xs : List (List Int)) (i : Int) : (List Int) := xs.getD i.toNat ([] : List Int)
theorem at_L3 {w : World} {A : Option Addr} {n : Nat} {xs : List (List Int)} (h : Kd.C (Kd.slice 5 (Kd.int .u8)) w A n xs) (i : Int) (h0 : 0 ≤ i) (h1 : i < n) : ∃ ad A0 c0, A = some ad ∧ w.cell? (ad.add i.toNat) = some (.slice A0 (rd_L3 xs i).length c0) ∧ (rd_L3 xs i).length ≤ c0 ∧ (Kd.int .u8).C w A0 (rd_L3 xs i).length (rd_L3 xs i) := by
  obtain ⟨ad, c, e, _, hK, hc0⟩ := Kd.C_get h ([] : List Int) i h0 h1
  have hc : ∀ j u, c[j]? = some u → w.cell? (ad.add (i.toNat * 1 + j)) = some u := hc0
  obtain ⟨A0, c0, rfl, l0, g0⟩ := hK
  exact ⟨ad, A0, c0, e, by have hq := hc 0 _ rfl; rwa [Nat.mul_one, Nat.add_zero] at hq, l0, g0⟩

/-! The flags of a region's operations. -/
def zf0 : Array Bool := #[false, false, false, false, false, false, false, false, false, false, false, false, false, false, false, false, false]
def zf1 : Array Bool := #[true, false, false, false, false, false, false, false, false, false, false, false, false, false, false, false, false]
def zf2 : Array Bool := #[true, true, false, false, false, false, false, false, false, false, false, false, false, false, false, false, false]
def zf3 : Array Bool := #[true, true, true, false, false, false, false, false, false, false, false, false, false, false, false, false, false]
def zf4 : Array Bool := #[true, true, true, false, true, false, false, false, false, false, false, false, false, false, false, false, false]
def zf5 : Array Bool := #[true, true, true, false, true, true, false, false, false, false, false, false, false, false, false, false, false]
def zf6 : Array Bool := #[true, true, true, false, true, true, true, false, false, false, false, false, false, false, false, false, false]
def zf7 : Array Bool := #[true, true, true, false, true, true, true, true, false, false, false, false, false, false, false, false, false]
def zf8 : Array Bool := #[true, true, true, false, true, true, true, true, true, false, false, false, false, false, false, false, false]
def zf9 : Array Bool := #[true, true, true, false, true, true, true, true, true, true, false, false, false, false, false, false, false]
def zf10 : Array Bool := #[true, true, true, false, true, true, true, true, true, true, true, false, false, false, false, false, false]
def zf11 : Array Bool := #[true, true, true, false, true, true, true, true, true, true, true, true, false, false, false, false, false]
def zf12 : Array Bool := #[true, true, true, true, true, true, true, true, true, true, true, true, false, false, false, false, false]
def zf13 : Array Bool := #[true, true, true, true, true, true, true, true, true, true, true, true, true, false, false, false, false]
def zf14 : Array Bool := #[true, true, true, true, true, true, true, true, true, true, true, true, true, true, false, false, false]
def zf15 : Array Bool := #[true, true, true, true, true, true, true, true, true, true, true, true, true, true, true, false, false]
def zf16 : Array Bool := #[true, true, true, true, true, true, true, true, true, true, true, true, true, true, true, true, false]
def zf17 : Array Bool := #[true, true, true, true, true, true, true, true, true, true, true, true, true, true, true, true, true]
def zf18 : Array Bool := #[false, false, false, false, false, false, false, false, false, false]
def zf19 : Array Bool := #[true, false, false, false, false, false, false, false, false, false]
def zf20 : Array Bool := #[true, true, false, false, false, false, false, false, false, false]
def zf21 : Array Bool := #[true, true, true, false, false, false, false, false, false, false]
def zf22 : Array Bool := #[true, true, true, true, false, false, false, false, false, false]
def zf23 : Array Bool := #[true, true, true, true, true, false, false, false, false, false]
def zf24 : Array Bool := #[true, true, true, true, true, true, false, false, false, false]
def zf25 : Array Bool := #[true, true, true, true, true, true, true, false, false, false]
def zf26 : Array Bool := #[true, true, true, true, true, true, true, true, false, false]
def zf27 : Array Bool := #[true, true, true, true, true, true, true, true, true, false]
def zf28 : Array Bool := #[true, true, true, true, true, true, true, true, true, true]
def zf29 : Array Bool := #[false, false, false, false, false, false, false, false, false, false, false, false, false, false]
def zf30 : Array Bool := #[true, false, false, false, false, false, false, false, false, false, false, false, false, false]
def zf31 : Array Bool := #[true, true, false, false, false, false, false, false, false, false, false, false, false, false]
def zf32 : Array Bool := #[true, true, true, false, false, false, false, false, false, false, false, false, false, false]
def zf33 : Array Bool := #[true, true, true, true, false, false, false, false, false, false, false, false, false, false]
def zf34 : Array Bool := #[true, true, true, true, true, false, false, false, false, false, false, false, false, false]
def zf35 : Array Bool := #[true, true, true, true, true, true, false, false, false, false, false, false, false, false]
def zf36 : Array Bool := #[true, true, true, true, true, true, true, false, false, false, false, false, false, false]
def zf37 : Array Bool := #[true, true, true, true, true, true, true, true, false, false, false, false, false, false]
def zf38 : Array Bool := #[true, true, true, true, true, true, true, true, true, false, false, false, false, false]
def zf39 : Array Bool := #[true, true, true, true, true, true, true, true, true, false, true, false, false, false]
def zf40 : Array Bool := #[true, true, true, true, true, true, true, true, true, true, true, false, false, false]
def zf41 : Array Bool := #[true, true, true, true, true, true, true, true, true, true, true, true, false, false]
def zf42 : Array Bool := #[true, true, true, true, true, true, true, true, true, true, true, true, true, false]
def zf43 : Array Bool := #[true, true, true, true, true, true, true, true, true, true, true, true, true, true]
def zf44 : Array Bool := #[false, false, false, false, false, false, false, false, false, false, false, false, false, false, false, false]
def zf45 : Array Bool := #[true, false, false, false, false, false, false, false, false, false, false, false, false, false, false, false]
def zf46 : Array Bool := #[true, false, true, false, false, false, false, false, false, false, false, false, false, false, false, false]
def zf47 : Array Bool := #[true, false, true, true, false, false, false, false, false, false, false, false, false, false, false, false]
def zf48 : Array Bool := #[true, false, true, true, false, false, true, false, false, false, false, false, false, false, false, false]
def zf49 : Array Bool := #[true, false, true, true, false, false, true, false, true, false, false, false, false, false, false, false]
def zf50 : Array Bool := #[true, false, true, true, false, false, true, false, true, false, true, false, false, false, false, false]
def zf51 : Array Bool := #[true, false, true, true, false, false, true, false, true, false, true, true, false, false, false, false]
def zf52 : Array Bool := #[true, true, true, true, false, false, true, false, true, false, true, true, false, false, false, false]
def zf53 : Array Bool := #[true, true, true, true, true, false, true, false, true, false, true, true, false, false, false, false]
def zf54 : Array Bool := #[true, true, true, true, true, true, true, false, true, false, true, true, false, false, false, false]
def zf55 : Array Bool := #[true, true, true, true, true, true, true, true, true, false, true, true, false, false, false, false]
def zf56 : Array Bool := #[true, true, true, true, true, true, true, true, true, true, true, true, false, false, false, false]
def zf57 : Array Bool := #[true, true, true, true, true, true, true, true, true, true, true, true, true, false, false, false]
def zf58 : Array Bool := #[true, true, true, true, true, true, true, true, true, true, true, true, true, true, false, false]
def zf59 : Array Bool := #[true, true, true, true, true, true, true, true, true, true, true, true, true, true, true, false]
def zf60 : Array Bool := #[true, true, true, true, true, true, true, true, true, true, true, true, true, true, true, true]
def zf61 : Array Bool := #[false, false, false, false, false, false, false, false, false, false, false, false, false, false, false, false, false, false, false, false, false]
def zf62 : Array Bool := #[true, false, false, false, false, false, false, false, false, false, false, false, false, false, false, false, false, false, false, false, false]
def zf63 : Array Bool := #[true, false, true, false, false, false, false, false, false, false, false, false, false, false, false, false, false, false, false, false, false]
def zf64 : Array Bool := #[true, false, true, true, false, false, false, false, false, false, false, false, false, false, false, false, false, false, false, false, false]
def zf65 : Array Bool := #[true, false, true, true, false, false, true, false, false, false, false, false, false, false, false, false, false, false, false, false, false]
def zf66 : Array Bool := #[true, false, true, true, false, false, true, false, false, true, false, false, false, false, false, false, false, false, false, false, false]
def zf67 : Array Bool := #[true, false, true, true, false, false, true, false, false, true, true, false, false, false, false, false, false, false, false, false, false]
def zf68 : Array Bool := #[true, false, true, true, false, false, true, false, false, true, true, false, true, false, false, false, false, false, false, false, false]
def zf69 : Array Bool := #[true, false, true, true, false, false, true, false, false, true, true, false, true, false, true, false, false, false, false, false, false]
def zf70 : Array Bool := #[true, false, true, true, false, false, true, false, false, true, true, false, true, false, true, true, false, false, false, false, false]
def zf71 : Array Bool := #[true, true, true, true, false, false, true, false, false, true, true, false, true, false, true, true, false, false, false, false, false]
def zf72 : Array Bool := #[true, true, true, true, true, false, true, false, false, true, true, false, true, false, true, true, false, false, false, false, false]
def zf73 : Array Bool := #[true, true, true, true, true, true, true, false, false, true, true, false, true, false, true, true, false, false, false, false, false]
def zf74 : Array Bool := #[true, true, true, true, true, true, true, true, false, true, true, false, true, false, true, true, false, false, false, false, false]
def zf75 : Array Bool := #[true, true, true, true, true, true, true, true, true, true, true, false, true, false, true, true, false, false, false, false, false]
def zf76 : Array Bool := #[true, true, true, true, true, true, true, true, true, true, true, false, true, true, true, true, false, false, false, false, false]
def zf77 : Array Bool := #[true, true, true, true, true, true, true, true, true, true, true, true, true, true, true, true, false, false, false, false, false]
def zf78 : Array Bool := #[true, true, true, true, true, true, true, true, true, true, true, true, true, true, true, true, true, false, false, false, false]
def zf79 : Array Bool := #[true, true, true, true, true, true, true, true, true, true, true, true, true, true, true, true, true, true, false, false, false]
def zf80 : Array Bool := #[true, true, true, true, true, true, true, true, true, true, true, true, true, true, true, true, true, true, true, false, false]
def zf81 : Array Bool := #[true, true, true, true, true, true, true, true, true, true, true, true, true, true, true, true, true, true, true, true, false]
def zf82 : Array Bool := #[true, true, true, true, true, true, true, true, true, true, true, true, true, true, true, true, true, true, true, true, true]
def zf83 : Array Bool := #[false, false, false, false, false, false, false, false, false, false, false]
def zf84 : Array Bool := #[true, false, false, false, false, false, false, false, false, false, false]
def zf85 : Array Bool := #[true, false, true, false, false, false, false, false, false, false, false]
def zf86 : Array Bool := #[true, false, true, false, false, true, false, false, false, false, false]
def zf87 : Array Bool := #[true, true, true, false, false, true, false, false, false, false, false]
def zf88 : Array Bool := #[true, true, true, true, false, true, false, false, false, false, false]
def zf89 : Array Bool := #[true, true, true, true, false, true, true, false, false, false, false]
def zf90 : Array Bool := #[true, true, true, true, true, true, true, true, true, true, false]
def zf91 : Array Bool := #[true, true, true, true, true, true, true, false, false, false, false]
def zf92 : Array Bool := #[true, true, true, true, false, true, true, false, false, true, false]
def zf93 : Array Bool := #[true, true, true, true, true, true, true, true, false, false, false]
def zf94 : Array Bool := #[true, true, true, true, true, true, true, false, false, true, false]
def zf95 : Array Bool := #[true, true, true, true, true, true, true, true, true, false, false]
def zf96 : Array Bool := #[true, true, true, true, true, true, true, true, false, true, false]
def zf97 : Array Bool := #[true, true, true, true, true, true, true, true, true, true, true]
def zf98 : Array Bool := #[false, false, false, false, false, false, false, false]
def zf99 : Array Bool := #[false, true, false, false, false, false, false, false]
def zf100 : Array Bool := #[false, true, false, false, true, false, false, false]
def zf101 : Array Bool := #[false, true, false, true, true, false, false, false]
def zf102 : Array Bool := #[true, true, false, true, true, false, false, false]
def zf103 : Array Bool := #[true, true, true, true, true, false, false, false]
def zf104 : Array Bool := #[true, true, true, true, true, true, false, false]
def zf105 : Array Bool := #[true, true, true, true, true, true, true, false]
def zf106 : Array Bool := #[true, true, true, true, true, true, true, true]
def zf107 : Array Bool := #[false, false, false, false, false, false, false, false, false, false, false, false, false, false, false, false, false, false, false, false]
def zf108 : Array Bool := #[true, false, false, false, false, false, false, false, false, false, false, false, false, false, false, false, false, false, false, false]
def zf109 : Array Bool := #[true, true, false, false, false, false, false, false, false, false, false, false, false, false, false, false, false, false, false, false]
def zf110 : Array Bool := #[true, true, true, false, false, false, false, false, false, false, false, false, false, false, false, false, false, false, false, false]
def zf111 : Array Bool := #[true, true, true, true, false, false, false, false, false, false, false, false, false, false, false, false, false, false, false, false]
def zf112 : Array Bool := #[true, true, true, true, true, false, false, false, false, false, false, false, false, false, false, false, false, false, false, false]
def zf113 : Array Bool := #[true, true, true, true, true, true, false, false, false, false, false, false, false, false, false, false, false, false, false, false]
def zf114 : Array Bool := #[true, true, true, true, true, true, true, false, false, false, false, false, false, false, false, false, false, false, false, false]
def zf115 : Array Bool := #[true, true, true, true, true, true, true, true, false, false, false, false, false, false, false, false, false, false, false, false]
def zf116 : Array Bool := #[true, true, true, true, true, true, true, true, true, false, false, false, false, false, false, false, false, false, false, false]
def zf117 : Array Bool := #[true, true, true, true, true, true, true, true, true, true, false, false, false, false, false, false, false, false, false, false]
def zf118 : Array Bool := #[true, true, true, true, true, true, true, true, true, true, true, false, false, false, false, false, false, false, false, false]
def zf119 : Array Bool := #[true, true, true, true, true, true, true, true, true, true, true, true, false, false, false, false, false, false, false, false]
def zf120 : Array Bool := #[true, true, true, true, true, true, true, true, true, true, true, true, true, false, false, false, false, false, false, false]
def zf121 : Array Bool := #[true, true, true, true, true, true, true, true, true, true, true, true, true, true, false, false, false, false, false, false]
def zf122 : Array Bool := #[true, true, true, true, true, true, true, true, true, true, true, true, true, true, true, false, false, false, false, false]
def zf123 : Array Bool := #[true, true, true, true, true, true, true, true, true, true, true, true, true, true, true, true, false, false, false, false]
def zf124 : Array Bool := #[true, true, true, true, true, true, true, true, true, true, true, true, true, true, true, true, true, false, false, false]
def zf125 : Array Bool := #[true, true, true, true, true, true, true, true, true, true, true, true, true, true, true, true, true, true, false, false]
def zf126 : Array Bool := #[true, true, true, true, true, true, true, true, true, true, true, true, true, true, true, true, true, true, true, false]
def zf127 : Array Bool := #[true, true, true, true, true, true, true, true, true, true, true, true, true, true, true, true, true, true, true, true]
def zf128 : Array Bool := #[true, true, false, false, false, false, false, false, false, false, false, false, false, false, false, false]
def zf129 : Array Bool := #[true, true, true, false, false, false, false, false, false, false, false, false, false, false, false, false]
def zf130 : Array Bool := #[true, true, true, true, false, false, false, false, false, false, false, false, false, false, false, false]
def zf131 : Array Bool := #[true, true, true, true, true, false, false, false, false, false, false, false, false, false, false, false]
def zf132 : Array Bool := #[true, true, true, true, true, true, false, false, false, false, false, false, false, false, false, false]
def zf133 : Array Bool := #[true, true, true, true, true, true, true, false, false, false, false, false, false, false, false, false]
def zf134 : Array Bool := #[true, true, true, true, true, true, true, true, false, false, false, false, false, false, false, false]
def zf135 : Array Bool := #[true, true, true, true, true, true, true, true, true, false, false, false, false, false, false, false]
def zf136 : Array Bool := #[true, true, true, true, true, true, true, true, true, true, false, false, false, false, false, false]
def zf137 : Array Bool := #[true, true, true, true, true, true, true, true, true, true, true, false, false, false, false, false]
def zf138 : Array Bool := #[true, true, true, true, true, true, true, true, true, true, true, true, false, true, false, false]
def zf139 : Array Bool := #[true, true, false, false, false, false, false, false, false, false, false]
def zf140 : Array Bool := #[true, true, true, false, false, false, false, false, false, false, false]
def zf141 : Array Bool := #[true, true, true, true, false, false, false, false, false, false, false]
def zf142 : Array Bool := #[true, true, true, true, true, false, false, false, false, false, false]
def zf143 : Array Bool := #[true, true, true, true, true, true, false, false, false, false, false]
def zf144 : Array Bool := #[true, true, true, true, false, false, false, false, false, false, false, false, false, false, false, false, false]
def zf145 : Array Bool := #[true, true, true, true, true, false, false, false, false, false, false, false, false, false, false, false, false]
def zf146 : Array Bool := #[true, true, true, true, true, true, false, false, false, false, false, false, false, false, false, false, false]
def zf147 : Array Bool := #[true, true, true, true, true, true, true, false, false, false, false, false, false, false, false, false, false]
def zf148 : Array Bool := #[true, true, true, true, true, true, true, true, false, false, false, false, false, false, false, false, false]
def zf149 : Array Bool := #[true, true, true, true, true, true, true, true, true, false, false, false, false, false, false, false, false]
def zf150 : Array Bool := #[true, true, true, true, true, true, true, true, true, true, false, false, false, false, false, false, false]
def zf151 : Array Bool := #[true, true, true, true, true, true, true, true, true, true, true, false, false, false, false, false, false]
end Go.Proofs.Yteflpfkfmohenaa.QFnExactRepairPlan
