/-
  DERIVED. GIVEN WITH THE SEED: THE CARDS: each row of YtepnjhmdcaolkaaDoorRows.lean that lists a variable, with what it lists TIED to the program's text (the seventh form; the later family's looks); each row that meets fmt, with fmt's text TOLD by the authors' own Lean function (tested against real Go, not proved from fmt's source: count such statements apart). THE CARD IS WHAT COUNTS. Prove the row's statement (the work); the ties are given (YtepnjhmdcaolkaaDoorTie.lean); close each card by the builder's one call (the guide's Derived/Test/ToyasCard.lean, 'card_holds'). Laid BY PROGRAM, IN A SANDBOX (cutbox-door.mjs). By AI agents, Wed Nov 11 2026. No macro, syntax, notation, axiom, sorry.
-/
import Derived.Test.YtepnjhmdcaolkaaDoorRows
import GoSem.ClaimSeven
namespace Go.Proofs.YtepnjhmdcaolkaaDoor
namespace Rows

/-- THE TIED CARD OF 'laws.FnExactRequestFault'. -/
def fnExactRequestFaultCard : Claim7 := { stood := { row := fnExactRequestFaultRow, standIns := [], harness := (true, "da861065c72455c79dde11ece6179af63e849f4502bbc74f1a37d5201f2afe0b"), looks := true }, kinds := [], alts := [], laidByText := true, laidKinds := [.data, .pinned], laidTests := true, laidLooks := .later }
def FnExactRequestFaultCardSaid : Prop := Claim7.holds Tryd.pinned (.plain (OpenSpec.ofChange fnExactRequestFaultSpec)) fnExactRequestFaultCard

/-- THE TIED CARD OF 'laws.FnExactWritePolicy'. -/
def fnExactWritePolicyCard : Claim7 := { stood := { row := fnExactWritePolicyRow, standIns := [], harness := (true, "da861065c72455c79dde11ece6179af63e849f4502bbc74f1a37d5201f2afe0b"), looks := true }, kinds := [], alts := [], laidByText := true, laidKinds := [.data, .data, .data], laidTests := true, laidLooks := .later }
def FnExactWritePolicyCardSaid : Prop := Claim7.holds Tryd.pinned (.plain (OpenSpec.ofChange fnExactWritePolicySpec)) fnExactWritePolicyCard

/-- THE TIED CARD OF 'laws.FnExactWriteRequest'. -/
def fnExactWriteRequestCard : Claim7 := { stood := { row := fnExactWriteRequestRow, standIns := [], harness := (true, "da861065c72455c79dde11ece6179af63e849f4502bbc74f1a37d5201f2afe0b"), looks := true }, kinds := [], alts := [], laidByText := true, laidKinds := [.data, .data, .data, .data, .pinned], laidTests := true, laidLooks := .later }
def FnExactWriteRequestCardSaid : Prop := Claim7.holds Tryd.pinned (.plain (OpenSpec.ofChange fnExactWriteRequestSpec)) fnExactWriteRequestCard

/-- THE SECOND FORM's CARD OF 'laws.FnExactRequestFault'. -/
def fnExactRequestFaultUptoCard : Claim7 := { stood := { row := fnExactRequestFaultUptoRow, standIns := [], harness := (true, "da861065c72455c79dde11ece6179af63e849f4502bbc74f1a37d5201f2afe0b"), looks := true }, kinds := [], alts := [], laidByText := true, laidKinds := [.data, .pinned], laidTests := true, laidLooks := .later }
def FnExactRequestFaultUptoCardSaid : Prop := Claim7.holds Tryd.pinned (.plain (OpenSpec.upto fnExactRequestFaultSpec)) fnExactRequestFaultUptoCard

/-- THE SECOND FORM's CARD OF 'laws.FnExactWritePolicy'. -/
def fnExactWritePolicyUptoCard : Claim7 := { stood := { row := fnExactWritePolicyUptoRow, standIns := [], harness := (true, "da861065c72455c79dde11ece6179af63e849f4502bbc74f1a37d5201f2afe0b"), looks := true }, kinds := [], alts := [], laidByText := true, laidKinds := [.data, .data, .data], laidTests := true, laidLooks := .later }
def FnExactWritePolicyUptoCardSaid : Prop := Claim7.holds Tryd.pinned (.plain (OpenSpec.upto fnExactWritePolicySpec)) fnExactWritePolicyUptoCard

/-- THE SECOND FORM's CARD OF 'laws.FnExactWriteRequest'. -/
def fnExactWriteRequestUptoCard : Claim7 := { stood := { row := fnExactWriteRequestUptoRow, standIns := [], harness := (true, "da861065c72455c79dde11ece6179af63e849f4502bbc74f1a37d5201f2afe0b"), looks := true }, kinds := [], alts := [], laidByText := true, laidKinds := [.data, .data, .data, .data, .pinned], laidTests := true, laidLooks := .later }
def FnExactWriteRequestUptoCardSaid : Prop := Claim7.holds Tryd.pinned (.plain (OpenSpec.upto fnExactWriteRequestSpec)) fnExactWriteRequestUptoCard
end Rows
end Go.Proofs.YtepnjhmdcaolkaaDoor
