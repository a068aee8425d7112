/-
  DERIVED. GIVEN WITH THE SEED: THE CARDS: each row of YteahfcbalmlklaaGreatDoorRows.lean that lists a variable, with what it lists TIED to the program's text (the seventh form; the later family's looks); each row that meets fmt, with fmt's text TOLD by the authors' own Lean function (tested against real Go, not proved from fmt's source: count such statements apart). THE CARD IS WHAT COUNTS. Prove the row's statement (the work); the ties are given (YteahfcbalmlklaaGreatDoorTie.lean); close each card by the builder's one call (the guide's Derived/Test/ToyasCard.lean, 'card_holds'). Laid BY PROGRAM, IN A SANDBOX (cutbox-door.mjs). By AI agents, Wed Nov 11 2026. No macro, syntax, notation, axiom, sorry.
-/
import Derived.Test.YteahfcbalmlklaaGreatDoorRows
import GoSem.ClaimSeven
namespace Go.Proofs.YteahfcbalmlklaaGreatDoor
namespace Rows

/-- THE TIED CARD OF 'laws.FnExactDropFree'. -/
def fnExactDropFreeCard : Claim7 := { stood := { row := fnExactDropFreeRow, standIns := [], harness := (true, "718f944642588179053f01dbf35b8d9eb9817389ccc4e7420a99088a3b00f673"), looks := false }, kinds := [], alts := [], laidByText := true, laidKinds := [.data, .pinned], laidTests := true, laidLooks := .later }
def FnExactDropFreeCardSaid : Prop := Claim7.holds Tryz.pinned (.plain (OpenSpec.ofChange fnExactDropFreeSpec)) fnExactDropFreeCard

/-- THE TIED CARD OF 'laws.FnDropFree'. -/
def fnDropFreeCard : Claim7 := { stood := { row := fnDropFreeRow, standIns := [], harness := (true, "718f944642588179053f01dbf35b8d9eb9817389ccc4e7420a99088a3b00f673"), looks := false }, kinds := [], alts := [], laidByText := true, laidKinds := [.data, .pinned], laidTests := true, laidLooks := .later }
def FnDropFreeCardSaid : Prop := Claim7.holds Tryz.pinned (.plain (OpenSpec.ofChange fnDropFreeSpec)) fnDropFreeCard

/-- THE TIED CARD OF 'laws.FnDropFreeNot'. -/
def fnDropFreeNotCard : Claim7 := { stood := { row := fnDropFreeNotRow, standIns := [], harness := (true, "718f944642588179053f01dbf35b8d9eb9817389ccc4e7420a99088a3b00f673"), looks := false }, kinds := [], alts := [], laidByText := true, laidKinds := [.data, .pinned], laidTests := true, laidLooks := .later }
def FnDropFreeNotCardSaid : Prop := Claim7.holds Tryz.pinned (.plain (OpenSpec.ofChange fnDropFreeNotSpec)) fnDropFreeNotCard

/-- THE SECOND FORM's CARD OF 'laws.FnExactDropFree'. -/
def fnExactDropFreeUptoCard : Claim7 := { stood := { row := fnExactDropFreeUptoRow, standIns := [], harness := (true, "718f944642588179053f01dbf35b8d9eb9817389ccc4e7420a99088a3b00f673"), looks := false }, kinds := [], alts := [], laidByText := true, laidKinds := [.data, .pinned], laidTests := true, laidLooks := .later }
def FnExactDropFreeUptoCardSaid : Prop := Claim7.holds Tryz.pinned (.plain (OpenSpec.upto fnExactDropFreeSpec)) fnExactDropFreeUptoCard

/-- THE SECOND FORM's CARD OF 'laws.FnDropFree'. -/
def fnDropFreeUptoCard : Claim7 := { stood := { row := fnDropFreeUptoRow, standIns := [], harness := (true, "718f944642588179053f01dbf35b8d9eb9817389ccc4e7420a99088a3b00f673"), looks := false }, kinds := [], alts := [], laidByText := true, laidKinds := [.data, .pinned], laidTests := true, laidLooks := .later }
def FnDropFreeUptoCardSaid : Prop := Claim7.holds Tryz.pinned (.plain (OpenSpec.upto fnDropFreeSpec)) fnDropFreeUptoCard

/-- THE SECOND FORM's CARD OF 'laws.FnDropFreeNot'. -/
def fnDropFreeNotUptoCard : Claim7 := { stood := { row := fnDropFreeNotUptoRow, standIns := [], harness := (true, "718f944642588179053f01dbf35b8d9eb9817389ccc4e7420a99088a3b00f673"), looks := false }, kinds := [], alts := [], laidByText := true, laidKinds := [.data, .pinned], laidTests := true, laidLooks := .later }
def FnDropFreeNotUptoCardSaid : Prop := Claim7.holds Tryz.pinned (.plain (OpenSpec.upto fnDropFreeNotSpec)) fnDropFreeNotUptoCard
end Rows
end Go.Proofs.YteahfcbalmlklaaGreatDoor
