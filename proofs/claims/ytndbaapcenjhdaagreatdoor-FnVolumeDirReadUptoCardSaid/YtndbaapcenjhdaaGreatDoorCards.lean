/-
  DERIVED. GIVEN WITH THE SEED: THE CARDS: each row of YtndbaapcenjhdaaGreatDoorRows.lean that lists a variable, with what it lists TIED to the program's text (the seventh form; the later family's looks); each row that meets fmt, with fmt's text TOLD by the authors' own Lean function (tested against real Go, not proved from fmt's source: count such statements apart). THE CARD IS WHAT COUNTS. Prove the row's statement (the work); the ties are given (YtndbaapcenjhdaaGreatDoorTie.lean); close each card by the builder's one call (the guide's Derived/Test/ToyasCard.lean, 'card_holds'). Laid BY PROGRAM, IN A SANDBOX (cutbox-door.mjs). By AI agents, Wed Nov 11 2026. No macro, syntax, notation, axiom, sorry.
-/
import Derived.Test.YtndbaapcenjhdaaGreatDoorRows
import GoSem.ClaimSeven
namespace Go.Proofs.YtndbaapcenjhdaaGreatDoor
namespace Rows

/-- THE TIED CARD OF 'laws.FnVolumeWrite'. -/
def fnVolumeWriteCard : Claim7 := { stood := { row := fnVolumeWriteRow, standIns := [], harness := (true, "50154df222d69fe245a81e901d9675c60e613187dbb767e1b14a8f7342053393"), looks := false }, kinds := [], alts := [], laidByText := true, laidKinds := [.data, .pinned], laidTests := true, laidLooks := .later }
def FnVolumeWriteCardSaid : Prop := Claim7.holds Tryz.pinned (.plain (OpenSpec.ofChange fnVolumeWriteSpec)) fnVolumeWriteCard

/-- THE TIED CARD OF 'laws.FnVolumeWriteDrop'. -/
def fnVolumeWriteDropCard : Claim7 := { stood := { row := fnVolumeWriteDropRow, standIns := [], harness := (true, "50154df222d69fe245a81e901d9675c60e613187dbb767e1b14a8f7342053393"), looks := false }, kinds := [], alts := [], laidByText := true, laidKinds := [.data, .pinned], laidTests := true, laidLooks := .later }
def FnVolumeWriteDropCardSaid : Prop := Claim7.holds Tryz.pinned (.plain (OpenSpec.ofChange fnVolumeWriteDropSpec)) fnVolumeWriteDropCard

/-- THE TIED CARD OF 'laws.FnVolumeDirRead'. -/
def fnVolumeDirReadCard : Claim7 := { stood := { row := fnVolumeDirReadRow, standIns := [], harness := (true, "50154df222d69fe245a81e901d9675c60e613187dbb767e1b14a8f7342053393"), looks := false }, kinds := [], alts := [], laidByText := true, laidKinds := [.data, .pinned], laidTests := true, laidLooks := .later }
def FnVolumeDirReadCardSaid : Prop := Claim7.holds Tryz.pinned (.plain (OpenSpec.ofChange fnVolumeDirReadSpec)) fnVolumeDirReadCard

/-- THE TIED CARD OF 'laws.FnExactSnapTake'. -/
def fnExactSnapTakeCard : Claim7 := { stood := { row := fnExactSnapTakeRow, standIns := [], harness := (true, "50154df222d69fe245a81e901d9675c60e613187dbb767e1b14a8f7342053393"), looks := false }, kinds := [], alts := [], laidByText := true, laidKinds := [.data, .pinned], laidTests := true, laidLooks := .later }
def FnExactSnapTakeCardSaid : Prop := Claim7.holds Tryz.pinned (.plain (OpenSpec.ofChange fnExactSnapTakeSpec)) fnExactSnapTakeCard

/-- THE SECOND FORM's CARD OF 'laws.FnVolumeWrite'. -/
def fnVolumeWriteUptoCard : Claim7 := { stood := { row := fnVolumeWriteUptoRow, standIns := [], harness := (true, "50154df222d69fe245a81e901d9675c60e613187dbb767e1b14a8f7342053393"), looks := false }, kinds := [], alts := [], laidByText := true, laidKinds := [.data, .pinned], laidTests := true, laidLooks := .later }
def FnVolumeWriteUptoCardSaid : Prop := Claim7.holds Tryz.pinned (.plain (OpenSpec.upto fnVolumeWriteSpec)) fnVolumeWriteUptoCard

/-- THE SECOND FORM's CARD OF 'laws.FnVolumeWriteDrop'. -/
def fnVolumeWriteDropUptoCard : Claim7 := { stood := { row := fnVolumeWriteDropUptoRow, standIns := [], harness := (true, "50154df222d69fe245a81e901d9675c60e613187dbb767e1b14a8f7342053393"), looks := false }, kinds := [], alts := [], laidByText := true, laidKinds := [.data, .pinned], laidTests := true, laidLooks := .later }
def FnVolumeWriteDropUptoCardSaid : Prop := Claim7.holds Tryz.pinned (.plain (OpenSpec.upto fnVolumeWriteDropSpec)) fnVolumeWriteDropUptoCard

/-- THE SECOND FORM's CARD OF 'laws.FnVolumeDirRead'. -/
def fnVolumeDirReadUptoCard : Claim7 := { stood := { row := fnVolumeDirReadUptoRow, standIns := [], harness := (true, "50154df222d69fe245a81e901d9675c60e613187dbb767e1b14a8f7342053393"), looks := false }, kinds := [], alts := [], laidByText := true, laidKinds := [.data, .pinned], laidTests := true, laidLooks := .later }
def FnVolumeDirReadUptoCardSaid : Prop := Claim7.holds Tryz.pinned (.plain (OpenSpec.upto fnVolumeDirReadSpec)) fnVolumeDirReadUptoCard

/-- THE SECOND FORM's CARD OF 'laws.FnExactSnapTake'. -/
def fnExactSnapTakeUptoCard : Claim7 := { stood := { row := fnExactSnapTakeUptoRow, standIns := [], harness := (true, "50154df222d69fe245a81e901d9675c60e613187dbb767e1b14a8f7342053393"), looks := false }, kinds := [], alts := [], laidByText := true, laidKinds := [.data, .pinned], laidTests := true, laidLooks := .later }
def FnExactSnapTakeUptoCardSaid : Prop := Claim7.holds Tryz.pinned (.plain (OpenSpec.upto fnExactSnapTakeSpec)) fnExactSnapTakeUptoCard
end Rows
end Go.Proofs.YtndbaapcenjhdaaGreatDoor
