/-
  DERIVED. GIVEN WITH THE SEED: THE CARDS: each row of YtbhkgogeoafjjaaGreatDoorRows.lean that lists a variable, with what it lists TIED to the program's text (the seventh form; the later family's looks); each row that meets fmt, with fmt's text TOLD by the authors' own Lean function (tested against real Go, not proved from fmt's source: count such statements apart). THE CARD IS WHAT COUNTS. Prove the row's statement (the work); the ties are given (YtbhkgogeoafjjaaGreatDoorTie.lean); close each card by the builder's one call (the guide's Derived/Test/ToyasCard.lean, 'card_holds'). Laid BY PROGRAM, IN A SANDBOX (cutbox-door.mjs). By AI agents, Wed Nov 11 2026. No macro, syntax, notation, axiom, sorry.
-/
import Derived.Test.YtbhkgogeoafjjaaGreatDoorRows
import GoSem.ClaimSeven
namespace Go.Proofs.YtbhkgogeoafjjaaGreatDoor
namespace Rows

/-- THE TIED CARD OF 'laws.FnExactSnapDrop'. -/
def fnExactSnapDropCard : Claim7 := { stood := { row := fnExactSnapDropRow, standIns := [], harness := (true, "72500ccbdb650097a5e94cef0033c8d8ca5c5c6b8ac668af99a3168403793fa5"), looks := false }, kinds := [], alts := [], laidByText := true, laidKinds := [.data, .pinned], laidTests := true, laidLooks := .later }
def FnExactSnapDropCardSaid : Prop := Claim7.holds Tryz.pinned (.plain (OpenSpec.ofChange fnExactSnapDropSpec)) fnExactSnapDropCard

/-- THE TIED CARD OF 'laws.FnExactVolumeWrite'. -/
def fnExactVolumeWriteCard : Claim7 := { stood := { row := fnExactVolumeWriteRow, standIns := [], harness := (true, "72500ccbdb650097a5e94cef0033c8d8ca5c5c6b8ac668af99a3168403793fa5"), looks := false }, kinds := [], alts := [], laidByText := true, laidKinds := [.data, .pinned], laidTests := true, laidLooks := .later }
def FnExactVolumeWriteCardSaid : Prop := Claim7.holds Tryz.pinned (.plain (OpenSpec.ofChange fnExactVolumeWriteSpec)) fnExactVolumeWriteCard

/-- THE TIED CARD OF 'laws.FnSnapTake'. -/
def fnSnapTakeCard : Claim7 := { stood := { row := fnSnapTakeRow, standIns := [], harness := (true, "72500ccbdb650097a5e94cef0033c8d8ca5c5c6b8ac668af99a3168403793fa5"), looks := false }, kinds := [], alts := [], laidByText := true, laidKinds := [.data, .pinned], laidTests := true, laidLooks := .later }
def FnSnapTakeCardSaid : Prop := Claim7.holds Tryz.pinned (.plain (OpenSpec.ofChange fnSnapTakeSpec)) fnSnapTakeCard

/-- THE TIED CARD OF 'laws.FnExactSnapBack'. -/
def fnExactSnapBackCard : Claim7 := { stood := { row := fnExactSnapBackRow, standIns := [], harness := (true, "72500ccbdb650097a5e94cef0033c8d8ca5c5c6b8ac668af99a3168403793fa5"), looks := false }, kinds := [], alts := [], laidByText := true, laidKinds := [.data, .pinned], laidTests := true, laidLooks := .later }
def FnExactSnapBackCardSaid : Prop := Claim7.holds Tryz.pinned (.plain (OpenSpec.ofChange fnExactSnapBackSpec)) fnExactSnapBackCard

/-- THE TIED CARD OF 'laws.FnSnapBackTwice'. -/
def fnSnapBackTwiceCard : Claim7 := { stood := { row := fnSnapBackTwiceRow, standIns := [], harness := (true, "72500ccbdb650097a5e94cef0033c8d8ca5c5c6b8ac668af99a3168403793fa5"), looks := false }, kinds := [], alts := [], laidByText := true, laidKinds := [.data, .pinned], laidTests := true, laidLooks := .later }
def FnSnapBackTwiceCardSaid : Prop := Claim7.holds Tryz.pinned (.plain (OpenSpec.ofChange fnSnapBackTwiceSpec)) fnSnapBackTwiceCard

/-- THE TIED CARD OF 'laws.FnSnapBack'. -/
def fnSnapBackCard : Claim7 := { stood := { row := fnSnapBackRow, standIns := [], harness := (true, "72500ccbdb650097a5e94cef0033c8d8ca5c5c6b8ac668af99a3168403793fa5"), looks := false }, kinds := [], alts := [], laidByText := true, laidKinds := [.data, .pinned], laidTests := true, laidLooks := .later }
def FnSnapBackCardSaid : Prop := Claim7.holds Tryz.pinned (.plain (OpenSpec.ofChange fnSnapBackSpec)) fnSnapBackCard

/-- THE TIED CARD OF 'laws.FnSnapBackTake'. -/
def fnSnapBackTakeCard : Claim7 := { stood := { row := fnSnapBackTakeRow, standIns := [], harness := (true, "72500ccbdb650097a5e94cef0033c8d8ca5c5c6b8ac668af99a3168403793fa5"), looks := false }, kinds := [], alts := [], laidByText := true, laidKinds := [.data, .pinned], laidTests := true, laidLooks := .later }
def FnSnapBackTakeCardSaid : Prop := Claim7.holds Tryz.pinned (.plain (OpenSpec.ofChange fnSnapBackTakeSpec)) fnSnapBackTakeCard

/-- THE TIED CARD OF 'laws.FnSnapTakeDrop'. -/
def fnSnapTakeDropCard : Claim7 := { stood := { row := fnSnapTakeDropRow, standIns := [], harness := (true, "72500ccbdb650097a5e94cef0033c8d8ca5c5c6b8ac668af99a3168403793fa5"), looks := false }, kinds := [], alts := [], laidByText := true, laidKinds := [.data, .pinned], laidTests := true, laidLooks := .later }
def FnSnapTakeDropCardSaid : Prop := Claim7.holds Tryz.pinned (.plain (OpenSpec.ofChange fnSnapTakeDropSpec)) fnSnapTakeDropCard

/-- THE TIED CARD OF 'laws.FnSnapDrop'. -/
def fnSnapDropCard : Claim7 := { stood := { row := fnSnapDropRow, standIns := [], harness := (true, "72500ccbdb650097a5e94cef0033c8d8ca5c5c6b8ac668af99a3168403793fa5"), looks := false }, kinds := [], alts := [], laidByText := true, laidKinds := [.data, .pinned], laidTests := true, laidLooks := .later }
def FnSnapDropCardSaid : Prop := Claim7.holds Tryz.pinned (.plain (OpenSpec.ofChange fnSnapDropSpec)) fnSnapDropCard

/-- THE TIED CARD OF 'laws.FnDiskWrite'. -/
def fnDiskWriteCard : Claim7 := { stood := { row := fnDiskWriteRow, standIns := [], harness := (true, "72500ccbdb650097a5e94cef0033c8d8ca5c5c6b8ac668af99a3168403793fa5"), looks := false }, kinds := [], alts := [], laidByText := true, laidKinds := [.data, .pinned], laidTests := true, laidLooks := .later }
def FnDiskWriteCardSaid : Prop := Claim7.holds Tryz.pinned (.plain (OpenSpec.ofChange fnDiskWriteSpec)) fnDiskWriteCard

/-- THE TIED CARD OF 'laws.FnDiskWriteSnaps'. -/
def fnDiskWriteSnapsCard : Claim7 := { stood := { row := fnDiskWriteSnapsRow, standIns := [], harness := (true, "72500ccbdb650097a5e94cef0033c8d8ca5c5c6b8ac668af99a3168403793fa5"), looks := false }, kinds := [], alts := [], laidByText := true, laidKinds := [.data, .pinned], laidTests := true, laidLooks := .later }
def FnDiskWriteSnapsCardSaid : Prop := Claim7.holds Tryz.pinned (.plain (OpenSpec.ofChange fnDiskWriteSnapsSpec)) fnDiskWriteSnapsCard

/-- THE TIED CARD OF 'laws.FnExactDiskWrite'. -/
def fnExactDiskWriteCard : Claim7 := { stood := { row := fnExactDiskWriteRow, standIns := [], harness := (true, "72500ccbdb650097a5e94cef0033c8d8ca5c5c6b8ac668af99a3168403793fa5"), looks := false }, kinds := [], alts := [], laidByText := true, laidKinds := [.data, .pinned], laidTests := true, laidLooks := .later }
def FnExactDiskWriteCardSaid : Prop := Claim7.holds Tryz.pinned (.plain (OpenSpec.ofChange fnExactDiskWriteSpec)) fnExactDiskWriteCard

/-- THE SECOND FORM's CARD OF 'laws.FnExactSnapDrop'. -/
def fnExactSnapDropUptoCard : Claim7 := { stood := { row := fnExactSnapDropUptoRow, standIns := [], harness := (true, "72500ccbdb650097a5e94cef0033c8d8ca5c5c6b8ac668af99a3168403793fa5"), looks := false }, kinds := [], alts := [], laidByText := true, laidKinds := [.data, .pinned], laidTests := true, laidLooks := .later }
def FnExactSnapDropUptoCardSaid : Prop := Claim7.holds Tryz.pinned (.plain (OpenSpec.upto fnExactSnapDropSpec)) fnExactSnapDropUptoCard

/-- THE SECOND FORM's CARD OF 'laws.FnExactVolumeWrite'. -/
def fnExactVolumeWriteUptoCard : Claim7 := { stood := { row := fnExactVolumeWriteUptoRow, standIns := [], harness := (true, "72500ccbdb650097a5e94cef0033c8d8ca5c5c6b8ac668af99a3168403793fa5"), looks := false }, kinds := [], alts := [], laidByText := true, laidKinds := [.data, .pinned], laidTests := true, laidLooks := .later }
def FnExactVolumeWriteUptoCardSaid : Prop := Claim7.holds Tryz.pinned (.plain (OpenSpec.upto fnExactVolumeWriteSpec)) fnExactVolumeWriteUptoCard

/-- THE SECOND FORM's CARD OF 'laws.FnSnapTake'. -/
def fnSnapTakeUptoCard : Claim7 := { stood := { row := fnSnapTakeUptoRow, standIns := [], harness := (true, "72500ccbdb650097a5e94cef0033c8d8ca5c5c6b8ac668af99a3168403793fa5"), looks := false }, kinds := [], alts := [], laidByText := true, laidKinds := [.data, .pinned], laidTests := true, laidLooks := .later }
def FnSnapTakeUptoCardSaid : Prop := Claim7.holds Tryz.pinned (.plain (OpenSpec.upto fnSnapTakeSpec)) fnSnapTakeUptoCard

/-- THE SECOND FORM's CARD OF 'laws.FnExactSnapBack'. -/
def fnExactSnapBackUptoCard : Claim7 := { stood := { row := fnExactSnapBackUptoRow, standIns := [], harness := (true, "72500ccbdb650097a5e94cef0033c8d8ca5c5c6b8ac668af99a3168403793fa5"), looks := false }, kinds := [], alts := [], laidByText := true, laidKinds := [.data, .pinned], laidTests := true, laidLooks := .later }
def FnExactSnapBackUptoCardSaid : Prop := Claim7.holds Tryz.pinned (.plain (OpenSpec.upto fnExactSnapBackSpec)) fnExactSnapBackUptoCard

/-- THE SECOND FORM's CARD OF 'laws.FnSnapBackTwice'. -/
def fnSnapBackTwiceUptoCard : Claim7 := { stood := { row := fnSnapBackTwiceUptoRow, standIns := [], harness := (true, "72500ccbdb650097a5e94cef0033c8d8ca5c5c6b8ac668af99a3168403793fa5"), looks := false }, kinds := [], alts := [], laidByText := true, laidKinds := [.data, .pinned], laidTests := true, laidLooks := .later }
def FnSnapBackTwiceUptoCardSaid : Prop := Claim7.holds Tryz.pinned (.plain (OpenSpec.upto fnSnapBackTwiceSpec)) fnSnapBackTwiceUptoCard

/-- THE SECOND FORM's CARD OF 'laws.FnSnapBack'. -/
def fnSnapBackUptoCard : Claim7 := { stood := { row := fnSnapBackUptoRow, standIns := [], harness := (true, "72500ccbdb650097a5e94cef0033c8d8ca5c5c6b8ac668af99a3168403793fa5"), looks := false }, kinds := [], alts := [], laidByText := true, laidKinds := [.data, .pinned], laidTests := true, laidLooks := .later }
def FnSnapBackUptoCardSaid : Prop := Claim7.holds Tryz.pinned (.plain (OpenSpec.upto fnSnapBackSpec)) fnSnapBackUptoCard

/-- THE SECOND FORM's CARD OF 'laws.FnSnapBackTake'. -/
def fnSnapBackTakeUptoCard : Claim7 := { stood := { row := fnSnapBackTakeUptoRow, standIns := [], harness := (true, "72500ccbdb650097a5e94cef0033c8d8ca5c5c6b8ac668af99a3168403793fa5"), looks := false }, kinds := [], alts := [], laidByText := true, laidKinds := [.data, .pinned], laidTests := true, laidLooks := .later }
def FnSnapBackTakeUptoCardSaid : Prop := Claim7.holds Tryz.pinned (.plain (OpenSpec.upto fnSnapBackTakeSpec)) fnSnapBackTakeUptoCard

/-- THE SECOND FORM's CARD OF 'laws.FnSnapTakeDrop'. -/
def fnSnapTakeDropUptoCard : Claim7 := { stood := { row := fnSnapTakeDropUptoRow, standIns := [], harness := (true, "72500ccbdb650097a5e94cef0033c8d8ca5c5c6b8ac668af99a3168403793fa5"), looks := false }, kinds := [], alts := [], laidByText := true, laidKinds := [.data, .pinned], laidTests := true, laidLooks := .later }
def FnSnapTakeDropUptoCardSaid : Prop := Claim7.holds Tryz.pinned (.plain (OpenSpec.upto fnSnapTakeDropSpec)) fnSnapTakeDropUptoCard

/-- THE SECOND FORM's CARD OF 'laws.FnSnapDrop'. -/
def fnSnapDropUptoCard : Claim7 := { stood := { row := fnSnapDropUptoRow, standIns := [], harness := (true, "72500ccbdb650097a5e94cef0033c8d8ca5c5c6b8ac668af99a3168403793fa5"), looks := false }, kinds := [], alts := [], laidByText := true, laidKinds := [.data, .pinned], laidTests := true, laidLooks := .later }
def FnSnapDropUptoCardSaid : Prop := Claim7.holds Tryz.pinned (.plain (OpenSpec.upto fnSnapDropSpec)) fnSnapDropUptoCard

/-- THE SECOND FORM's CARD OF 'laws.FnDiskWrite'. -/
def fnDiskWriteUptoCard : Claim7 := { stood := { row := fnDiskWriteUptoRow, standIns := [], harness := (true, "72500ccbdb650097a5e94cef0033c8d8ca5c5c6b8ac668af99a3168403793fa5"), looks := false }, kinds := [], alts := [], laidByText := true, laidKinds := [.data, .pinned], laidTests := true, laidLooks := .later }
def FnDiskWriteUptoCardSaid : Prop := Claim7.holds Tryz.pinned (.plain (OpenSpec.upto fnDiskWriteSpec)) fnDiskWriteUptoCard

/-- THE SECOND FORM's CARD OF 'laws.FnDiskWriteSnaps'. -/
def fnDiskWriteSnapsUptoCard : Claim7 := { stood := { row := fnDiskWriteSnapsUptoRow, standIns := [], harness := (true, "72500ccbdb650097a5e94cef0033c8d8ca5c5c6b8ac668af99a3168403793fa5"), looks := false }, kinds := [], alts := [], laidByText := true, laidKinds := [.data, .pinned], laidTests := true, laidLooks := .later }
def FnDiskWriteSnapsUptoCardSaid : Prop := Claim7.holds Tryz.pinned (.plain (OpenSpec.upto fnDiskWriteSnapsSpec)) fnDiskWriteSnapsUptoCard

/-- THE SECOND FORM's CARD OF 'laws.FnExactDiskWrite'. -/
def fnExactDiskWriteUptoCard : Claim7 := { stood := { row := fnExactDiskWriteUptoRow, standIns := [], harness := (true, "72500ccbdb650097a5e94cef0033c8d8ca5c5c6b8ac668af99a3168403793fa5"), looks := false }, kinds := [], alts := [], laidByText := true, laidKinds := [.data, .pinned], laidTests := true, laidLooks := .later }
def FnExactDiskWriteUptoCardSaid : Prop := Claim7.holds Tryz.pinned (.plain (OpenSpec.upto fnExactDiskWriteSpec)) fnExactDiskWriteUptoCard
end Rows
end Go.Proofs.YtbhkgogeoafjjaaGreatDoor
