/-
  DERIVED. GIVEN WITH THE SEED: THE CARDS: each row of YtejelpcappbmiaaGreatDoorRows.lean that lists a variable, with what it lists TIED to the program's text (the seventh form; the later family's looks); each row that meets fmt, with fmt's text TOLD by the authors' own Lean function (tested against real Go, not proved from fmt's source: count such statements apart). THE CARD IS WHAT COUNTS. Prove the row's statement (the work); the ties are given (YtejelpcappbmiaaGreatDoorTie.lean); close each card by the builder's one call (the guide's Derived/Test/ToyasCard.lean, 'card_holds'). Laid BY PROGRAM, IN A SANDBOX (cutbox-door.mjs). By AI agents, Wed Nov 11 2026. No macro, syntax, notation, axiom, sorry.
-/
import Derived.Test.YtejelpcappbmiaaGreatDoorRows
import GoSem.ClaimSeven
namespace Go.Proofs.YtejelpcappbmiaaGreatDoor
namespace Rows

/-- THE TIED CARD OF 'laws.FnHistoryTake'. -/
def fnHistoryTakeCard : Claim7 := { stood := { row := fnHistoryTakeRow, standIns := [], harness := (true, "0300215e12a10dfc539f774c50a6a7c0d0a3fba590ad65be723670b06c3de637"), looks := true }, kinds := [], alts := [], laidByText := true, laidKinds := [.data, .pinned], laidTests := true, laidLooks := .later }
def FnHistoryTakeCardSaid : Prop := Claim7.holds Tryz.pinned (.plain (OpenSpec.ofChange fnHistoryTakeSpec)) fnHistoryTakeCard

/-- THE TIED CARD OF 'laws.FnAllow'. -/
def fnAllowCard : Claim7 := { stood := { row := fnAllowRow, standIns := [], harness := (true, "0300215e12a10dfc539f774c50a6a7c0d0a3fba590ad65be723670b06c3de637"), looks := true }, kinds := [], alts := [], laidByText := true, laidKinds := [.data, .sentinel, .pinned], laidTests := true, laidLooks := .later }
def FnAllowCardSaid : Prop := Claim7.holds Tryz.pinned (.plain (OpenSpec.ofChange fnAllowSpec)) fnAllowCard

/-- THE TIED CARD OF 'laws.FnAllowNot'. -/
def fnAllowNotCard : Claim7 := { stood := { row := fnAllowNotRow, standIns := [], harness := (true, "0300215e12a10dfc539f774c50a6a7c0d0a3fba590ad65be723670b06c3de637"), looks := true }, kinds := [], alts := [], laidByText := true, laidKinds := [.data, .sentinel, .pinned], laidTests := true, laidLooks := .later }
def FnAllowNotCardSaid : Prop := Claim7.holds Tryz.pinned (.plain (OpenSpec.ofChange fnAllowNotSpec)) fnAllowNotCard

/-- THE TIED CARD OF 'laws.FnOp'. -/
def fnOpCard : Claim7 := { stood := { row := fnOpRow, standIns := [], harness := (true, "0300215e12a10dfc539f774c50a6a7c0d0a3fba590ad65be723670b06c3de637"), looks := true }, kinds := [], alts := [], laidByText := true, laidKinds := [.data, .pinned], laidTests := true, laidLooks := .later }
def FnOpCardSaid : Prop := Claim7.holds Tryz.pinned (.plain (OpenSpec.ofChange fnOpSpec)) fnOpCard

/-- THE TIED CARD OF 'laws.FnOpWrite'. -/
def fnOpWriteCard : Claim7 := { stood := { row := fnOpWriteRow, standIns := [], harness := (true, "0300215e12a10dfc539f774c50a6a7c0d0a3fba590ad65be723670b06c3de637"), looks := true }, kinds := [], alts := [], laidByText := true, laidKinds := [.data, .pinned], laidTests := true, laidLooks := .later }
def FnOpWriteCardSaid : Prop := Claim7.holds Tryz.pinned (.plain (OpenSpec.ofChange fnOpWriteSpec)) fnOpWriteCard

/-- THE TIED CARD OF 'laws.FnDiskTextTake'. -/
def fnDiskTextTakeCard : Claim7 := { stood := { row := fnDiskTextTakeRow, standIns := [], harness := (true, "0300215e12a10dfc539f774c50a6a7c0d0a3fba590ad65be723670b06c3de637"), looks := true }, kinds := [], alts := [], laidByText := true, laidKinds := [.data, .data, .data, .data, .pinned], laidTests := true, laidLooks := .later }
def FnDiskTextTakeCardSaid : Prop := Claim7.holds Tryz.pinned (.plain (OpenSpec.ofChange fnDiskTextTakeSpec)) fnDiskTextTakeCard

/-- THE TIED CARD OF 'laws.FnOpKind'. -/
def fnOpKindCard : Claim7 := { stood := { row := fnOpKindRow, standIns := [], harness := (true, "0300215e12a10dfc539f774c50a6a7c0d0a3fba590ad65be723670b06c3de637"), looks := true }, kinds := [], alts := [], laidByText := true, laidKinds := [.data, .pinned], laidTests := true, laidLooks := .later }
def FnOpKindCardSaid : Prop := Claim7.holds Tryz.pinned (.plain (OpenSpec.ofChange fnOpKindSpec)) fnOpKindCard

/-- THE TIED CARD OF 'laws.FnJournal'. -/
def fnJournalCard : Claim7 := { stood := { row := fnJournalRow, standIns := [], harness := (true, "0300215e12a10dfc539f774c50a6a7c0d0a3fba590ad65be723670b06c3de637"), looks := true }, kinds := [], alts := [], laidByText := true, laidKinds := [.data, .pinned], laidTests := true, laidLooks := .later }
def FnJournalCardSaid : Prop := Claim7.holds Tryz.pinned (.plain (OpenSpec.ofChange fnJournalSpec)) fnJournalCard

/-- THE TIED CARD OF 'laws.FnJournalOn'. -/
def fnJournalOnCard : Claim7 := { stood := { row := fnJournalOnRow, standIns := [], harness := (true, "0300215e12a10dfc539f774c50a6a7c0d0a3fba590ad65be723670b06c3de637"), looks := true }, kinds := [], alts := [], laidByText := true, laidKinds := [.data, .pinned], laidTests := true, laidLooks := .later }
def FnJournalOnCardSaid : Prop := Claim7.holds Tryz.pinned (.plain (OpenSpec.ofChange fnJournalOnSpec)) fnJournalOnCard

/-- THE TIED CARD OF 'laws.FnJournalNone'. -/
def fnJournalNoneCard : Claim7 := { stood := { row := fnJournalNoneRow, standIns := [], harness := (true, "0300215e12a10dfc539f774c50a6a7c0d0a3fba590ad65be723670b06c3de637"), looks := true }, kinds := [], alts := [], laidByText := true, laidKinds := [.data, .pinned], laidTests := true, laidLooks := .later }
def FnJournalNoneCardSaid : Prop := Claim7.holds Tryz.pinned (.plain (OpenSpec.ofChange fnJournalNoneSpec)) fnJournalNoneCard

/-- THE TIED CARD OF 'laws.FnExactOpRun'. -/
def fnExactOpRunCard : Claim7 := { stood := { row := fnExactOpRunRow, standIns := [], harness := (true, "0300215e12a10dfc539f774c50a6a7c0d0a3fba590ad65be723670b06c3de637"), looks := true }, kinds := [], alts := [], laidByText := true, laidKinds := [.data, .pinned], laidTests := true, laidLooks := .later }
def FnExactOpRunCardSaid : Prop := Claim7.holds Tryz.pinned (.plain (OpenSpec.ofChange fnExactOpRunSpec)) fnExactOpRunCard

/-- THE TIED CARD OF 'laws.FnExactJournalRun'. -/
def fnExactJournalRunCard : Claim7 := { stood := { row := fnExactJournalRunRow, standIns := [], harness := (true, "0300215e12a10dfc539f774c50a6a7c0d0a3fba590ad65be723670b06c3de637"), looks := true }, kinds := [], alts := [], laidByText := true, laidKinds := [.data, .pinned], laidTests := true, laidLooks := .later }
def FnExactJournalRunCardSaid : Prop := Claim7.holds Tryz.pinned (.plain (OpenSpec.ofChange fnExactJournalRunSpec)) fnExactJournalRunCard

/-- THE SECOND FORM's CARD OF 'laws.FnHistoryTake'. -/
def fnHistoryTakeUptoCard : Claim7 := { stood := { row := fnHistoryTakeUptoRow, standIns := [], harness := (true, "0300215e12a10dfc539f774c50a6a7c0d0a3fba590ad65be723670b06c3de637"), looks := true }, kinds := [], alts := [], laidByText := true, laidKinds := [.data, .pinned], laidTests := true, laidLooks := .later }
def FnHistoryTakeUptoCardSaid : Prop := Claim7.holds Tryz.pinned (.plain (OpenSpec.upto fnHistoryTakeSpec)) fnHistoryTakeUptoCard

/-- THE SECOND FORM's CARD OF 'laws.FnAllow'. -/
def fnAllowUptoCard : Claim7 := { stood := { row := fnAllowUptoRow, standIns := [], harness := (true, "0300215e12a10dfc539f774c50a6a7c0d0a3fba590ad65be723670b06c3de637"), looks := true }, kinds := [], alts := [], laidByText := true, laidKinds := [.data, .sentinel, .pinned], laidTests := true, laidLooks := .later }
def FnAllowUptoCardSaid : Prop := Claim7.holds Tryz.pinned (.plain (OpenSpec.upto fnAllowSpec)) fnAllowUptoCard

/-- THE SECOND FORM's CARD OF 'laws.FnAllowNot'. -/
def fnAllowNotUptoCard : Claim7 := { stood := { row := fnAllowNotUptoRow, standIns := [], harness := (true, "0300215e12a10dfc539f774c50a6a7c0d0a3fba590ad65be723670b06c3de637"), looks := true }, kinds := [], alts := [], laidByText := true, laidKinds := [.data, .sentinel, .pinned], laidTests := true, laidLooks := .later }
def FnAllowNotUptoCardSaid : Prop := Claim7.holds Tryz.pinned (.plain (OpenSpec.upto fnAllowNotSpec)) fnAllowNotUptoCard

/-- THE SECOND FORM's CARD OF 'laws.FnOp'. -/
def fnOpUptoCard : Claim7 := { stood := { row := fnOpUptoRow, standIns := [], harness := (true, "0300215e12a10dfc539f774c50a6a7c0d0a3fba590ad65be723670b06c3de637"), looks := true }, kinds := [], alts := [], laidByText := true, laidKinds := [.data, .pinned], laidTests := true, laidLooks := .later }
def FnOpUptoCardSaid : Prop := Claim7.holds Tryz.pinned (.plain (OpenSpec.upto fnOpSpec)) fnOpUptoCard

/-- THE SECOND FORM's CARD OF 'laws.FnOpWrite'. -/
def fnOpWriteUptoCard : Claim7 := { stood := { row := fnOpWriteUptoRow, standIns := [], harness := (true, "0300215e12a10dfc539f774c50a6a7c0d0a3fba590ad65be723670b06c3de637"), looks := true }, kinds := [], alts := [], laidByText := true, laidKinds := [.data, .pinned], laidTests := true, laidLooks := .later }
def FnOpWriteUptoCardSaid : Prop := Claim7.holds Tryz.pinned (.plain (OpenSpec.upto fnOpWriteSpec)) fnOpWriteUptoCard

/-- THE SECOND FORM's CARD OF 'laws.FnDiskTextTake'. -/
def fnDiskTextTakeUptoCard : Claim7 := { stood := { row := fnDiskTextTakeUptoRow, standIns := [], harness := (true, "0300215e12a10dfc539f774c50a6a7c0d0a3fba590ad65be723670b06c3de637"), looks := true }, kinds := [], alts := [], laidByText := true, laidKinds := [.data, .data, .data, .data, .pinned], laidTests := true, laidLooks := .later }
def FnDiskTextTakeUptoCardSaid : Prop := Claim7.holds Tryz.pinned (.plain (OpenSpec.upto fnDiskTextTakeSpec)) fnDiskTextTakeUptoCard

/-- THE SECOND FORM's CARD OF 'laws.FnOpKind'. -/
def fnOpKindUptoCard : Claim7 := { stood := { row := fnOpKindUptoRow, standIns := [], harness := (true, "0300215e12a10dfc539f774c50a6a7c0d0a3fba590ad65be723670b06c3de637"), looks := true }, kinds := [], alts := [], laidByText := true, laidKinds := [.data, .pinned], laidTests := true, laidLooks := .later }
def FnOpKindUptoCardSaid : Prop := Claim7.holds Tryz.pinned (.plain (OpenSpec.upto fnOpKindSpec)) fnOpKindUptoCard

/-- THE SECOND FORM's CARD OF 'laws.FnJournal'. -/
def fnJournalUptoCard : Claim7 := { stood := { row := fnJournalUptoRow, standIns := [], harness := (true, "0300215e12a10dfc539f774c50a6a7c0d0a3fba590ad65be723670b06c3de637"), looks := true }, kinds := [], alts := [], laidByText := true, laidKinds := [.data, .pinned], laidTests := true, laidLooks := .later }
def FnJournalUptoCardSaid : Prop := Claim7.holds Tryz.pinned (.plain (OpenSpec.upto fnJournalSpec)) fnJournalUptoCard

/-- THE SECOND FORM's CARD OF 'laws.FnJournalOn'. -/
def fnJournalOnUptoCard : Claim7 := { stood := { row := fnJournalOnUptoRow, standIns := [], harness := (true, "0300215e12a10dfc539f774c50a6a7c0d0a3fba590ad65be723670b06c3de637"), looks := true }, kinds := [], alts := [], laidByText := true, laidKinds := [.data, .pinned], laidTests := true, laidLooks := .later }
def FnJournalOnUptoCardSaid : Prop := Claim7.holds Tryz.pinned (.plain (OpenSpec.upto fnJournalOnSpec)) fnJournalOnUptoCard

/-- THE SECOND FORM's CARD OF 'laws.FnJournalNone'. -/
def fnJournalNoneUptoCard : Claim7 := { stood := { row := fnJournalNoneUptoRow, standIns := [], harness := (true, "0300215e12a10dfc539f774c50a6a7c0d0a3fba590ad65be723670b06c3de637"), looks := true }, kinds := [], alts := [], laidByText := true, laidKinds := [.data, .pinned], laidTests := true, laidLooks := .later }
def FnJournalNoneUptoCardSaid : Prop := Claim7.holds Tryz.pinned (.plain (OpenSpec.upto fnJournalNoneSpec)) fnJournalNoneUptoCard

/-- THE SECOND FORM's CARD OF 'laws.FnExactOpRun'. -/
def fnExactOpRunUptoCard : Claim7 := { stood := { row := fnExactOpRunUptoRow, standIns := [], harness := (true, "0300215e12a10dfc539f774c50a6a7c0d0a3fba590ad65be723670b06c3de637"), looks := true }, kinds := [], alts := [], laidByText := true, laidKinds := [.data, .pinned], laidTests := true, laidLooks := .later }
def FnExactOpRunUptoCardSaid : Prop := Claim7.holds Tryz.pinned (.plain (OpenSpec.upto fnExactOpRunSpec)) fnExactOpRunUptoCard

/-- THE SECOND FORM's CARD OF 'laws.FnExactJournalRun'. -/
def fnExactJournalRunUptoCard : Claim7 := { stood := { row := fnExactJournalRunUptoRow, standIns := [], harness := (true, "0300215e12a10dfc539f774c50a6a7c0d0a3fba590ad65be723670b06c3de637"), looks := true }, kinds := [], alts := [], laidByText := true, laidKinds := [.data, .pinned], laidTests := true, laidLooks := .later }
def FnExactJournalRunUptoCardSaid : Prop := Claim7.holds Tryz.pinned (.plain (OpenSpec.upto fnExactJournalRunSpec)) fnExactJournalRunUptoCard
end Rows
end Go.Proofs.YtejelpcappbmiaaGreatDoor
