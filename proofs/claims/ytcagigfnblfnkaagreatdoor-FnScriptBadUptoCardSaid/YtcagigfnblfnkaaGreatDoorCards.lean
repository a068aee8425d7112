/-
  DERIVED. GIVEN WITH THE SEED: THE CARDS: each row of YtcagigfnblfnkaaGreatDoorRows.lean that lists a variable, with what it lists TIED to the program's text (the seventh form; the later family's looks); each row that meets fmt, with fmt's text TOLD by the authors' own Lean function (tested against real Go, not proved from fmt's source: count such statements apart). THE CARD IS WHAT COUNTS. Prove the row's statement (the work); the ties are given (YtcagigfnblfnkaaGreatDoorTie.lean); close each card by the builder's one call (the guide's Derived/Test/ToyasCard.lean, 'card_holds'). Laid BY PROGRAM, IN A SANDBOX (cutbox-door.mjs). By AI agents, Wed Nov 11 2026. No macro, syntax, notation, axiom, sorry.
-/
import Derived.Test.YtcagigfnblfnkaaGreatDoorRows
import GoSem.ClaimSeven
namespace Go.Proofs.YtcagigfnblfnkaaGreatDoor
namespace Rows

/-- THE TIED CARD OF 'laws.FnScriptWrite'. -/
def fnScriptWriteCard : Claim7 := { stood := { row := fnScriptWriteRow, standIns := [], harness := (true, "e99077bbd6eec43518b8cc90cec52cf758e488c1c59893d2dd30b078a56116f2"), looks := true }, kinds := [], alts := [], laidByText := true, laidKinds := [.data, .data, .data, .data, .handle, .pinned], laidTests := true, laidLooks := .later }
def FnScriptWriteCardSaid : Prop := Claim7.holds Tryz.pinned (.plain (OpenSpec.ofChange fnScriptWriteSpec)) fnScriptWriteCard

/-- THE TIED CARD OF 'laws.FnScriptCut'. -/
def fnScriptCutCard : Claim7 := { stood := { row := fnScriptCutRow, standIns := [], harness := (true, "e99077bbd6eec43518b8cc90cec52cf758e488c1c59893d2dd30b078a56116f2"), looks := true }, kinds := [], alts := [], laidByText := true, laidKinds := [.data, .data, .data, .data, .handle, .pinned], laidTests := true, laidLooks := .later }
def FnScriptCutCardSaid : Prop := Claim7.holds Tryz.pinned (.plain (OpenSpec.ofChange fnScriptCutSpec)) fnScriptCutCard

/-- THE TIED CARD OF 'laws.FnScriptWhat'. -/
def fnScriptWhatCard : Claim7 := { stood := { row := fnScriptWhatRow, standIns := [], harness := (true, "e99077bbd6eec43518b8cc90cec52cf758e488c1c59893d2dd30b078a56116f2"), looks := true }, kinds := [], alts := [], laidByText := true, laidKinds := [.data, .data, .data, .data, .handle, .pinned], laidTests := true, laidLooks := .later }
def FnScriptWhatCardSaid : Prop := Claim7.holds Tryz.pinned (.plain (OpenSpec.ofChange fnScriptWhatSpec)) fnScriptWhatCard

/-- THE TIED CARD OF 'laws.FnExactExecute'. -/
def fnExactExecuteCard : Claim7 := { stood := { row := fnExactExecuteRow, standIns := [], harness := (true, "e99077bbd6eec43518b8cc90cec52cf758e488c1c59893d2dd30b078a56116f2"), looks := true }, kinds := [], alts := [], laidByText := true, laidKinds := [.data, .data, .data, .data, .handle, .pinned], laidTests := true, laidLooks := .later }
def FnExactExecuteCardSaid : Prop := Claim7.holds Tryz.pinned (.plain (OpenSpec.ofChange fnExactExecuteSpec)) fnExactExecuteCard

/-- THE TIED CARD OF 'laws.FnScript'. -/
def fnScriptCard : Claim7 := { stood := { row := fnScriptRow, standIns := [], harness := (true, "e99077bbd6eec43518b8cc90cec52cf758e488c1c59893d2dd30b078a56116f2"), looks := true }, kinds := [], alts := [], laidByText := true, laidKinds := [.data, .data, .data, .data, .handle, .pinned], laidTests := true, laidLooks := .later }
def FnScriptCardSaid : Prop := Claim7.holds Tryz.pinned (.plain (OpenSpec.ofChange fnScriptSpec)) fnScriptCard

/-- THE TIED CARD OF 'laws.FnScriptBad'. -/
def fnScriptBadCard : Claim7 := { stood := { row := fnScriptBadRow, standIns := [], harness := (true, "e99077bbd6eec43518b8cc90cec52cf758e488c1c59893d2dd30b078a56116f2"), looks := true }, kinds := [], alts := [], laidByText := true, laidKinds := [.data, .data, .data, .data, .handle, .pinned], laidTests := true, laidLooks := .later }
def FnScriptBadCardSaid : Prop := Claim7.holds Tryz.pinned (.plain (OpenSpec.ofChange fnScriptBadSpec)) fnScriptBadCard

/-- THE TIED CARD OF 'laws.FnScriptDrop'. -/
def fnScriptDropCard : Claim7 := { stood := { row := fnScriptDropRow, standIns := [], harness := (true, "e99077bbd6eec43518b8cc90cec52cf758e488c1c59893d2dd30b078a56116f2"), looks := true }, kinds := [], alts := [], laidByText := true, laidKinds := [.data, .data, .data, .data, .handle, .pinned], laidTests := true, laidLooks := .later }
def FnScriptDropCardSaid : Prop := Claim7.holds Tryz.pinned (.plain (OpenSpec.ofChange fnScriptDropSpec)) fnScriptDropCard

/-- THE TIED CARD OF 'laws.FnScriptShare'. -/
def fnScriptShareCard : Claim7 := { stood := { row := fnScriptShareRow, standIns := [], harness := (true, "e99077bbd6eec43518b8cc90cec52cf758e488c1c59893d2dd30b078a56116f2"), looks := true }, kinds := [], alts := [], laidByText := true, laidKinds := [.data, .data, .data, .data, .handle, .pinned], laidTests := true, laidLooks := .later }
def FnScriptShareCardSaid : Prop := Claim7.holds Tryz.pinned (.plain (OpenSpec.ofChange fnScriptShareSpec)) fnScriptShareCard

/-- THE TIED CARD OF 'laws.FnScriptSnap'. -/
def fnScriptSnapCard : Claim7 := { stood := { row := fnScriptSnapRow, standIns := [], harness := (true, "e99077bbd6eec43518b8cc90cec52cf758e488c1c59893d2dd30b078a56116f2"), looks := true }, kinds := [], alts := [], laidByText := true, laidKinds := [.data, .data, .data, .data, .handle, .pinned], laidTests := true, laidLooks := .later }
def FnScriptSnapCardSaid : Prop := Claim7.holds Tryz.pinned (.plain (OpenSpec.ofChange fnScriptSnapSpec)) fnScriptSnapCard

/-- THE SECOND FORM's CARD OF 'laws.FnScriptWrite'. -/
def fnScriptWriteUptoCard : Claim7 := { stood := { row := fnScriptWriteUptoRow, standIns := [], harness := (true, "e99077bbd6eec43518b8cc90cec52cf758e488c1c59893d2dd30b078a56116f2"), looks := true }, kinds := [], alts := [], laidByText := true, laidKinds := [.data, .data, .data, .data, .handle, .pinned], laidTests := true, laidLooks := .later }
def FnScriptWriteUptoCardSaid : Prop := Claim7.holds Tryz.pinned (.plain (OpenSpec.upto fnScriptWriteSpec)) fnScriptWriteUptoCard

/-- THE SECOND FORM's CARD OF 'laws.FnScriptCut'. -/
def fnScriptCutUptoCard : Claim7 := { stood := { row := fnScriptCutUptoRow, standIns := [], harness := (true, "e99077bbd6eec43518b8cc90cec52cf758e488c1c59893d2dd30b078a56116f2"), looks := true }, kinds := [], alts := [], laidByText := true, laidKinds := [.data, .data, .data, .data, .handle, .pinned], laidTests := true, laidLooks := .later }
def FnScriptCutUptoCardSaid : Prop := Claim7.holds Tryz.pinned (.plain (OpenSpec.upto fnScriptCutSpec)) fnScriptCutUptoCard

/-- THE SECOND FORM's CARD OF 'laws.FnScriptWhat'. -/
def fnScriptWhatUptoCard : Claim7 := { stood := { row := fnScriptWhatUptoRow, standIns := [], harness := (true, "e99077bbd6eec43518b8cc90cec52cf758e488c1c59893d2dd30b078a56116f2"), looks := true }, kinds := [], alts := [], laidByText := true, laidKinds := [.data, .data, .data, .data, .handle, .pinned], laidTests := true, laidLooks := .later }
def FnScriptWhatUptoCardSaid : Prop := Claim7.holds Tryz.pinned (.plain (OpenSpec.upto fnScriptWhatSpec)) fnScriptWhatUptoCard

/-- THE SECOND FORM's CARD OF 'laws.FnExactExecute'. -/
def fnExactExecuteUptoCard : Claim7 := { stood := { row := fnExactExecuteUptoRow, standIns := [], harness := (true, "e99077bbd6eec43518b8cc90cec52cf758e488c1c59893d2dd30b078a56116f2"), looks := true }, kinds := [], alts := [], laidByText := true, laidKinds := [.data, .data, .data, .data, .handle, .pinned], laidTests := true, laidLooks := .later }
def FnExactExecuteUptoCardSaid : Prop := Claim7.holds Tryz.pinned (.plain (OpenSpec.upto fnExactExecuteSpec)) fnExactExecuteUptoCard

/-- THE SECOND FORM's CARD OF 'laws.FnScript'. -/
def fnScriptUptoCard : Claim7 := { stood := { row := fnScriptUptoRow, standIns := [], harness := (true, "e99077bbd6eec43518b8cc90cec52cf758e488c1c59893d2dd30b078a56116f2"), looks := true }, kinds := [], alts := [], laidByText := true, laidKinds := [.data, .data, .data, .data, .handle, .pinned], laidTests := true, laidLooks := .later }
def FnScriptUptoCardSaid : Prop := Claim7.holds Tryz.pinned (.plain (OpenSpec.upto fnScriptSpec)) fnScriptUptoCard

/-- THE SECOND FORM's CARD OF 'laws.FnScriptBad'. -/
def fnScriptBadUptoCard : Claim7 := { stood := { row := fnScriptBadUptoRow, standIns := [], harness := (true, "e99077bbd6eec43518b8cc90cec52cf758e488c1c59893d2dd30b078a56116f2"), looks := true }, kinds := [], alts := [], laidByText := true, laidKinds := [.data, .data, .data, .data, .handle, .pinned], laidTests := true, laidLooks := .later }
def FnScriptBadUptoCardSaid : Prop := Claim7.holds Tryz.pinned (.plain (OpenSpec.upto fnScriptBadSpec)) fnScriptBadUptoCard

/-- THE SECOND FORM's CARD OF 'laws.FnScriptDrop'. -/
def fnScriptDropUptoCard : Claim7 := { stood := { row := fnScriptDropUptoRow, standIns := [], harness := (true, "e99077bbd6eec43518b8cc90cec52cf758e488c1c59893d2dd30b078a56116f2"), looks := true }, kinds := [], alts := [], laidByText := true, laidKinds := [.data, .data, .data, .data, .handle, .pinned], laidTests := true, laidLooks := .later }
def FnScriptDropUptoCardSaid : Prop := Claim7.holds Tryz.pinned (.plain (OpenSpec.upto fnScriptDropSpec)) fnScriptDropUptoCard

/-- THE SECOND FORM's CARD OF 'laws.FnScriptShare'. -/
def fnScriptShareUptoCard : Claim7 := { stood := { row := fnScriptShareUptoRow, standIns := [], harness := (true, "e99077bbd6eec43518b8cc90cec52cf758e488c1c59893d2dd30b078a56116f2"), looks := true }, kinds := [], alts := [], laidByText := true, laidKinds := [.data, .data, .data, .data, .handle, .pinned], laidTests := true, laidLooks := .later }
def FnScriptShareUptoCardSaid : Prop := Claim7.holds Tryz.pinned (.plain (OpenSpec.upto fnScriptShareSpec)) fnScriptShareUptoCard

/-- THE SECOND FORM's CARD OF 'laws.FnScriptSnap'. -/
def fnScriptSnapUptoCard : Claim7 := { stood := { row := fnScriptSnapUptoRow, standIns := [], harness := (true, "e99077bbd6eec43518b8cc90cec52cf758e488c1c59893d2dd30b078a56116f2"), looks := true }, kinds := [], alts := [], laidByText := true, laidKinds := [.data, .data, .data, .data, .handle, .pinned], laidTests := true, laidLooks := .later }
def FnScriptSnapUptoCardSaid : Prop := Claim7.holds Tryz.pinned (.plain (OpenSpec.upto fnScriptSnapSpec)) fnScriptSnapUptoCard
end Rows
end Go.Proofs.YtcagigfnblfnkaaGreatDoor
