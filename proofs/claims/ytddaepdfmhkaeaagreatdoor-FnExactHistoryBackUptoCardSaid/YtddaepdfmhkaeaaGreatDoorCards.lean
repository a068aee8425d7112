/-
  DERIVED. GIVEN WITH THE SEED: THE CARDS: each row of YtddaepdfmhkaeaaGreatDoorRows.lean that lists a variable, with what it lists TIED to the program's text (the seventh form; the later family's looks); each row that meets fmt, with fmt's text TOLD by the authors' own Lean function (tested against real Go, not proved from fmt's source: count such statements apart). THE CARD IS WHAT COUNTS. Prove the row's statement (the work); the ties are given (YtddaepdfmhkaeaaGreatDoorTie.lean); close each card by the builder's one call (the guide's Derived/Test/ToyasCard.lean, 'card_holds'). Laid BY PROGRAM, IN A SANDBOX (cutbox-door.mjs). By AI agents, Wed Nov 11 2026. No macro, syntax, notation, axiom, sorry.
-/
import Derived.Test.YtddaepdfmhkaeaaGreatDoorRows
import GoSem.ClaimSeven
namespace Go.Proofs.YtddaepdfmhkaeaaGreatDoor
namespace Rows

/-- THE TIED CARD OF 'laws.FnSnapTakeRead'. -/
def fnSnapTakeReadCard : Claim7 := { stood := { row := fnSnapTakeReadRow, standIns := [], harness := (true, "392305ab5481acb1e21bf12a3529232227240a663160a21fe45473a326a3c5a3"), looks := false }, kinds := [], alts := [], laidByText := true, laidKinds := [.data, .pinned], laidTests := true, laidLooks := .later }
def FnSnapTakeReadCardSaid : Prop := Claim7.holds Tryz.pinned (.plain (OpenSpec.ofChange fnSnapTakeReadSpec)) fnSnapTakeReadCard

/-- THE TIED CARD OF 'laws.FnSnapReadBack'. -/
def fnSnapReadBackCard : Claim7 := { stood := { row := fnSnapReadBackRow, standIns := [], harness := (true, "392305ab5481acb1e21bf12a3529232227240a663160a21fe45473a326a3c5a3"), looks := false }, kinds := [], alts := [], laidByText := true, laidKinds := [.data, .pinned], laidTests := true, laidLooks := .later }
def FnSnapReadBackCardSaid : Prop := Claim7.holds Tryz.pinned (.plain (OpenSpec.ofChange fnSnapReadBackSpec)) fnSnapReadBackCard

/-- THE TIED CARD OF 'laws.FnDiskVolume'. -/
def fnDiskVolumeCard : Claim7 := { stood := { row := fnDiskVolumeRow, standIns := [], harness := (true, "392305ab5481acb1e21bf12a3529232227240a663160a21fe45473a326a3c5a3"), looks := false }, kinds := [], alts := [], laidByText := true, laidKinds := [.data, .pinned], laidTests := true, laidLooks := .later }
def FnDiskVolumeCardSaid : Prop := Claim7.holds Tryz.pinned (.plain (OpenSpec.ofChange fnDiskVolumeSpec)) fnDiskVolumeCard

/-- THE TIED CARD OF 'laws.FnBackBlocks'. -/
def fnBackBlocksCard : Claim7 := { stood := { row := fnBackBlocksRow, standIns := [], harness := (true, "392305ab5481acb1e21bf12a3529232227240a663160a21fe45473a326a3c5a3"), looks := false }, kinds := [], alts := [], laidByText := true, laidKinds := [.data, .pinned], laidTests := true, laidLooks := .later }
def FnBackBlocksCardSaid : Prop := Claim7.holds Tryz.pinned (.plain (OpenSpec.ofChange fnBackBlocksSpec)) fnBackBlocksCard

/-- THE TIED CARD OF 'laws.FnBackTwice'. -/
def fnBackTwiceCard : Claim7 := { stood := { row := fnBackTwiceRow, standIns := [], harness := (true, "392305ab5481acb1e21bf12a3529232227240a663160a21fe45473a326a3c5a3"), looks := false }, kinds := [], alts := [], laidByText := true, laidKinds := [.data, .pinned], laidTests := true, laidLooks := .later }
def FnBackTwiceCardSaid : Prop := Claim7.holds Tryz.pinned (.plain (OpenSpec.ofChange fnBackTwiceSpec)) fnBackTwiceCard

/-- THE TIED CARD OF 'laws.FnBack'. -/
def fnBackCard : Claim7 := { stood := { row := fnBackRow, standIns := [], harness := (true, "392305ab5481acb1e21bf12a3529232227240a663160a21fe45473a326a3c5a3"), looks := false }, kinds := [], alts := [], laidByText := true, laidKinds := [.data, .pinned], laidTests := true, laidLooks := .later }
def FnBackCardSaid : Prop := Claim7.holds Tryz.pinned (.plain (OpenSpec.ofChange fnBackSpec)) fnBackCard

/-- THE TIED CARD OF 'laws.FnExactHistoryBack'. -/
def fnExactHistoryBackCard : Claim7 := { stood := { row := fnExactHistoryBackRow, standIns := [], harness := (true, "392305ab5481acb1e21bf12a3529232227240a663160a21fe45473a326a3c5a3"), looks := false }, kinds := [], alts := [], laidByText := true, laidKinds := [.data, .pinned], laidTests := true, laidLooks := .later }
def FnExactHistoryBackCardSaid : Prop := Claim7.holds Tryz.pinned (.plain (OpenSpec.ofChange fnExactHistoryBackSpec)) fnExactHistoryBackCard

/-- THE SECOND FORM's CARD OF 'laws.FnSnapTakeRead'. -/
def fnSnapTakeReadUptoCard : Claim7 := { stood := { row := fnSnapTakeReadUptoRow, standIns := [], harness := (true, "392305ab5481acb1e21bf12a3529232227240a663160a21fe45473a326a3c5a3"), looks := false }, kinds := [], alts := [], laidByText := true, laidKinds := [.data, .pinned], laidTests := true, laidLooks := .later }
def FnSnapTakeReadUptoCardSaid : Prop := Claim7.holds Tryz.pinned (.plain (OpenSpec.upto fnSnapTakeReadSpec)) fnSnapTakeReadUptoCard

/-- THE SECOND FORM's CARD OF 'laws.FnSnapReadBack'. -/
def fnSnapReadBackUptoCard : Claim7 := { stood := { row := fnSnapReadBackUptoRow, standIns := [], harness := (true, "392305ab5481acb1e21bf12a3529232227240a663160a21fe45473a326a3c5a3"), looks := false }, kinds := [], alts := [], laidByText := true, laidKinds := [.data, .pinned], laidTests := true, laidLooks := .later }
def FnSnapReadBackUptoCardSaid : Prop := Claim7.holds Tryz.pinned (.plain (OpenSpec.upto fnSnapReadBackSpec)) fnSnapReadBackUptoCard

/-- THE SECOND FORM's CARD OF 'laws.FnDiskVolume'. -/
def fnDiskVolumeUptoCard : Claim7 := { stood := { row := fnDiskVolumeUptoRow, standIns := [], harness := (true, "392305ab5481acb1e21bf12a3529232227240a663160a21fe45473a326a3c5a3"), looks := false }, kinds := [], alts := [], laidByText := true, laidKinds := [.data, .pinned], laidTests := true, laidLooks := .later }
def FnDiskVolumeUptoCardSaid : Prop := Claim7.holds Tryz.pinned (.plain (OpenSpec.upto fnDiskVolumeSpec)) fnDiskVolumeUptoCard

/-- THE SECOND FORM's CARD OF 'laws.FnBackBlocks'. -/
def fnBackBlocksUptoCard : Claim7 := { stood := { row := fnBackBlocksUptoRow, standIns := [], harness := (true, "392305ab5481acb1e21bf12a3529232227240a663160a21fe45473a326a3c5a3"), looks := false }, kinds := [], alts := [], laidByText := true, laidKinds := [.data, .pinned], laidTests := true, laidLooks := .later }
def FnBackBlocksUptoCardSaid : Prop := Claim7.holds Tryz.pinned (.plain (OpenSpec.upto fnBackBlocksSpec)) fnBackBlocksUptoCard

/-- THE SECOND FORM's CARD OF 'laws.FnBackTwice'. -/
def fnBackTwiceUptoCard : Claim7 := { stood := { row := fnBackTwiceUptoRow, standIns := [], harness := (true, "392305ab5481acb1e21bf12a3529232227240a663160a21fe45473a326a3c5a3"), looks := false }, kinds := [], alts := [], laidByText := true, laidKinds := [.data, .pinned], laidTests := true, laidLooks := .later }
def FnBackTwiceUptoCardSaid : Prop := Claim7.holds Tryz.pinned (.plain (OpenSpec.upto fnBackTwiceSpec)) fnBackTwiceUptoCard

/-- THE SECOND FORM's CARD OF 'laws.FnBack'. -/
def fnBackUptoCard : Claim7 := { stood := { row := fnBackUptoRow, standIns := [], harness := (true, "392305ab5481acb1e21bf12a3529232227240a663160a21fe45473a326a3c5a3"), looks := false }, kinds := [], alts := [], laidByText := true, laidKinds := [.data, .pinned], laidTests := true, laidLooks := .later }
def FnBackUptoCardSaid : Prop := Claim7.holds Tryz.pinned (.plain (OpenSpec.upto fnBackSpec)) fnBackUptoCard

/-- THE SECOND FORM's CARD OF 'laws.FnExactHistoryBack'. -/
def fnExactHistoryBackUptoCard : Claim7 := { stood := { row := fnExactHistoryBackUptoRow, standIns := [], harness := (true, "392305ab5481acb1e21bf12a3529232227240a663160a21fe45473a326a3c5a3"), looks := false }, kinds := [], alts := [], laidByText := true, laidKinds := [.data, .pinned], laidTests := true, laidLooks := .later }
def FnExactHistoryBackUptoCardSaid : Prop := Claim7.holds Tryz.pinned (.plain (OpenSpec.upto fnExactHistoryBackSpec)) fnExactHistoryBackUptoCard
end Rows
end Go.Proofs.YtddaepdfmhkaeaaGreatDoor
