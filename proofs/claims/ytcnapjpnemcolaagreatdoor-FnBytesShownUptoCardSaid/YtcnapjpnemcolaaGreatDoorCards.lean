/-
  DERIVED. GIVEN WITH THE SEED: THE CARDS: each row of YtcnapjpnemcolaaGreatDoorRows.lean that lists a variable, with what it lists TIED to the program's text (the seventh form; the later family's looks); each row that meets fmt, with fmt's text TOLD by the authors' own Lean function (tested against real Go, not proved from fmt's source: count such statements apart). THE CARD IS WHAT COUNTS. Prove the row's statement (the work); the ties are given (YtcnapjpnemcolaaGreatDoorTie.lean); close each card by the builder's one call (the guide's Derived/Test/ToyasCard.lean, 'card_holds'). Laid BY PROGRAM, IN A SANDBOX (cutbox-door.mjs). By AI agents, Wed Nov 11 2026. No macro, syntax, notation, axiom, sorry.
-/
import Derived.Test.YtcnapjpnemcolaaGreatDoorRows
import GoSem.ClaimSeven
namespace Go.Proofs.YtcnapjpnemcolaaGreatDoor
namespace Rows

/-- THE TIED CARD OF 'laws.FnBytes'. -/
def fnBytesCard : Claim7 := { stood := { row := fnBytesRow, standIns := [], harness := (true, "385be58299e7515beefdf30b805cf2a0db6aa9846c8bf9c7825975b73c911d51"), looks := true }, kinds := [], alts := [], laidByText := true, laidKinds := [.data, .handle, .pinned], laidTests := true, laidLooks := .later }
def FnBytesCardSaid : Prop := Claim7.holds Tryz.pinned (.plain (OpenSpec.ofChange fnBytesSpec)) fnBytesCard

/-- THE TIED CARD OF 'laws.FnShared'. -/
def fnSharedCard : Claim7 := { stood := { row := fnSharedRow, standIns := [], harness := (true, "385be58299e7515beefdf30b805cf2a0db6aa9846c8bf9c7825975b73c911d51"), looks := true }, kinds := [], alts := [], laidByText := true, laidKinds := [.data, .handle, .pinned], laidTests := true, laidLooks := .later }
def FnSharedCardSaid : Prop := Claim7.holds Tryz.pinned (.plain (OpenSpec.ofChange fnSharedSpec)) fnSharedCard

/-- THE TIED CARD OF 'laws.FnSharedTake'. -/
def fnSharedTakeCard : Claim7 := { stood := { row := fnSharedTakeRow, standIns := [], harness := (true, "385be58299e7515beefdf30b805cf2a0db6aa9846c8bf9c7825975b73c911d51"), looks := true }, kinds := [], alts := [], laidByText := true, laidKinds := [.data, .handle, .pinned], laidTests := true, laidLooks := .later }
def FnSharedTakeCardSaid : Prop := Claim7.holds Tryz.pinned (.plain (OpenSpec.ofChange fnSharedTakeSpec)) fnSharedTakeCard

/-- THE TIED CARD OF 'laws.FnOnly'. -/
def fnOnlyCard : Claim7 := { stood := { row := fnOnlyRow, standIns := [], harness := (true, "385be58299e7515beefdf30b805cf2a0db6aa9846c8bf9c7825975b73c911d51"), looks := true }, kinds := [], alts := [], laidByText := true, laidKinds := [.data, .handle, .pinned], laidTests := true, laidLooks := .later }
def FnOnlyCardSaid : Prop := Claim7.holds Tryz.pinned (.plain (OpenSpec.ofChange fnOnlySpec)) fnOnlyCard

/-- THE TIED CARD OF 'laws.FnOnlyTake'. -/
def fnOnlyTakeCard : Claim7 := { stood := { row := fnOnlyTakeRow, standIns := [], harness := (true, "385be58299e7515beefdf30b805cf2a0db6aa9846c8bf9c7825975b73c911d51"), looks := true }, kinds := [], alts := [], laidByText := true, laidKinds := [.data, .handle, .pinned], laidTests := true, laidLooks := .later }
def FnOnlyTakeCardSaid : Prop := Claim7.holds Tryz.pinned (.plain (OpenSpec.ofChange fnOnlyTakeSpec)) fnOnlyTakeCard

/-- THE TIED CARD OF 'laws.FnBytesShown'. -/
def fnBytesShownCard : Claim7 := { stood := { row := fnBytesShownRow, standIns := [], harness := (true, "385be58299e7515beefdf30b805cf2a0db6aa9846c8bf9c7825975b73c911d51"), looks := true }, kinds := [], alts := [], laidByText := true, laidKinds := [.data, .handle, .pinned], laidTests := true, laidLooks := .later }
def FnBytesShownCardSaid : Prop := Claim7.holds Tryz.pinned (.plain (OpenSpec.ofChange fnBytesShownSpec)) fnBytesShownCard

/-- THE SECOND FORM's CARD OF 'laws.FnBytes'. -/
def fnBytesUptoCard : Claim7 := { stood := { row := fnBytesUptoRow, standIns := [], harness := (true, "385be58299e7515beefdf30b805cf2a0db6aa9846c8bf9c7825975b73c911d51"), looks := true }, kinds := [], alts := [], laidByText := true, laidKinds := [.data, .handle, .pinned], laidTests := true, laidLooks := .later }
def FnBytesUptoCardSaid : Prop := Claim7.holds Tryz.pinned (.plain (OpenSpec.upto fnBytesSpec)) fnBytesUptoCard

/-- THE SECOND FORM's CARD OF 'laws.FnShared'. -/
def fnSharedUptoCard : Claim7 := { stood := { row := fnSharedUptoRow, standIns := [], harness := (true, "385be58299e7515beefdf30b805cf2a0db6aa9846c8bf9c7825975b73c911d51"), looks := true }, kinds := [], alts := [], laidByText := true, laidKinds := [.data, .handle, .pinned], laidTests := true, laidLooks := .later }
def FnSharedUptoCardSaid : Prop := Claim7.holds Tryz.pinned (.plain (OpenSpec.upto fnSharedSpec)) fnSharedUptoCard

/-- THE SECOND FORM's CARD OF 'laws.FnSharedTake'. -/
def fnSharedTakeUptoCard : Claim7 := { stood := { row := fnSharedTakeUptoRow, standIns := [], harness := (true, "385be58299e7515beefdf30b805cf2a0db6aa9846c8bf9c7825975b73c911d51"), looks := true }, kinds := [], alts := [], laidByText := true, laidKinds := [.data, .handle, .pinned], laidTests := true, laidLooks := .later }
def FnSharedTakeUptoCardSaid : Prop := Claim7.holds Tryz.pinned (.plain (OpenSpec.upto fnSharedTakeSpec)) fnSharedTakeUptoCard

/-- THE SECOND FORM's CARD OF 'laws.FnOnly'. -/
def fnOnlyUptoCard : Claim7 := { stood := { row := fnOnlyUptoRow, standIns := [], harness := (true, "385be58299e7515beefdf30b805cf2a0db6aa9846c8bf9c7825975b73c911d51"), looks := true }, kinds := [], alts := [], laidByText := true, laidKinds := [.data, .handle, .pinned], laidTests := true, laidLooks := .later }
def FnOnlyUptoCardSaid : Prop := Claim7.holds Tryz.pinned (.plain (OpenSpec.upto fnOnlySpec)) fnOnlyUptoCard

/-- THE SECOND FORM's CARD OF 'laws.FnOnlyTake'. -/
def fnOnlyTakeUptoCard : Claim7 := { stood := { row := fnOnlyTakeUptoRow, standIns := [], harness := (true, "385be58299e7515beefdf30b805cf2a0db6aa9846c8bf9c7825975b73c911d51"), looks := true }, kinds := [], alts := [], laidByText := true, laidKinds := [.data, .handle, .pinned], laidTests := true, laidLooks := .later }
def FnOnlyTakeUptoCardSaid : Prop := Claim7.holds Tryz.pinned (.plain (OpenSpec.upto fnOnlyTakeSpec)) fnOnlyTakeUptoCard

/-- THE SECOND FORM's CARD OF 'laws.FnBytesShown'. -/
def fnBytesShownUptoCard : Claim7 := { stood := { row := fnBytesShownUptoRow, standIns := [], harness := (true, "385be58299e7515beefdf30b805cf2a0db6aa9846c8bf9c7825975b73c911d51"), looks := true }, kinds := [], alts := [], laidByText := true, laidKinds := [.data, .handle, .pinned], laidTests := true, laidLooks := .later }
def FnBytesShownUptoCardSaid : Prop := Claim7.holds Tryz.pinned (.plain (OpenSpec.upto fnBytesShownSpec)) fnBytesShownUptoCard
end Rows
end Go.Proofs.YtcnapjpnemcolaaGreatDoor
