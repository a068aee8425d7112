/-
  DERIVED. GIVEN WITH THE SEED: THE CARDS: each row of YtghodmnnhhhjaaaGreatDoorRows.lean that lists a variable, with what it lists TIED to the program's text (the seventh form; the later family's looks); each row that meets fmt, with fmt's text TOLD by the authors' own Lean function (tested against real Go, not proved from fmt's source: count such statements apart). THE CARD IS WHAT COUNTS. Prove the row's statement (the work); the ties are given (YtghodmnnhhhjaaaGreatDoorTie.lean); close each card by the builder's one call (the guide's Derived/Test/ToyasCard.lean, 'card_holds'). Laid BY PROGRAM, IN A SANDBOX (cutbox-door.mjs). By AI agents, Wed Nov 11 2026. No macro, syntax, notation, axiom, sorry.
-/
import Derived.Test.YtghodmnnhhhjaaaGreatDoorRows
import GoSem.ClaimSeven
namespace Go.Proofs.YtghodmnnhhhjaaaGreatDoor
namespace Rows

/-- THE TIED CARD OF 'laws.FnStreamRun'. -/
def fnStreamRunCard : Claim7 := { stood := { row := fnStreamRunRow, standIns := [], harness := (true, "7fdb4fd7b413f6a2b4c4b53232a322f88fb31a36bac308ed008c2430c1edf363"), looks := true }, kinds := [], alts := [], laidByText := true, laidKinds := [.data, .pinned], laidTests := true, laidLooks := .later }
def FnStreamRunCardSaid : Prop := Claim7.holds Tryz.pinned (.plain (OpenSpec.ofChange fnStreamRunSpec)) fnStreamRunCard

/-- THE TIED CARD OF 'laws.FnStreamRunFiles'. -/
def fnStreamRunFilesCard : Claim7 := { stood := { row := fnStreamRunFilesRow, standIns := [], harness := (true, "7fdb4fd7b413f6a2b4c4b53232a322f88fb31a36bac308ed008c2430c1edf363"), looks := true }, kinds := [], alts := [], laidByText := true, laidKinds := [.data, .pinned], laidTests := true, laidLooks := .later }
def FnStreamRunFilesCardSaid : Prop := Claim7.holds Tryz.pinned (.plain (OpenSpec.ofChange fnStreamRunFilesSpec)) fnStreamRunFilesCard

/-- THE TIED CARD OF 'laws.FnStreamAway'. -/
def fnStreamAwayCard : Claim7 := { stood := { row := fnStreamAwayRow, standIns := [], harness := (true, "7fdb4fd7b413f6a2b4c4b53232a322f88fb31a36bac308ed008c2430c1edf363"), looks := true }, kinds := [], alts := [], laidByText := true, laidKinds := [.data, .pinned], laidTests := true, laidLooks := .later }
def FnStreamAwayCardSaid : Prop := Claim7.holds Tryz.pinned (.plain (OpenSpec.ofChange fnStreamAwaySpec)) fnStreamAwayCard

/-- THE TIED CARD OF 'laws.FnStreamNew'. -/
def fnStreamNewCard : Claim7 := { stood := { row := fnStreamNewRow, standIns := [], harness := (true, "7fdb4fd7b413f6a2b4c4b53232a322f88fb31a36bac308ed008c2430c1edf363"), looks := true }, kinds := [], alts := [], laidByText := true, laidKinds := [.data, .pinned], laidTests := true, laidLooks := .later }
def FnStreamNewCardSaid : Prop := Claim7.holds Tryz.pinned (.plain (OpenSpec.ofChange fnStreamNewSpec)) fnStreamNewCard

/-- THE TIED CARD OF 'laws.FnStreamExact'. -/
def fnStreamExactCard : Claim7 := { stood := { row := fnStreamExactRow, standIns := [], harness := (true, "7fdb4fd7b413f6a2b4c4b53232a322f88fb31a36bac308ed008c2430c1edf363"), looks := true }, kinds := [], alts := [], laidByText := true, laidKinds := [.data, .pinned], laidTests := true, laidLooks := .later }
def FnStreamExactCardSaid : Prop := Claim7.holds Tryz.pinned (.plain (OpenSpec.ofChange fnStreamExactSpec)) fnStreamExactCard

/-- THE TIED CARD OF 'laws.FnExactStreamRun'. -/
def fnExactStreamRunCard : Claim7 := { stood := { row := fnExactStreamRunRow, standIns := [], harness := (true, "7fdb4fd7b413f6a2b4c4b53232a322f88fb31a36bac308ed008c2430c1edf363"), looks := true }, kinds := [], alts := [], laidByText := true, laidKinds := [.data, .pinned], laidTests := true, laidLooks := .later }
def FnExactStreamRunCardSaid : Prop := Claim7.holds Tryz.pinned (.plain (OpenSpec.ofChange fnExactStreamRunSpec)) fnExactStreamRunCard

/-- THE SECOND FORM's CARD OF 'laws.FnStreamRun'. -/
def fnStreamRunUptoCard : Claim7 := { stood := { row := fnStreamRunUptoRow, standIns := [], harness := (true, "7fdb4fd7b413f6a2b4c4b53232a322f88fb31a36bac308ed008c2430c1edf363"), looks := true }, kinds := [], alts := [], laidByText := true, laidKinds := [.data, .pinned], laidTests := true, laidLooks := .later }
def FnStreamRunUptoCardSaid : Prop := Claim7.holds Tryz.pinned (.plain (OpenSpec.upto fnStreamRunSpec)) fnStreamRunUptoCard

/-- THE SECOND FORM's CARD OF 'laws.FnStreamRunFiles'. -/
def fnStreamRunFilesUptoCard : Claim7 := { stood := { row := fnStreamRunFilesUptoRow, standIns := [], harness := (true, "7fdb4fd7b413f6a2b4c4b53232a322f88fb31a36bac308ed008c2430c1edf363"), looks := true }, kinds := [], alts := [], laidByText := true, laidKinds := [.data, .pinned], laidTests := true, laidLooks := .later }
def FnStreamRunFilesUptoCardSaid : Prop := Claim7.holds Tryz.pinned (.plain (OpenSpec.upto fnStreamRunFilesSpec)) fnStreamRunFilesUptoCard

/-- THE SECOND FORM's CARD OF 'laws.FnStreamAway'. -/
def fnStreamAwayUptoCard : Claim7 := { stood := { row := fnStreamAwayUptoRow, standIns := [], harness := (true, "7fdb4fd7b413f6a2b4c4b53232a322f88fb31a36bac308ed008c2430c1edf363"), looks := true }, kinds := [], alts := [], laidByText := true, laidKinds := [.data, .pinned], laidTests := true, laidLooks := .later }
def FnStreamAwayUptoCardSaid : Prop := Claim7.holds Tryz.pinned (.plain (OpenSpec.upto fnStreamAwaySpec)) fnStreamAwayUptoCard

/-- THE SECOND FORM's CARD OF 'laws.FnStreamNew'. -/
def fnStreamNewUptoCard : Claim7 := { stood := { row := fnStreamNewUptoRow, standIns := [], harness := (true, "7fdb4fd7b413f6a2b4c4b53232a322f88fb31a36bac308ed008c2430c1edf363"), looks := true }, kinds := [], alts := [], laidByText := true, laidKinds := [.data, .pinned], laidTests := true, laidLooks := .later }
def FnStreamNewUptoCardSaid : Prop := Claim7.holds Tryz.pinned (.plain (OpenSpec.upto fnStreamNewSpec)) fnStreamNewUptoCard

/-- THE SECOND FORM's CARD OF 'laws.FnStreamExact'. -/
def fnStreamExactUptoCard : Claim7 := { stood := { row := fnStreamExactUptoRow, standIns := [], harness := (true, "7fdb4fd7b413f6a2b4c4b53232a322f88fb31a36bac308ed008c2430c1edf363"), looks := true }, kinds := [], alts := [], laidByText := true, laidKinds := [.data, .pinned], laidTests := true, laidLooks := .later }
def FnStreamExactUptoCardSaid : Prop := Claim7.holds Tryz.pinned (.plain (OpenSpec.upto fnStreamExactSpec)) fnStreamExactUptoCard

/-- THE SECOND FORM's CARD OF 'laws.FnExactStreamRun'. -/
def fnExactStreamRunUptoCard : Claim7 := { stood := { row := fnExactStreamRunUptoRow, standIns := [], harness := (true, "7fdb4fd7b413f6a2b4c4b53232a322f88fb31a36bac308ed008c2430c1edf363"), looks := true }, kinds := [], alts := [], laidByText := true, laidKinds := [.data, .pinned], laidTests := true, laidLooks := .later }
def FnExactStreamRunUptoCardSaid : Prop := Claim7.holds Tryz.pinned (.plain (OpenSpec.upto fnExactStreamRunSpec)) fnExactStreamRunUptoCard
end Rows
end Go.Proofs.YtghodmnnhhhjaaaGreatDoor
