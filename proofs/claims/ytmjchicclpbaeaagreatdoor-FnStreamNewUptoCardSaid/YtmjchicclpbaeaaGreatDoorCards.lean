/-
  DERIVED. GIVEN WITH THE SEED: THE CARDS: each row of YtmjchicclpbaeaaGreatDoorRows.lean that lists a variable, with what it lists TIED to the program's text (the seventh form; the later family's looks); each row that meets fmt, with fmt's text TOLD by the authors' own Lean function (tested against real Go, not proved from fmt's source: count such statements apart). THE CARD IS WHAT COUNTS. Prove the row's statement (the work); the ties are given (YtmjchicclpbaeaaGreatDoorTie.lean); close each card by the builder's one call (the guide's Derived/Test/ToyasCard.lean, 'card_holds'). Laid BY PROGRAM, IN A SANDBOX (cutbox-door.mjs). By AI agents, Wed Nov 11 2026. No macro, syntax, notation, axiom, sorry.
-/
import Derived.Test.YtmjchicclpbaeaaGreatDoorRows
import GoSem.ClaimSeven
namespace Go.Proofs.YtmjchicclpbaeaaGreatDoor
namespace Rows

/-- THE TIED CARD OF 'laws.FnStreamAway'. -/
def fnStreamAwayCard : Claim7 := { stood := { row := fnStreamAwayRow, standIns := [], harness := (true, "a17095437d7eac94caaeebd7a1b6131764a5a4f4955e4dab3f66af07766cf77c"), looks := true }, kinds := [], alts := [], laidByText := true, laidKinds := [.data, .pinned], laidTests := true, laidLooks := .later }
def FnStreamAwayCardSaid : Prop := Claim7.holds Tryz.pinned (.plain (OpenSpec.ofChange fnStreamAwaySpec)) fnStreamAwayCard

/-- THE TIED CARD OF 'laws.FnStreamNew'. -/
def fnStreamNewCard : Claim7 := { stood := { row := fnStreamNewRow, standIns := [], harness := (true, "a17095437d7eac94caaeebd7a1b6131764a5a4f4955e4dab3f66af07766cf77c"), looks := true }, kinds := [], alts := [], laidByText := true, laidKinds := [.data, .pinned], laidTests := true, laidLooks := .later }
def FnStreamNewCardSaid : Prop := Claim7.holds Tryz.pinned (.plain (OpenSpec.ofChange fnStreamNewSpec)) fnStreamNewCard

/-- THE TIED CARD OF 'laws.FnStreamExact'. -/
def fnStreamExactCard : Claim7 := { stood := { row := fnStreamExactRow, standIns := [], harness := (true, "a17095437d7eac94caaeebd7a1b6131764a5a4f4955e4dab3f66af07766cf77c"), looks := true }, kinds := [], alts := [], laidByText := true, laidKinds := [.data, .pinned], laidTests := true, laidLooks := .later }
def FnStreamExactCardSaid : Prop := Claim7.holds Tryz.pinned (.plain (OpenSpec.ofChange fnStreamExactSpec)) fnStreamExactCard

/-- THE SECOND FORM's CARD OF 'laws.FnStreamAway'. -/
def fnStreamAwayUptoCard : Claim7 := { stood := { row := fnStreamAwayUptoRow, standIns := [], harness := (true, "a17095437d7eac94caaeebd7a1b6131764a5a4f4955e4dab3f66af07766cf77c"), looks := true }, kinds := [], alts := [], laidByText := true, laidKinds := [.data, .pinned], laidTests := true, laidLooks := .later }
def FnStreamAwayUptoCardSaid : Prop := Claim7.holds Tryz.pinned (.plain (OpenSpec.upto fnStreamAwaySpec)) fnStreamAwayUptoCard

/-- THE SECOND FORM's CARD OF 'laws.FnStreamNew'. -/
def fnStreamNewUptoCard : Claim7 := { stood := { row := fnStreamNewUptoRow, standIns := [], harness := (true, "a17095437d7eac94caaeebd7a1b6131764a5a4f4955e4dab3f66af07766cf77c"), looks := true }, kinds := [], alts := [], laidByText := true, laidKinds := [.data, .pinned], laidTests := true, laidLooks := .later }
def FnStreamNewUptoCardSaid : Prop := Claim7.holds Tryz.pinned (.plain (OpenSpec.upto fnStreamNewSpec)) fnStreamNewUptoCard

/-- THE SECOND FORM's CARD OF 'laws.FnStreamExact'. -/
def fnStreamExactUptoCard : Claim7 := { stood := { row := fnStreamExactUptoRow, standIns := [], harness := (true, "a17095437d7eac94caaeebd7a1b6131764a5a4f4955e4dab3f66af07766cf77c"), looks := true }, kinds := [], alts := [], laidByText := true, laidKinds := [.data, .pinned], laidTests := true, laidLooks := .later }
def FnStreamExactUptoCardSaid : Prop := Claim7.holds Tryz.pinned (.plain (OpenSpec.upto fnStreamExactSpec)) fnStreamExactUptoCard
end Rows
end Go.Proofs.YtmjchicclpbaeaaGreatDoor
