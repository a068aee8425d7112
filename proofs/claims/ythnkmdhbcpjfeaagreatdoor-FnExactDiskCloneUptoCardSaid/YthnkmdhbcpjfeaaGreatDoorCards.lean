/-
  DERIVED. GIVEN WITH THE SEED: THE CARDS: each row of YthnkmdhbcpjfeaaGreatDoorRows.lean that lists a variable, with what it lists TIED to the program's text (the seventh form; the later family's looks); each row that meets fmt, with fmt's text TOLD by the authors' own Lean function (tested against real Go, not proved from fmt's source: count such statements apart). THE CARD IS WHAT COUNTS. Prove the row's statement (the work); the ties are given (YthnkmdhbcpjfeaaGreatDoorTie.lean); close each card by the builder's one call (the guide's Derived/Test/ToyasCard.lean, 'card_holds'). Laid BY PROGRAM, IN A SANDBOX (cutbox-door.mjs). By AI agents, Wed Nov 11 2026. No macro, syntax, notation, axiom, sorry.
-/
import Derived.Test.YthnkmdhbcpjfeaaGreatDoorRows
import GoSem.ClaimSeven
namespace Go.Proofs.YthnkmdhbcpjfeaaGreatDoor
namespace Rows

/-- THE TIED CARD OF 'laws.FnExactDiskClone'. -/
def fnExactDiskCloneCard : Claim7 := { stood := { row := fnExactDiskCloneRow, standIns := [], harness := (true, "a2785facabc163145fac87402934a125b3f8153471f7c6462b9f18aa641bedb2"), looks := false }, kinds := [], alts := [], laidByText := true, laidKinds := [.data, .pinned], laidTests := true, laidLooks := .later }
def FnExactDiskCloneCardSaid : Prop := Claim7.holds Tryz.pinned (.plain (OpenSpec.ofChange fnExactDiskCloneSpec)) fnExactDiskCloneCard

/-- THE TIED CARD OF 'laws.FnDiskClone'. -/
def fnDiskCloneCard : Claim7 := { stood := { row := fnDiskCloneRow, standIns := [], harness := (true, "a2785facabc163145fac87402934a125b3f8153471f7c6462b9f18aa641bedb2"), looks := false }, kinds := [], alts := [], laidByText := true, laidKinds := [.data, .pinned], laidTests := true, laidLooks := .later }
def FnDiskCloneCardSaid : Prop := Claim7.holds Tryz.pinned (.plain (OpenSpec.ofChange fnDiskCloneSpec)) fnDiskCloneCard

/-- THE TIED CARD OF 'laws.FnDiskCloneRead'. -/
def fnDiskCloneReadCard : Claim7 := { stood := { row := fnDiskCloneReadRow, standIns := [], harness := (true, "a2785facabc163145fac87402934a125b3f8153471f7c6462b9f18aa641bedb2"), looks := false }, kinds := [], alts := [], laidByText := true, laidKinds := [.data, .pinned], laidTests := true, laidLooks := .later }
def FnDiskCloneReadCardSaid : Prop := Claim7.holds Tryz.pinned (.plain (OpenSpec.ofChange fnDiskCloneReadSpec)) fnDiskCloneReadCard

/-- THE TIED CARD OF 'laws.FnDiskCloneWrite'. -/
def fnDiskCloneWriteCard : Claim7 := { stood := { row := fnDiskCloneWriteRow, standIns := [], harness := (true, "a2785facabc163145fac87402934a125b3f8153471f7c6462b9f18aa641bedb2"), looks := false }, kinds := [], alts := [], laidByText := true, laidKinds := [.data, .pinned], laidTests := true, laidLooks := .later }
def FnDiskCloneWriteCardSaid : Prop := Claim7.holds Tryz.pinned (.plain (OpenSpec.ofChange fnDiskCloneWriteSpec)) fnDiskCloneWriteCard

/-- THE SECOND FORM's CARD OF 'laws.FnExactDiskClone'. -/
def fnExactDiskCloneUptoCard : Claim7 := { stood := { row := fnExactDiskCloneUptoRow, standIns := [], harness := (true, "a2785facabc163145fac87402934a125b3f8153471f7c6462b9f18aa641bedb2"), looks := false }, kinds := [], alts := [], laidByText := true, laidKinds := [.data, .pinned], laidTests := true, laidLooks := .later }
def FnExactDiskCloneUptoCardSaid : Prop := Claim7.holds Tryz.pinned (.plain (OpenSpec.upto fnExactDiskCloneSpec)) fnExactDiskCloneUptoCard

/-- THE SECOND FORM's CARD OF 'laws.FnDiskClone'. -/
def fnDiskCloneUptoCard : Claim7 := { stood := { row := fnDiskCloneUptoRow, standIns := [], harness := (true, "a2785facabc163145fac87402934a125b3f8153471f7c6462b9f18aa641bedb2"), looks := false }, kinds := [], alts := [], laidByText := true, laidKinds := [.data, .pinned], laidTests := true, laidLooks := .later }
def FnDiskCloneUptoCardSaid : Prop := Claim7.holds Tryz.pinned (.plain (OpenSpec.upto fnDiskCloneSpec)) fnDiskCloneUptoCard

/-- THE SECOND FORM's CARD OF 'laws.FnDiskCloneRead'. -/
def fnDiskCloneReadUptoCard : Claim7 := { stood := { row := fnDiskCloneReadUptoRow, standIns := [], harness := (true, "a2785facabc163145fac87402934a125b3f8153471f7c6462b9f18aa641bedb2"), looks := false }, kinds := [], alts := [], laidByText := true, laidKinds := [.data, .pinned], laidTests := true, laidLooks := .later }
def FnDiskCloneReadUptoCardSaid : Prop := Claim7.holds Tryz.pinned (.plain (OpenSpec.upto fnDiskCloneReadSpec)) fnDiskCloneReadUptoCard

/-- THE SECOND FORM's CARD OF 'laws.FnDiskCloneWrite'. -/
def fnDiskCloneWriteUptoCard : Claim7 := { stood := { row := fnDiskCloneWriteUptoRow, standIns := [], harness := (true, "a2785facabc163145fac87402934a125b3f8153471f7c6462b9f18aa641bedb2"), looks := false }, kinds := [], alts := [], laidByText := true, laidKinds := [.data, .pinned], laidTests := true, laidLooks := .later }
def FnDiskCloneWriteUptoCardSaid : Prop := Claim7.holds Tryz.pinned (.plain (OpenSpec.upto fnDiskCloneWriteSpec)) fnDiskCloneWriteUptoCard
end Rows
end Go.Proofs.YthnkmdhbcpjfeaaGreatDoor
