/-
  DERIVED. GIVEN WITH THE SEED: THE CARDS: each row of YtmkljmjhcegapaaGreatDoorRows.lean that lists a variable, with what it lists TIED to the program's text (the seventh form; the later family's looks); each row that meets fmt, with fmt's text TOLD by the authors' own Lean function (tested against real Go, not proved from fmt's source: count such statements apart). THE CARD IS WHAT COUNTS. Prove the row's statement (the work); the ties are given (YtmkljmjhcegapaaGreatDoorTie.lean); close each card by the builder's one call (the guide's Derived/Test/ToyasCard.lean, 'card_holds'). Laid BY PROGRAM, IN A SANDBOX (cutbox-door.mjs). By AI agents, Wed Nov 11 2026. No macro, syntax, notation, axiom, sorry.
-/
import Derived.Test.YtmkljmjhcegapaaGreatDoorRows
import GoSem.ClaimSeven
namespace Go.Proofs.YtmkljmjhcegapaaGreatDoor
namespace Rows

/-- THE TIED CARD OF 'signtop.TopSlotsAreLogged'. -/
def topSlotsAreLoggedCard : Claim7 := { stood := { row := topSlotsAreLoggedRow, standIns := [], harness := (true, "b1b8af2c733b49a2d04f01fb84ad3dd0ec004d45ad22b41a1e24844584082505"), looks := false }, kinds := [], alts := [], laidByText := true, laidKinds := [.data, .data, .data, .data, .pinned], laidTests := true, laidLooks := .later }
def TopSlotsAreLoggedCardSaid : Prop := Claim7.holds Tryz.pinned (.plain (OpenSpec.ofChange topSlotsAreLoggedSpec)) topSlotsAreLoggedCard

/-- THE SECOND FORM's CARD OF 'signtop.TopSlotsAreLogged'. -/
def topSlotsAreLoggedUptoCard : Claim7 := { stood := { row := topSlotsAreLoggedUptoRow, standIns := [], harness := (true, "b1b8af2c733b49a2d04f01fb84ad3dd0ec004d45ad22b41a1e24844584082505"), looks := false }, kinds := [], alts := [], laidByText := true, laidKinds := [.data, .data, .data, .data, .pinned], laidTests := true, laidLooks := .later }
def TopSlotsAreLoggedUptoCardSaid : Prop := Claim7.holds Tryz.pinned (.plain (OpenSpec.upto topSlotsAreLoggedSpec)) topSlotsAreLoggedUptoCard
end Rows
end Go.Proofs.YtmkljmjhcegapaaGreatDoor
