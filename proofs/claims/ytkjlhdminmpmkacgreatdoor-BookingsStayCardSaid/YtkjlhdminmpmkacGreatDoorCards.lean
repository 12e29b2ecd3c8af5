/-
  DERIVED. GIVEN WITH THE SEED: THE CARDS: each row of YtkjlhdminmpmkacGreatDoorRows.lean that lists a variable, with what it lists TIED to the program's text (the seventh form; the later family's looks); each row that meets fmt, with fmt's text TOLD by the authors' own Lean function (tested against real Go, not proved from fmt's source: count such statements apart). THE CARD IS WHAT COUNTS. Prove the row's statement (the work); the ties are given (YtkjlhdminmpmkacGreatDoorTie.lean); close each card by the builder's one call (the guide's Derived/Test/ToyasCard.lean, 'card_holds'). Laid BY PROGRAM, IN A SANDBOX (cutbox-door.mjs). By AI agents, Wed Nov 11 2026. No macro, syntax, notation, axiom, sorry.
-/
import Derived.Test.YtkjlhdminmpmkacGreatDoorRows
import GoSem.ClaimSeven
namespace Go.Proofs.YtkjlhdminmpmkacGreatDoor
namespace Rows

/-- THE TIED CARD OF 'signkeep2.BookingsStay'. -/
def bookingsStayCard : Claim7 := { stood := { row := bookingsStayRow, standIns := [], harness := (true, "3eec1863f36a0ae9250284684197ad251baeb366bd1ae09dab70538aaba446d6"), looks := false }, kinds := [], alts := [], laidByText := true, laidKinds := [.data, .data, .data, .data, .pinned], laidTests := true, laidLooks := .later }
def BookingsStayCardSaid : Prop := Claim7.holds Tryz.pinned (.plain (OpenSpec.ofChange bookingsStaySpec)) bookingsStayCard

/-- THE SECOND FORM's CARD OF 'signkeep2.BookingsStay'. -/
def bookingsStayUptoCard : Claim7 := { stood := { row := bookingsStayUptoRow, standIns := [], harness := (true, "3eec1863f36a0ae9250284684197ad251baeb366bd1ae09dab70538aaba446d6"), looks := false }, kinds := [], alts := [], laidByText := true, laidKinds := [.data, .data, .data, .data, .pinned], laidTests := true, laidLooks := .later }
def BookingsStayUptoCardSaid : Prop := Claim7.holds Tryz.pinned (.plain (OpenSpec.upto bookingsStaySpec)) bookingsStayUptoCard
end Rows
end Go.Proofs.YtkjlhdminmpmkacGreatDoor
