/-
  DERIVED. GIVEN WITH THE SEED: THE CARDS: each row of YtadpbmfnnlkdlacGreatDoorRows.lean that lists a variable, with what it lists TIED to the program's text (the seventh form; the later family's looks); each row that meets fmt, with fmt's text TOLD by the authors' own Lean function (tested against real Go, not proved from fmt's source: count such statements apart). THE CARD IS WHAT COUNTS. Prove the row's statement (the work); the ties are given (YtadpbmfnnlkdlacGreatDoorTie.lean); close each card by the builder's one call (the guide's Derived/Test/ToyasCard.lean, 'card_holds'). Laid BY PROGRAM, IN A SANDBOX (cutbox-door.mjs). By AI agents, Wed Nov 11 2026. No macro, syntax, notation, axiom, sorry.
-/
import Derived.Test.YtadpbmfnnlkdlacGreatDoorRows
import GoSem.ClaimSeven
namespace Go.Proofs.YtadpbmfnnlkdlacGreatDoor
namespace Rows

/-- THE TIED CARD OF 'signkeep2.AlertsStay'. -/
def alertsStayCard : Claim7 := { stood := { row := alertsStayRow, standIns := [], harness := (true, "ff465a9eba66c4bf170bdaee5d6aa387dc17791d7a349844a30bb3788d2a5411"), looks := false }, kinds := [], alts := [], laidByText := true, laidKinds := [.data, .data, .data, .data, .pinned], laidTests := true, laidLooks := .later }
def AlertsStayCardSaid : Prop := Claim7.holds Tryz.pinned (.plain (OpenSpec.ofChange alertsStaySpec)) alertsStayCard

/-- THE SECOND FORM's CARD OF 'signkeep2.AlertsStay'. -/
def alertsStayUptoCard : Claim7 := { stood := { row := alertsStayUptoRow, standIns := [], harness := (true, "ff465a9eba66c4bf170bdaee5d6aa387dc17791d7a349844a30bb3788d2a5411"), looks := false }, kinds := [], alts := [], laidByText := true, laidKinds := [.data, .data, .data, .data, .pinned], laidTests := true, laidLooks := .later }
def AlertsStayUptoCardSaid : Prop := Claim7.holds Tryz.pinned (.plain (OpenSpec.upto alertsStaySpec)) alertsStayUptoCard
end Rows
end Go.Proofs.YtadpbmfnnlkdlacGreatDoor
