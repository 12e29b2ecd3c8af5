/-
  DERIVED. GIVEN WITH THE SEED: THE CARDS: each row of YtkjlhdminmpmkabGreatDoorRows.lean that lists a variable, with what it lists TIED to the program's text (the seventh form; the later family's looks); each row that meets fmt, with fmt's text TOLD by the authors' own Lean function (tested against real Go, not proved from fmt's source: count such statements apart). THE CARD IS WHAT COUNTS. Prove the row's statement (the work); the ties are given (YtkjlhdminmpmkabGreatDoorTie.lean); close each card by the builder's one call (the guide's Derived/Test/ToyasCard.lean, 'card_holds'). Laid BY PROGRAM, IN A SANDBOX (cutbox-door.mjs). By AI agents, Wed Nov 11 2026. No macro, syntax, notation, axiom, sorry.
-/
import Derived.Test.YtkjlhdminmpmkabGreatDoorRows
import GoSem.ClaimSeven
namespace Go.Proofs.YtkjlhdminmpmkabGreatDoor
namespace Rows

/-- THE TIED CARD OF 'signkeep2.AlertsGiveWay'. -/
def alertsGiveWayCard : Claim7 := { stood := { row := alertsGiveWayRow, standIns := [], harness := (true, "e014f86e77e28a685574384beab554c5966a46b9e12f12769f3677b016b4b47c"), looks := false }, kinds := [], alts := [], laidByText := true, laidKinds := [.data, .data, .data, .data, .pinned], laidTests := true, laidLooks := .later }
def AlertsGiveWayCardSaid : Prop := Claim7.holds Tryz.pinned (.plain (OpenSpec.ofChange alertsGiveWaySpec)) alertsGiveWayCard

/-- THE SECOND FORM's CARD OF 'signkeep2.AlertsGiveWay'. -/
def alertsGiveWayUptoCard : Claim7 := { stood := { row := alertsGiveWayUptoRow, standIns := [], harness := (true, "e014f86e77e28a685574384beab554c5966a46b9e12f12769f3677b016b4b47c"), looks := false }, kinds := [], alts := [], laidByText := true, laidKinds := [.data, .data, .data, .data, .pinned], laidTests := true, laidLooks := .later }
def AlertsGiveWayUptoCardSaid : Prop := Claim7.holds Tryz.pinned (.plain (OpenSpec.upto alertsGiveWaySpec)) alertsGiveWayUptoCard
end Rows
end Go.Proofs.YtkjlhdminmpmkabGreatDoor
