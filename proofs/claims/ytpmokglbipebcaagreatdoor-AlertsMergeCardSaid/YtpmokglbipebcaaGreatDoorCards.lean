/-
  DERIVED. GIVEN WITH THE SEED: THE CARDS: each row of YtpmokglbipebcaaGreatDoorRows.lean that lists a variable, with what it lists TIED to the program's text (the seventh form; the later family's looks); each row that meets fmt, with fmt's text TOLD by the authors' own Lean function (tested against real Go, not proved from fmt's source: count such statements apart). THE CARD IS WHAT COUNTS. Prove the row's statement (the work); the ties are given (YtpmokglbipebcaaGreatDoorTie.lean); close each card by the builder's one call (the guide's Derived/Test/ToyasCard.lean, 'card_holds'). Laid BY PROGRAM, IN A SANDBOX (cutbox-door.mjs). By AI agents, Wed Nov 11 2026. No macro, syntax, notation, axiom, sorry.
-/
import Derived.Test.YtpmokglbipebcaaGreatDoorRows
import GoSem.ClaimSeven
namespace Go.Proofs.YtpmokglbipebcaaGreatDoor
namespace Rows

/-- THE TIED CARD OF 'signlaw2.AlertsMerge'. -/
def alertsMergeCard : Claim7 := { stood := { row := alertsMergeRow, standIns := [], harness := (true, "4ad77f71278d8dc2c90248a38b8510e4d268df3ad18312e25267b639a3c33e44"), looks := false }, kinds := [], alts := [], laidByText := true, laidKinds := [.data, .data, .data, .data, .pinned], laidTests := true, laidLooks := .later }
def AlertsMergeCardSaid : Prop := Claim7.holds Tryz.pinned (.plain (OpenSpec.ofChange alertsMergeSpec)) alertsMergeCard

/-- THE TIED CARD OF 'signlaw2.AlertsInForce'. -/
def alertsInForceCard : Claim7 := { stood := { row := alertsInForceRow, standIns := [], harness := (true, "4ad77f71278d8dc2c90248a38b8510e4d268df3ad18312e25267b639a3c33e44"), looks := false }, kinds := [], alts := [], laidByText := true, laidKinds := [.data, .pinned], laidTests := true, laidLooks := .later }
def AlertsInForceCardSaid : Prop := Claim7.holds Tryz.pinned (.plain (OpenSpec.ofChange alertsInForceSpec)) alertsInForceCard

/-- THE TIED CARD OF 'signkeep2.AlertsGiveWay'. -/
def alertsGiveWayCard : Claim7 := { stood := { row := alertsGiveWayRow, standIns := [], harness := (true, "4ad77f71278d8dc2c90248a38b8510e4d268df3ad18312e25267b639a3c33e44"), looks := false }, kinds := [], alts := [], laidByText := true, laidKinds := [.data, .data, .data, .data, .pinned], laidTests := true, laidLooks := .later }
def AlertsGiveWayCardSaid : Prop := Claim7.holds Tryz.pinned (.plain (OpenSpec.ofChange alertsGiveWaySpec)) alertsGiveWayCard

/-- THE SECOND FORM's CARD OF 'signlaw2.AlertsMerge'. -/
def alertsMergeUptoCard : Claim7 := { stood := { row := alertsMergeUptoRow, standIns := [], harness := (true, "4ad77f71278d8dc2c90248a38b8510e4d268df3ad18312e25267b639a3c33e44"), looks := false }, kinds := [], alts := [], laidByText := true, laidKinds := [.data, .data, .data, .data, .pinned], laidTests := true, laidLooks := .later }
def AlertsMergeUptoCardSaid : Prop := Claim7.holds Tryz.pinned (.plain (OpenSpec.upto alertsMergeSpec)) alertsMergeUptoCard

/-- THE SECOND FORM's CARD OF 'signlaw2.AlertsInForce'. -/
def alertsInForceUptoCard : Claim7 := { stood := { row := alertsInForceUptoRow, standIns := [], harness := (true, "4ad77f71278d8dc2c90248a38b8510e4d268df3ad18312e25267b639a3c33e44"), looks := false }, kinds := [], alts := [], laidByText := true, laidKinds := [.data, .pinned], laidTests := true, laidLooks := .later }
def AlertsInForceUptoCardSaid : Prop := Claim7.holds Tryz.pinned (.plain (OpenSpec.upto alertsInForceSpec)) alertsInForceUptoCard

/-- THE SECOND FORM's CARD OF 'signkeep2.AlertsGiveWay'. -/
def alertsGiveWayUptoCard : Claim7 := { stood := { row := alertsGiveWayUptoRow, standIns := [], harness := (true, "4ad77f71278d8dc2c90248a38b8510e4d268df3ad18312e25267b639a3c33e44"), looks := false }, kinds := [], alts := [], laidByText := true, laidKinds := [.data, .data, .data, .data, .pinned], laidTests := true, laidLooks := .later }
def AlertsGiveWayUptoCardSaid : Prop := Claim7.holds Tryz.pinned (.plain (OpenSpec.upto alertsGiveWaySpec)) alertsGiveWayUptoCard
end Rows
end Go.Proofs.YtpmokglbipebcaaGreatDoor
