/-
  DERIVED. GIVEN WITH THE SEED: THE CARDS: each row of YtekmkepojbhafaeGreatDoorRows.lean that lists a variable, with what it lists TIED to the program's text (the seventh form; the later family's looks); each row that meets fmt, with fmt's text TOLD by the authors' own Lean function (tested against real Go, not proved from fmt's source: count such statements apart). THE CARD IS WHAT COUNTS. Prove the row's statement (the work); the ties are given (YtekmkepojbhafaeGreatDoorTie.lean); close each card by the builder's one call (the guide's Derived/Test/ToyasCard.lean, 'card_holds'). Laid BY PROGRAM, IN A SANDBOX (cutbox-door.mjs). By AI agents, Wed Nov 11 2026. No macro, syntax, notation, axiom, sorry.
-/
import Derived.Test.YtekmkepojbhafaeGreatDoorRows
import GoSem.ClaimSeven
namespace Go.Proofs.YtekmkepojbhafaeGreatDoor
namespace Rows

/-- THE TIED CARD OF 'signlaw2.AlertsInForce'. -/
def alertsInForceCard : Claim7 := { stood := { row := alertsInForceRow, standIns := [], harness := (true, "5e2d5c162620c67fd8b2560854d25c01dd1b1bde1227215ca2d20ba1f2c1355d"), looks := false }, kinds := [], alts := [], laidByText := true, laidKinds := [.data, .pinned], laidTests := true, laidLooks := .later }
def AlertsInForceCardSaid : Prop := Claim7.holds Tryz.pinned (.plain (OpenSpec.ofChange alertsInForceSpec)) alertsInForceCard

/-- THE SECOND FORM's CARD OF 'signlaw2.AlertsInForce'. -/
def alertsInForceUptoCard : Claim7 := { stood := { row := alertsInForceUptoRow, standIns := [], harness := (true, "5e2d5c162620c67fd8b2560854d25c01dd1b1bde1227215ca2d20ba1f2c1355d"), looks := false }, kinds := [], alts := [], laidByText := true, laidKinds := [.data, .pinned], laidTests := true, laidLooks := .later }
def AlertsInForceUptoCardSaid : Prop := Claim7.holds Tryz.pinned (.plain (OpenSpec.upto alertsInForceSpec)) alertsInForceUptoCard
end Rows
end Go.Proofs.YtekmkepojbhafaeGreatDoor
