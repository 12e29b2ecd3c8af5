/-
  DERIVED. GIVEN WITH THE SEED: THE CARDS: each row of YticmkhcacamhkaaGreatDoorRows.lean that lists a variable, with what it lists TIED to the program's text (the seventh form; the later family's looks); each row that meets fmt, with fmt's text TOLD by the authors' own Lean function (tested against real Go, not proved from fmt's source: count such statements apart). THE CARD IS WHAT COUNTS. Prove the row's statement (the work); the ties are given (YticmkhcacamhkaaGreatDoorTie.lean); close each card by the builder's one call (the guide's Derived/Test/ToyasCard.lean, 'card_holds'). Laid BY PROGRAM, IN A SANDBOX (cutbox-door.mjs). By AI agents, Wed Nov 11 2026. No macro, syntax, notation, axiom, sorry.
-/
import Derived.Test.YticmkhcacamhkaaGreatDoorRows
import GoSem.ClaimSeven
namespace Go.Proofs.YticmkhcacamhkaaGreatDoor
namespace Rows

/-- THE TIED CARD OF 'signtop.TopAlertsOverAll'. -/
def topAlertsOverAllCard : Claim7 := { stood := { row := topAlertsOverAllRow, standIns := [], harness := (true, "f1fa10190d01cf30bb63095e638a5ebf0f3eacef4aceed1a02513d3730954368"), looks := false }, kinds := [], alts := [], laidByText := true, laidKinds := [.data, .pinned], laidTests := true, laidLooks := .later }
def TopAlertsOverAllCardSaid : Prop := Claim7.holds Tryz.pinned (.plain (OpenSpec.ofChange topAlertsOverAllSpec)) topAlertsOverAllCard

/-- THE SECOND FORM's CARD OF 'signtop.TopAlertsOverAll'. -/
def topAlertsOverAllUptoCard : Claim7 := { stood := { row := topAlertsOverAllUptoRow, standIns := [], harness := (true, "f1fa10190d01cf30bb63095e638a5ebf0f3eacef4aceed1a02513d3730954368"), looks := false }, kinds := [], alts := [], laidByText := true, laidKinds := [.data, .pinned], laidTests := true, laidLooks := .later }
def TopAlertsOverAllUptoCardSaid : Prop := Claim7.holds Tryz.pinned (.plain (OpenSpec.upto topAlertsOverAllSpec)) topAlertsOverAllUptoCard
end Rows
end Go.Proofs.YticmkhcacamhkaaGreatDoor
