/-
  DERIVED. GIVEN WITH THE SEED: THE CARDS: each row of YtekmkepojbhafacGreatDoorRows.lean that lists a variable, with what it lists TIED to the program's text (the seventh form; the later family's looks); each row that meets fmt, with fmt's text TOLD by the authors' own Lean function (tested against real Go, not proved from fmt's source: count such statements apart). THE CARD IS WHAT COUNTS. Prove the row's statement (the work); the ties are given (YtekmkepojbhafacGreatDoorTie.lean); close each card by the builder's one call (the guide's Derived/Test/ToyasCard.lean, 'card_holds'). Laid BY PROGRAM, IN A SANDBOX (cutbox-door.mjs). By AI agents, Wed Nov 11 2026. No macro, syntax, notation, axiom, sorry.
-/
import Derived.Test.YtekmkepojbhafacGreatDoorRows
import GoSem.ClaimSeven
namespace Go.Proofs.YtekmkepojbhafacGreatDoor
namespace Rows

/-- THE TIED CARD OF 'signkeep2.DealsHold'. -/
def dealsHoldCard : Claim7 := { stood := { row := dealsHoldRow, standIns := [], harness := (true, "5f1356e899fe4c9f76c733940f68fdf423dcd7a1fc46ab7e8c85be20f84a8777"), looks := false }, kinds := [], alts := [], laidByText := true, laidKinds := [.data, .pinned], laidTests := true, laidLooks := .later }
def DealsHoldCardSaid : Prop := Claim7.holds Tryz.pinned (.plain (OpenSpec.ofChange dealsHoldSpec)) dealsHoldCard

/-- THE SECOND FORM's CARD OF 'signkeep2.DealsHold'. -/
def dealsHoldUptoCard : Claim7 := { stood := { row := dealsHoldUptoRow, standIns := [], harness := (true, "5f1356e899fe4c9f76c733940f68fdf423dcd7a1fc46ab7e8c85be20f84a8777"), looks := false }, kinds := [], alts := [], laidByText := true, laidKinds := [.data, .pinned], laidTests := true, laidLooks := .later }
def DealsHoldUptoCardSaid : Prop := Claim7.holds Tryz.pinned (.plain (OpenSpec.upto dealsHoldSpec)) dealsHoldUptoCard
end Rows
end Go.Proofs.YtekmkepojbhafacGreatDoor
