/-
  DERIVED. GIVEN WITH THE SEED: THE CARDS: each row of YtekmkepojbhafaaGreatDoorRows.lean that lists a variable, with what it lists TIED to the program's text (the seventh form; the later family's looks); each row that meets fmt, with fmt's text TOLD by the authors' own Lean function (tested against real Go, not proved from fmt's source: count such statements apart). THE CARD IS WHAT COUNTS. Prove the row's statement (the work); the ties are given (YtekmkepojbhafaaGreatDoorTie.lean); close each card by the builder's one call (the guide's Derived/Test/ToyasCard.lean, 'card_holds'). Laid BY PROGRAM, IN A SANDBOX (cutbox-door.mjs). By AI agents, Wed Nov 11 2026. No macro, syntax, notation, axiom, sorry.
-/
import Derived.Test.YtekmkepojbhafaaGreatDoorRows
import GoSem.ClaimSeven
namespace Go.Proofs.YtekmkepojbhafaaGreatDoor
namespace Rows

/-- THE TIED CARD OF 'signkeep2.TightSpotsMatter'. -/
def tightSpotsMatterCard : Claim7 := { stood := { row := tightSpotsMatterRow, standIns := [], harness := (true, "4a168872063bb29ac5d78f5cc1f93bd428373cd779f2dacf74f8e12f1e7f5beb"), looks := false }, kinds := [], alts := [], laidByText := true, laidKinds := [.data, .pinned], laidTests := true, laidLooks := .later }
def TightSpotsMatterCardSaid : Prop := Claim7.holds Tryz.pinned (.plain (OpenSpec.ofChange tightSpotsMatterSpec)) tightSpotsMatterCard

/-- THE SECOND FORM's CARD OF 'signkeep2.TightSpotsMatter'. -/
def tightSpotsMatterUptoCard : Claim7 := { stood := { row := tightSpotsMatterUptoRow, standIns := [], harness := (true, "4a168872063bb29ac5d78f5cc1f93bd428373cd779f2dacf74f8e12f1e7f5beb"), looks := false }, kinds := [], alts := [], laidByText := true, laidKinds := [.data, .pinned], laidTests := true, laidLooks := .later }
def TightSpotsMatterUptoCardSaid : Prop := Claim7.holds Tryz.pinned (.plain (OpenSpec.upto tightSpotsMatterSpec)) tightSpotsMatterUptoCard
end Rows
end Go.Proofs.YtekmkepojbhafaaGreatDoor
