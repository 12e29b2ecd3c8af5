/-
  DERIVED. GIVEN WITH THE SEED: THE CARDS: each row of YtekmkepojbhafabGreatDoorRows.lean that lists a variable, with what it lists TIED to the program's text (the seventh form; the later family's looks); each row that meets fmt, with fmt's text TOLD by the authors' own Lean function (tested against real Go, not proved from fmt's source: count such statements apart). THE CARD IS WHAT COUNTS. Prove the row's statement (the work); the ties are given (YtekmkepojbhafabGreatDoorTie.lean); close each card by the builder's one call (the guide's Derived/Test/ToyasCard.lean, 'card_holds'). Laid BY PROGRAM, IN A SANDBOX (cutbox-door.mjs). By AI agents, Wed Nov 11 2026. No macro, syntax, notation, axiom, sorry.
-/
import Derived.Test.YtekmkepojbhafabGreatDoorRows
import GoSem.ClaimSeven
namespace Go.Proofs.YtekmkepojbhafabGreatDoor
namespace Rows

/-- THE TIED CARD OF 'signkeep2.LeftCanBeHad'. -/
def leftCanBeHadCard : Claim7 := { stood := { row := leftCanBeHadRow, standIns := [], harness := (true, "65078138a8f8e25335e623d358aa3d5f496823ccf0d743c081f67230b762a08b"), looks := false }, kinds := [], alts := [], laidByText := true, laidKinds := [.data, .pinned], laidTests := true, laidLooks := .later }
def LeftCanBeHadCardSaid : Prop := Claim7.holds Tryz.pinned (.plain (OpenSpec.ofChange leftCanBeHadSpec)) leftCanBeHadCard

/-- THE SECOND FORM's CARD OF 'signkeep2.LeftCanBeHad'. -/
def leftCanBeHadUptoCard : Claim7 := { stood := { row := leftCanBeHadUptoRow, standIns := [], harness := (true, "65078138a8f8e25335e623d358aa3d5f496823ccf0d743c081f67230b762a08b"), looks := false }, kinds := [], alts := [], laidByText := true, laidKinds := [.data, .pinned], laidTests := true, laidLooks := .later }
def LeftCanBeHadUptoCardSaid : Prop := Claim7.holds Tryz.pinned (.plain (OpenSpec.upto leftCanBeHadSpec)) leftCanBeHadUptoCard
end Rows
end Go.Proofs.YtekmkepojbhafabGreatDoor
