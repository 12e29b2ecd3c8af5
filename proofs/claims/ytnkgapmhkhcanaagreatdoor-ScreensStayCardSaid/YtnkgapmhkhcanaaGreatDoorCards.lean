/-
  DERIVED. GIVEN WITH THE SEED: THE CARDS: each row of YtnkgapmhkhcanaaGreatDoorRows.lean that lists a variable, with what it lists TIED to the program's text (the seventh form; the later family's looks); each row that meets fmt, with fmt's text TOLD by the authors' own Lean function (tested against real Go, not proved from fmt's source: count such statements apart). THE CARD IS WHAT COUNTS. Prove the row's statement (the work); the ties are given (YtnkgapmhkhcanaaGreatDoorTie.lean); close each card by the builder's one call (the guide's Derived/Test/ToyasCard.lean, 'card_holds'). Laid BY PROGRAM, IN A SANDBOX (cutbox-door.mjs). By AI agents, Wed Nov 11 2026. No macro, syntax, notation, axiom, sorry.
-/
import Derived.Test.YtnkgapmhkhcanaaGreatDoorRows
import GoSem.ClaimSeven
namespace Go.Proofs.YtnkgapmhkhcanaaGreatDoor
namespace Rows

/-- THE TIED CARD OF 'signkeep2.ScreensStay'. -/
def screensStayCard : Claim7 := { stood := { row := screensStayRow, standIns := [], harness := (true, "8b5de3110bdc6da37ebfc6b3e8582faa4c358fd9a736365f76ae3df4b56ed69e"), looks := false }, kinds := [], alts := [], laidByText := true, laidKinds := [.data, .pinned], laidTests := true, laidLooks := .later }
def ScreensStayCardSaid : Prop := Claim7.holds Tryz.pinned (.plain (OpenSpec.ofChange screensStaySpec)) screensStayCard

/-- THE SECOND FORM's CARD OF 'signkeep2.ScreensStay'. -/
def screensStayUptoCard : Claim7 := { stood := { row := screensStayUptoRow, standIns := [], harness := (true, "8b5de3110bdc6da37ebfc6b3e8582faa4c358fd9a736365f76ae3df4b56ed69e"), looks := false }, kinds := [], alts := [], laidByText := true, laidKinds := [.data, .pinned], laidTests := true, laidLooks := .later }
def ScreensStayUptoCardSaid : Prop := Claim7.holds Tryz.pinned (.plain (OpenSpec.upto screensStaySpec)) screensStayUptoCard
end Rows
end Go.Proofs.YtnkgapmhkhcanaaGreatDoor
