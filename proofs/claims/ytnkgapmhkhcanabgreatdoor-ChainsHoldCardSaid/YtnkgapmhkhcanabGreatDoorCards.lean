/-
  DERIVED. GIVEN WITH THE SEED: THE CARDS: each row of YtnkgapmhkhcanabGreatDoorRows.lean that lists a variable, with what it lists TIED to the program's text (the seventh form; the later family's looks); each row that meets fmt, with fmt's text TOLD by the authors' own Lean function (tested against real Go, not proved from fmt's source: count such statements apart). THE CARD IS WHAT COUNTS. Prove the row's statement (the work); the ties are given (YtnkgapmhkhcanabGreatDoorTie.lean); close each card by the builder's one call (the guide's Derived/Test/ToyasCard.lean, 'card_holds'). Laid BY PROGRAM, IN A SANDBOX (cutbox-door.mjs). By AI agents, Wed Nov 11 2026. No macro, syntax, notation, axiom, sorry.
-/
import Derived.Test.YtnkgapmhkhcanabGreatDoorRows
import GoSem.ClaimSeven
namespace Go.Proofs.YtnkgapmhkhcanabGreatDoor
namespace Rows

/-- THE TIED CARD OF 'signkeep2.ChainsHold'. -/
def chainsHoldCard : Claim7 := { stood := { row := chainsHoldRow, standIns := [], harness := (true, "c03b616d8f270eaa81a37db7bf0d3bdbac61baf5e025af067b4b9cceaada252b"), looks := true }, kinds := [], alts := [], laidByText := true, laidKinds := [.data, .data, .data, .data, .sentinel, .sentinel, .pinned], laidTests := true, laidLooks := .later }
def ChainsHoldCardSaid : Prop := Claim7.holds Tryz.pinned (.plain (OpenSpec.ofChange chainsHoldSpec)) chainsHoldCard

/-- THE SECOND FORM's CARD OF 'signkeep2.ChainsHold'. -/
def chainsHoldUptoCard : Claim7 := { stood := { row := chainsHoldUptoRow, standIns := [], harness := (true, "c03b616d8f270eaa81a37db7bf0d3bdbac61baf5e025af067b4b9cceaada252b"), looks := true }, kinds := [], alts := [], laidByText := true, laidKinds := [.data, .data, .data, .data, .sentinel, .sentinel, .pinned], laidTests := true, laidLooks := .later }
def ChainsHoldUptoCardSaid : Prop := Claim7.holds Tryz.pinned (.plain (OpenSpec.upto chainsHoldSpec)) chainsHoldUptoCard
end Rows
end Go.Proofs.YtnkgapmhkhcanabGreatDoor
