/-
  DERIVED. GIVEN WITH THE SEED: THE CARDS: each row of YtigdobmllbakiaaGreatDoorRows.lean that lists a variable, with what it lists TIED to the program's text (the seventh form; the later family's looks); each row that meets fmt, with fmt's text TOLD by the authors' own Lean function (tested against real Go, not proved from fmt's source: count such statements apart). THE CARD IS WHAT COUNTS. Prove the row's statement (the work); the ties are given (YtigdobmllbakiaaGreatDoorTie.lean); close each card by the builder's one call (the guide's Derived/Test/ToyasCard.lean, 'card_holds'). Laid BY PROGRAM, IN A SANDBOX (cutbox-door.mjs). By AI agents, Wed Nov 11 2026. No macro, syntax, notation, axiom, sorry.
-/
import Derived.Test.YtigdobmllbakiaaGreatDoorRows
import GoSem.ClaimSeven
namespace Go.Proofs.YtigdobmllbakiaaGreatDoor
namespace Rows

/-- THE TIED CARD OF 'signkeep2.EntriesComeBack'. -/
def entriesComeBackCard : Claim7 := { stood := { row := entriesComeBackRow, standIns := [], harness := (true, "476b5f5e487bbcb7fd1d6163a4cf52ffcdae33d0ef3b705be87e26b1a65a3777"), looks := true }, kinds := [], alts := [], laidByText := true, laidKinds := [.data, .data, .data, .data, .sentinel, .sentinel, .pinned], laidTests := true, laidLooks := .later }
def EntriesComeBackCardSaid : Prop := Claim7.holds Tryz.pinned (.plain (OpenSpec.ofChange entriesComeBackSpec)) entriesComeBackCard

/-- THE SECOND FORM's CARD OF 'signkeep2.EntriesComeBack'. -/
def entriesComeBackUptoCard : Claim7 := { stood := { row := entriesComeBackUptoRow, standIns := [], harness := (true, "476b5f5e487bbcb7fd1d6163a4cf52ffcdae33d0ef3b705be87e26b1a65a3777"), looks := true }, kinds := [], alts := [], laidByText := true, laidKinds := [.data, .data, .data, .data, .sentinel, .sentinel, .pinned], laidTests := true, laidLooks := .later }
def EntriesComeBackUptoCardSaid : Prop := Claim7.holds Tryz.pinned (.plain (OpenSpec.upto entriesComeBackSpec)) entriesComeBackUptoCard
end Rows
end Go.Proofs.YtigdobmllbakiaaGreatDoor
