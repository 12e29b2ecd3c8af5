/-
  DERIVED. GIVEN WITH THE SEED: THE CARDS: each row of YtljhfffghjclfaaGreatDoorRows.lean that lists a variable, with what it lists TIED to the program's text (the seventh form; the later family's looks); each row that meets fmt, with fmt's text TOLD by the authors' own Lean function (tested against real Go, not proved from fmt's source: count such statements apart). THE CARD IS WHAT COUNTS. Prove the row's statement (the work); the ties are given (YtljhfffghjclfaaGreatDoorTie.lean); close each card by the builder's one call (the guide's Derived/Test/ToyasCard.lean, 'card_holds'). Laid BY PROGRAM, IN A SANDBOX (cutbox-door.mjs). By AI agents, Wed Nov 11 2026. No macro, syntax, notation, axiom, sorry.
-/
import Derived.Test.YtljhfffghjclfaaGreatDoorRows
import GoSem.ClaimSeven
namespace Go.Proofs.YtljhfffghjclfaaGreatDoor
namespace Rows

/-- THE TIED CARD OF 'signlaw2.AlertTexts'. -/
def alertTextsCard : Claim7 := { stood := { row := alertTextsRow, standIns := [], harness := (true, "ee320a9750e2ddb6fb1a29080999ff8bad02bf53a0430f3637514c9fc06e4d92"), looks := true }, kinds := [], alts := [], laidByText := true, laidKinds := [.data, .data, .data, .data, .sentinel, .sentinel, .pinned], laidTests := true, laidLooks := .later }
def AlertTextsCardSaid : Prop := Claim7.holds Tryz.pinned (.plain (OpenSpec.ofChange alertTextsSpec)) alertTextsCard

/-- THE SECOND FORM's CARD OF 'signlaw2.AlertTexts'. -/
def alertTextsUptoCard : Claim7 := { stood := { row := alertTextsUptoRow, standIns := [], harness := (true, "ee320a9750e2ddb6fb1a29080999ff8bad02bf53a0430f3637514c9fc06e4d92"), looks := true }, kinds := [], alts := [], laidByText := true, laidKinds := [.data, .data, .data, .data, .sentinel, .sentinel, .pinned], laidTests := true, laidLooks := .later }
def AlertTextsUptoCardSaid : Prop := Claim7.holds Tryz.pinned (.plain (OpenSpec.upto alertTextsSpec)) alertTextsUptoCard
end Rows
end Go.Proofs.YtljhfffghjclfaaGreatDoor
