/-
  DERIVED. GIVEN WITH THE SEED: THE CARDS: each row of YtljhfffghjclfabGreatDoorRows.lean that lists a variable, with what it lists TIED to the program's text (the seventh form; the later family's looks); each row that meets fmt, with fmt's text TOLD by the authors' own Lean function (tested against real Go, not proved from fmt's source: count such statements apart). THE CARD IS WHAT COUNTS. Prove the row's statement (the work); the ties are given (YtljhfffghjclfabGreatDoorTie.lean); close each card by the builder's one call (the guide's Derived/Test/ToyasCard.lean, 'card_holds'). Laid BY PROGRAM, IN A SANDBOX (cutbox-door.mjs). By AI agents, Wed Nov 11 2026. No macro, syntax, notation, axiom, sorry.
-/
import Derived.Test.YtljhfffghjclfabGreatDoorRows
import GoSem.ClaimSeven
namespace Go.Proofs.YtljhfffghjclfabGreatDoor
namespace Rows

/-- THE TIED CARD OF 'signkeep2.AlertsComeBack'. -/
def alertsComeBackCard : Claim7 := { stood := { row := alertsComeBackRow, standIns := [], harness := (true, "9bb8b97e67dbab1b4d2b450f2b7beda786a5bc8ce19312a57e0b08b858aee630"), looks := true }, kinds := [], alts := [], laidByText := true, laidKinds := [.data, .data, .data, .data, .sentinel, .sentinel, .pinned], laidTests := true, laidLooks := .later }
def AlertsComeBackCardSaid : Prop := Claim7.holds Tryz.pinned (.plain (OpenSpec.ofChange alertsComeBackSpec)) alertsComeBackCard

/-- THE SECOND FORM's CARD OF 'signkeep2.AlertsComeBack'. -/
def alertsComeBackUptoCard : Claim7 := { stood := { row := alertsComeBackUptoRow, standIns := [], harness := (true, "9bb8b97e67dbab1b4d2b450f2b7beda786a5bc8ce19312a57e0b08b858aee630"), looks := true }, kinds := [], alts := [], laidByText := true, laidKinds := [.data, .data, .data, .data, .sentinel, .sentinel, .pinned], laidTests := true, laidLooks := .later }
def AlertsComeBackUptoCardSaid : Prop := Claim7.holds Tryz.pinned (.plain (OpenSpec.upto alertsComeBackSpec)) alertsComeBackUptoCard
end Rows
end Go.Proofs.YtljhfffghjclfabGreatDoor
