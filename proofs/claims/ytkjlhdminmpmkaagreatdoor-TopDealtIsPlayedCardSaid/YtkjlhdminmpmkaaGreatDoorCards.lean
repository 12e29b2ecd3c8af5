/-
  DERIVED. GIVEN WITH THE SEED: THE CARDS: each row of YtkjlhdminmpmkaaGreatDoorRows.lean that lists a variable, with what it lists TIED to the program's text (the seventh form; the later family's looks); each row that meets fmt, with fmt's text TOLD by the authors' own Lean function (tested against real Go, not proved from fmt's source: count such statements apart). THE CARD IS WHAT COUNTS. Prove the row's statement (the work); the ties are given (YtkjlhdminmpmkaaGreatDoorTie.lean); close each card by the builder's one call (the guide's Derived/Test/ToyasCard.lean, 'card_holds'). Laid BY PROGRAM, IN A SANDBOX (cutbox-door.mjs). By AI agents, Wed Nov 11 2026. No macro, syntax, notation, axiom, sorry.
-/
import Derived.Test.YtkjlhdminmpmkaaGreatDoorRows
import GoSem.ClaimSeven
namespace Go.Proofs.YtkjlhdminmpmkaaGreatDoor
namespace Rows

/-- THE TIED CARD OF 'signtop.TopDealtIsPlayed'. -/
def topDealtIsPlayedCard : Claim7 := { stood := { row := topDealtIsPlayedRow, standIns := [], harness := (true, "3f23916855dec222a089bbc67d847afd800881c6b735e3f4091555058eda5403"), looks := false }, kinds := [], alts := [], laidByText := true, laidKinds := [.data, .data, .data, .data, .pinned], laidTests := true, laidLooks := .later }
def TopDealtIsPlayedCardSaid : Prop := Claim7.holds Tryz.pinned (.plain (OpenSpec.ofChange topDealtIsPlayedSpec)) topDealtIsPlayedCard

/-- THE SECOND FORM's CARD OF 'signtop.TopDealtIsPlayed'. -/
def topDealtIsPlayedUptoCard : Claim7 := { stood := { row := topDealtIsPlayedUptoRow, standIns := [], harness := (true, "3f23916855dec222a089bbc67d847afd800881c6b735e3f4091555058eda5403"), looks := false }, kinds := [], alts := [], laidByText := true, laidKinds := [.data, .data, .data, .data, .pinned], laidTests := true, laidLooks := .later }
def TopDealtIsPlayedUptoCardSaid : Prop := Claim7.holds Tryz.pinned (.plain (OpenSpec.upto topDealtIsPlayedSpec)) topDealtIsPlayedUptoCard
end Rows
end Go.Proofs.YtkjlhdminmpmkaaGreatDoor
