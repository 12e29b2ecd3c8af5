/-
  DERIVED. GIVEN WITH THE SEED: THE CARDS: each row of YtnfedlledilojaaGreatDoorRows.lean that lists a variable, with what it lists TIED to the program's text (the seventh form; the later family's looks); each row that meets fmt, with fmt's text TOLD by the authors' own Lean function (tested against real Go, not proved from fmt's source: count such statements apart). THE CARD IS WHAT COUNTS. Prove the row's statement (the work); the ties are given (YtnfedlledilojaaGreatDoorTie.lean); close each card by the builder's one call (the guide's Derived/Test/ToyasCard.lean, 'card_holds'). Laid BY PROGRAM, IN A SANDBOX (cutbox-door.mjs). By AI agents, Wed Nov 11 2026. No macro, syntax, notation, axiom, sorry.
-/
import Derived.Test.YtnfedlledilojaaGreatDoorRows
import GoSem.ClaimSeven
namespace Go.Proofs.YtnfedlledilojaaGreatDoor
namespace Rows

/-- THE TIED CARD OF 'signlaw2.LogTexts'. -/
def logTextsCard : Claim7 := { stood := { row := logTextsRow, standIns := [], harness := (true, "56abe9b4511c674ab00df15cc9c4b7a2618d6f0305133087cf3c4b081759548e"), looks := true }, kinds := [], alts := [], laidByText := true, laidKinds := [.data, .data, .data, .data, .sentinel, .sentinel, .pinned], laidTests := true, laidLooks := .later }
def LogTextsCardSaid : Prop := Claim7.holds Tryz.pinned (.plain (OpenSpec.ofChange logTextsSpec)) logTextsCard

/-- THE SECOND FORM's CARD OF 'signlaw2.LogTexts'. -/
def logTextsUptoCard : Claim7 := { stood := { row := logTextsUptoRow, standIns := [], harness := (true, "56abe9b4511c674ab00df15cc9c4b7a2618d6f0305133087cf3c4b081759548e"), looks := true }, kinds := [], alts := [], laidByText := true, laidKinds := [.data, .data, .data, .data, .sentinel, .sentinel, .pinned], laidTests := true, laidLooks := .later }
def LogTextsUptoCardSaid : Prop := Claim7.holds Tryz.pinned (.plain (OpenSpec.upto logTextsSpec)) logTextsUptoCard
end Rows
end Go.Proofs.YtnfedlledilojaaGreatDoor
