/-
  DERIVED. GIVEN WITH THE SEED: THE CARDS: each row of YtnfojnnfidnikaeGreatDoorRows.lean that lists a variable, with what it lists TIED to the program's text (the seventh form; the later family's looks); each row that meets fmt, with fmt's text TOLD by the authors' own Lean function (tested against real Go, not proved from fmt's source: count such statements apart). THE CARD IS WHAT COUNTS. Prove the row's statement (the work); the ties are given (YtnfojnnfidnikaeGreatDoorTie.lean); close each card by the builder's one call (the guide's Derived/Test/ToyasCard.lean, 'card_holds'). Laid BY PROGRAM, IN A SANDBOX (cutbox-door.mjs). By AI agents, Wed Nov 11 2026. No macro, syntax, notation, axiom, sorry.
-/
import Derived.Test.YtnfojnnfidnikaeGreatDoorRows
import GoSem.ClaimSeven
namespace Go.Proofs.YtnfojnnfidnikaeGreatDoor
namespace Rows

/-- THE TIED CARD OF 'signkeep2.ProofsStay'. -/
def proofsStayCard : Claim7 := { stood := { row := proofsStayRow, standIns := [], harness := (true, "d7314fd6b66016c5e327881058082b2fac439bacf10e50110642896a9dd9a540"), looks := false }, kinds := [], alts := [], laidByText := true, laidKinds := [.data, .data, .data, .data, .pinned], laidTests := true, laidLooks := .later }
def ProofsStayCardSaid : Prop := Claim7.holds Tryz.pinned (.plain (OpenSpec.ofChange proofsStaySpec)) proofsStayCard

/-- THE SECOND FORM's CARD OF 'signkeep2.ProofsStay'. -/
def proofsStayUptoCard : Claim7 := { stood := { row := proofsStayUptoRow, standIns := [], harness := (true, "d7314fd6b66016c5e327881058082b2fac439bacf10e50110642896a9dd9a540"), looks := false }, kinds := [], alts := [], laidByText := true, laidKinds := [.data, .data, .data, .data, .pinned], laidTests := true, laidLooks := .later }
def ProofsStayUptoCardSaid : Prop := Claim7.holds Tryz.pinned (.plain (OpenSpec.upto proofsStaySpec)) proofsStayUptoCard
end Rows
end Go.Proofs.YtnfojnnfidnikaeGreatDoor
