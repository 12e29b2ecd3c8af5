/-
  DERIVED. GIVEN WITH THE SEED: THE CARDS: each row of YtmdmgnfoojjpbaaGreatDoorRows.lean that lists a variable, with what it lists TIED to the program's text (the seventh form; the later family's looks); each row that meets fmt, with fmt's text TOLD by the authors' own Lean function (tested against real Go, not proved from fmt's source: count such statements apart). THE CARD IS WHAT COUNTS. Prove the row's statement (the work); the ties are given (YtmdmgnfoojjpbaaGreatDoorTie.lean); close each card by the builder's one call (the guide's Derived/Test/ToyasCard.lean, 'card_holds'). Laid BY PROGRAM, IN A SANDBOX (cutbox-door.mjs). By AI agents, Wed Nov 11 2026. No macro, syntax, notation, axiom, sorry.
-/
import Derived.Test.YtmdmgnfoojjpbaaGreatDoorRows
import GoSem.ClaimSeven
namespace Go.Proofs.YtmdmgnfoojjpbaaGreatDoor
namespace Rows

/-- THE TIED CARD OF 'signkeep2.TurnsComeBack'. -/
def turnsComeBackCard : Claim7 := { stood := { row := turnsComeBackRow, standIns := [], harness := (true, "e732927171ac001c65fbdb33f54348f6c7bf95cd8e88a8112457838c2964014a"), looks := false }, kinds := [], alts := [], laidByText := true, laidKinds := [.data, .pinned], laidTests := true, laidLooks := .later }
def TurnsComeBackCardSaid : Prop := Claim7.holds Tryz.pinned (.plain (OpenSpec.ofChange turnsComeBackSpec)) turnsComeBackCard

/-- THE TIED CARD OF 'signkeep2.FitsKeepForm'. -/
def fitsKeepFormCard : Claim7 := { stood := { row := fitsKeepFormRow, standIns := [], harness := (true, "e732927171ac001c65fbdb33f54348f6c7bf95cd8e88a8112457838c2964014a"), looks := false }, kinds := [], alts := [], laidByText := true, laidKinds := [.data, .pinned], laidTests := true, laidLooks := .later }
def FitsKeepFormCardSaid : Prop := Claim7.holds Tryz.pinned (.plain (OpenSpec.ofChange fitsKeepFormSpec)) fitsKeepFormCard

/-- THE SECOND FORM's CARD OF 'signkeep2.TurnsComeBack'. -/
def turnsComeBackUptoCard : Claim7 := { stood := { row := turnsComeBackUptoRow, standIns := [], harness := (true, "e732927171ac001c65fbdb33f54348f6c7bf95cd8e88a8112457838c2964014a"), looks := false }, kinds := [], alts := [], laidByText := true, laidKinds := [.data, .pinned], laidTests := true, laidLooks := .later }
def TurnsComeBackUptoCardSaid : Prop := Claim7.holds Tryz.pinned (.plain (OpenSpec.upto turnsComeBackSpec)) turnsComeBackUptoCard

/-- THE SECOND FORM's CARD OF 'signkeep2.FitsKeepForm'. -/
def fitsKeepFormUptoCard : Claim7 := { stood := { row := fitsKeepFormUptoRow, standIns := [], harness := (true, "e732927171ac001c65fbdb33f54348f6c7bf95cd8e88a8112457838c2964014a"), looks := false }, kinds := [], alts := [], laidByText := true, laidKinds := [.data, .pinned], laidTests := true, laidLooks := .later }
def FitsKeepFormUptoCardSaid : Prop := Claim7.holds Tryz.pinned (.plain (OpenSpec.upto fitsKeepFormSpec)) fitsKeepFormUptoCard
end Rows
end Go.Proofs.YtmdmgnfoojjpbaaGreatDoor
