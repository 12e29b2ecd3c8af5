/-
  DERIVED. GIVEN WITH THE SEED: THE CARDS: each row of YthcdokkcamcnmaaGreatDoorRows.lean that lists a variable, with what it lists TIED to the program's text (the seventh form; the later family's looks); each row that meets fmt, with fmt's text TOLD by the authors' own Lean function (tested against real Go, not proved from fmt's source: count such statements apart). THE CARD IS WHAT COUNTS. Prove the row's statement (the work); the ties are given (YthcdokkcamcnmaaGreatDoorTie.lean); close each card by the builder's one call (the guide's Derived/Test/ToyasCard.lean, 'card_holds'). Laid BY PROGRAM, IN A SANDBOX (cutbox-door.mjs). By AI agents, Wed Nov 11 2026. No macro, syntax, notation, axiom, sorry.
-/
import Derived.Test.YthcdokkcamcnmaaGreatDoorRows
import GoSem.ClaimSeven
namespace Go.Proofs.YthcdokkcamcnmaaGreatDoor
namespace Rows

/-- THE TIED CARD OF 'signlaw2.SchedulesThrough'. -/
def schedulesThroughCard : Claim7 := { stood := { row := schedulesThroughRow, standIns := [], harness := (true, "09a972fe640a43ace4cad3671363258de3a53ed1c4e3cfd21b46ae496eb7bedd"), looks := false }, kinds := [], alts := [], laidByText := true, laidKinds := [.data, .data, .data], laidTests := true, laidLooks := .later }
def SchedulesThroughCardSaid : Prop := Claim7.holds Tryz.pinned (.plain (OpenSpec.ofChange schedulesThroughSpec)) schedulesThroughCard

/-- THE SECOND FORM's CARD OF 'signlaw2.SchedulesThrough'. -/
def schedulesThroughUptoCard : Claim7 := { stood := { row := schedulesThroughUptoRow, standIns := [], harness := (true, "09a972fe640a43ace4cad3671363258de3a53ed1c4e3cfd21b46ae496eb7bedd"), looks := false }, kinds := [], alts := [], laidByText := true, laidKinds := [.data, .data, .data], laidTests := true, laidLooks := .later }
def SchedulesThroughUptoCardSaid : Prop := Claim7.holds Tryz.pinned (.plain (OpenSpec.upto schedulesThroughSpec)) schedulesThroughUptoCard
end Rows
end Go.Proofs.YthcdokkcamcnmaaGreatDoor
