/-
  DERIVED. GIVEN WITH THE SEED: THE CARDS: each row of YtnjnggakgeommaaGreatDoorRows.lean that lists a variable, with what it lists TIED to the program's text (the seventh form; the later family's looks); each row that meets fmt, with fmt's text TOLD by the authors' own Lean function (tested against real Go, not proved from fmt's source: count such statements apart). THE CARD IS WHAT COUNTS. Prove the row's statement (the work); the ties are given (YtnjnggakgeommaaGreatDoorTie.lean); close each card by the builder's one call (the guide's Derived/Test/ToyasCard.lean, 'card_holds'). Laid BY PROGRAM, IN A SANDBOX (cutbox-door.mjs). By AI agents, Wed Nov 11 2026. No macro, syntax, notation, axiom, sorry.
-/
import Derived.Test.YtnjnggakgeommaaGreatDoorRows
import GoSem.ClaimSeven
namespace Go.Proofs.YtnjnggakgeommaaGreatDoor
namespace Rows

/-- THE TIED CARD OF 'signlaw2.EntriesMerge'. -/
def entriesMergeCard : Claim7 := { stood := { row := entriesMergeRow, standIns := [], harness := (true, "9117392db88a4a231b647b1a155c1ad28348a424c5325dbcf6aee4b4c34ef8cb"), looks := false }, kinds := [], alts := [], laidByText := true, laidKinds := [.data, .data, .data], laidTests := true, laidLooks := .later }
def EntriesMergeCardSaid : Prop := Claim7.holds Tryz.pinned (.plain (OpenSpec.ofChange entriesMergeSpec)) entriesMergeCard

/-- THE TIED CARD OF 'signkeep2.EntriesInAnyOrder'. -/
def entriesInAnyOrderCard : Claim7 := { stood := { row := entriesInAnyOrderRow, standIns := [], harness := (true, "9117392db88a4a231b647b1a155c1ad28348a424c5325dbcf6aee4b4c34ef8cb"), looks := false }, kinds := [], alts := [], laidByText := true, laidKinds := [.data, .data, .data, .data, .pinned], laidTests := true, laidLooks := .later }
def EntriesInAnyOrderCardSaid : Prop := Claim7.holds Tryz.pinned (.plain (OpenSpec.ofChange entriesInAnyOrderSpec)) entriesInAnyOrderCard

/-- THE TIED CARD OF 'signlaw2.SchedulesThrough'. -/
def schedulesThroughCard : Claim7 := { stood := { row := schedulesThroughRow, standIns := [], harness := (true, "9117392db88a4a231b647b1a155c1ad28348a424c5325dbcf6aee4b4c34ef8cb"), looks := false }, kinds := [], alts := [], laidByText := true, laidKinds := [.data, .data, .data], laidTests := true, laidLooks := .later }
def SchedulesThroughCardSaid : Prop := Claim7.holds Tryz.pinned (.plain (OpenSpec.ofChange schedulesThroughSpec)) schedulesThroughCard

/-- THE SECOND FORM's CARD OF 'signlaw2.EntriesMerge'. -/
def entriesMergeUptoCard : Claim7 := { stood := { row := entriesMergeUptoRow, standIns := [], harness := (true, "9117392db88a4a231b647b1a155c1ad28348a424c5325dbcf6aee4b4c34ef8cb"), looks := false }, kinds := [], alts := [], laidByText := true, laidKinds := [.data, .data, .data], laidTests := true, laidLooks := .later }
def EntriesMergeUptoCardSaid : Prop := Claim7.holds Tryz.pinned (.plain (OpenSpec.upto entriesMergeSpec)) entriesMergeUptoCard

/-- THE SECOND FORM's CARD OF 'signkeep2.EntriesInAnyOrder'. -/
def entriesInAnyOrderUptoCard : Claim7 := { stood := { row := entriesInAnyOrderUptoRow, standIns := [], harness := (true, "9117392db88a4a231b647b1a155c1ad28348a424c5325dbcf6aee4b4c34ef8cb"), looks := false }, kinds := [], alts := [], laidByText := true, laidKinds := [.data, .data, .data, .data, .pinned], laidTests := true, laidLooks := .later }
def EntriesInAnyOrderUptoCardSaid : Prop := Claim7.holds Tryz.pinned (.plain (OpenSpec.upto entriesInAnyOrderSpec)) entriesInAnyOrderUptoCard

/-- THE SECOND FORM's CARD OF 'signlaw2.SchedulesThrough'. -/
def schedulesThroughUptoCard : Claim7 := { stood := { row := schedulesThroughUptoRow, standIns := [], harness := (true, "9117392db88a4a231b647b1a155c1ad28348a424c5325dbcf6aee4b4c34ef8cb"), looks := false }, kinds := [], alts := [], laidByText := true, laidKinds := [.data, .data, .data], laidTests := true, laidLooks := .later }
def SchedulesThroughUptoCardSaid : Prop := Claim7.holds Tryz.pinned (.plain (OpenSpec.upto schedulesThroughSpec)) schedulesThroughUptoCard
end Rows
end Go.Proofs.YtnjnggakgeommaaGreatDoor
