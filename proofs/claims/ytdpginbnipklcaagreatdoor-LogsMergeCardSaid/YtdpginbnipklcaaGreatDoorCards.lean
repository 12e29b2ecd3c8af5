/-
  DERIVED. GIVEN WITH THE SEED: THE CARDS: each row of YtdpginbnipklcaaGreatDoorRows.lean that lists a variable, with what it lists TIED to the program's text (the seventh form; the later family's looks); each row that meets fmt, with fmt's text TOLD by the authors' own Lean function (tested against real Go, not proved from fmt's source: count such statements apart). THE CARD IS WHAT COUNTS. Prove the row's statement (the work); the ties are given (YtdpginbnipklcaaGreatDoorTie.lean); close each card by the builder's one call (the guide's Derived/Test/ToyasCard.lean, 'card_holds'). Laid BY PROGRAM, IN A SANDBOX (cutbox-door.mjs). By AI agents, Wed Nov 11 2026. No macro, syntax, notation, axiom, sorry.
-/
import Derived.Test.YtdpginbnipklcaaGreatDoorRows
import GoSem.ClaimSeven
namespace Go.Proofs.YtdpginbnipklcaaGreatDoor
namespace Rows

/-- THE TIED CARD OF 'signlaw2.LogsMerge'. -/
def logsMergeCard : Claim7 := { stood := { row := logsMergeRow, standIns := [], harness := (true, "1a31fdb2ef83073a2dc532f5b972ddb3aa4faff75520aef9380e19ac67d5a3a9"), looks := false }, kinds := [], alts := [], laidByText := true, laidKinds := [.data, .data, .data, .data, .pinned], laidTests := true, laidLooks := .later }
def LogsMergeCardSaid : Prop := Claim7.holds Tryz.pinned (.plain (OpenSpec.ofChange logsMergeSpec)) logsMergeCard

/-- THE SECOND FORM's CARD OF 'signlaw2.LogsMerge'. -/
def logsMergeUptoCard : Claim7 := { stood := { row := logsMergeUptoRow, standIns := [], harness := (true, "1a31fdb2ef83073a2dc532f5b972ddb3aa4faff75520aef9380e19ac67d5a3a9"), looks := false }, kinds := [], alts := [], laidByText := true, laidKinds := [.data, .data, .data, .data, .pinned], laidTests := true, laidLooks := .later }
def LogsMergeUptoCardSaid : Prop := Claim7.holds Tryz.pinned (.plain (OpenSpec.upto logsMergeSpec)) logsMergeUptoCard
end Rows
end Go.Proofs.YtdpginbnipklcaaGreatDoor
