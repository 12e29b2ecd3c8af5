/-
  DERIVED. GIVEN WITH THE SEED: THE CARDS: each row of YtadpbmfnnlkdlabGreatDoorRows.lean that lists a variable, with what it lists TIED to the program's text (the seventh form; the later family's looks); each row that meets fmt, with fmt's text TOLD by the authors' own Lean function (tested against real Go, not proved from fmt's source: count such statements apart). THE CARD IS WHAT COUNTS. Prove the row's statement (the work); the ties are given (YtadpbmfnnlkdlabGreatDoorTie.lean); close each card by the builder's one call (the guide's Derived/Test/ToyasCard.lean, 'card_holds'). Laid BY PROGRAM, IN A SANDBOX (cutbox-door.mjs). By AI agents, Wed Nov 11 2026. No macro, syntax, notation, axiom, sorry.
-/
import Derived.Test.YtadpbmfnnlkdlabGreatDoorRows
import GoSem.ClaimSeven
namespace Go.Proofs.YtadpbmfnnlkdlabGreatDoor
namespace Rows

/-- THE TIED CARD OF 'signkeep2.SchedulesStay'. -/
def schedulesStayCard : Claim7 := { stood := { row := schedulesStayRow, standIns := [], harness := (true, "74e4cad57bcd1692713328118b4e7493d8544a1d9f6b0e2beab284890cc0722c"), looks := false }, kinds := [], alts := [], laidByText := true, laidKinds := [.data, .data, .data, .data, .pinned], laidTests := true, laidLooks := .later }
def SchedulesStayCardSaid : Prop := Claim7.holds Tryz.pinned (.plain (OpenSpec.ofChange schedulesStaySpec)) schedulesStayCard

/-- THE SECOND FORM's CARD OF 'signkeep2.SchedulesStay'. -/
def schedulesStayUptoCard : Claim7 := { stood := { row := schedulesStayUptoRow, standIns := [], harness := (true, "74e4cad57bcd1692713328118b4e7493d8544a1d9f6b0e2beab284890cc0722c"), looks := false }, kinds := [], alts := [], laidByText := true, laidKinds := [.data, .data, .data, .data, .pinned], laidTests := true, laidLooks := .later }
def SchedulesStayUptoCardSaid : Prop := Claim7.holds Tryz.pinned (.plain (OpenSpec.upto schedulesStaySpec)) schedulesStayUptoCard
end Rows
end Go.Proofs.YtadpbmfnnlkdlabGreatDoor
