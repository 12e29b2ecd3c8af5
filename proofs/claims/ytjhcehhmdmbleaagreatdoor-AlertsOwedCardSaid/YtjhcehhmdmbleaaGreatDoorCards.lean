/-
  DERIVED. GIVEN WITH THE SEED: THE CARDS: each row of YtjhcehhmdmbleaaGreatDoorRows.lean that lists a variable, with what it lists TIED to the program's text (the seventh form; the later family's looks); each row that meets fmt, with fmt's text TOLD by the authors' own Lean function (tested against real Go, not proved from fmt's source: count such statements apart). THE CARD IS WHAT COUNTS. Prove the row's statement (the work); the ties are given (YtjhcehhmdmbleaaGreatDoorTie.lean); close each card by the builder's one call (the guide's Derived/Test/ToyasCard.lean, 'card_holds'). Laid BY PROGRAM, IN A SANDBOX (cutbox-door.mjs). By AI agents, Wed Nov 11 2026. No macro, syntax, notation, axiom, sorry.
-/
import Derived.Test.YtjhcehhmdmbleaaGreatDoorRows
import GoSem.ClaimSeven
namespace Go.Proofs.YtjhcehhmdmbleaaGreatDoor
namespace Rows

/-- THE TIED CARD OF 'signkeep2.ViewsAreApart'. -/
def viewsAreApartCard : Claim7 := { stood := { row := viewsAreApartRow, standIns := [], harness := (true, "d2e927084698520c6f8a4998fb8f01969aca0dbb45c01de68c57abd150a6280e"), looks := false }, kinds := [], alts := [], laidByText := true, laidKinds := [.data, .pinned], laidTests := true, laidLooks := .later }
def ViewsAreApartCardSaid : Prop := Claim7.holds Tryz.pinned (.plain (OpenSpec.ofChange viewsAreApartSpec)) viewsAreApartCard

/-- THE TIED CARD OF 'signlaw2.AlertsThrough'. -/
def alertsThroughCard : Claim7 := { stood := { row := alertsThroughRow, standIns := [], harness := (true, "d2e927084698520c6f8a4998fb8f01969aca0dbb45c01de68c57abd150a6280e"), looks := false }, kinds := [], alts := [], laidByText := true, laidKinds := [.data, .pinned], laidTests := true, laidLooks := .later }
def AlertsThroughCardSaid : Prop := Claim7.holds Tryz.pinned (.plain (OpenSpec.ofChange alertsThroughSpec)) alertsThroughCard

/-- THE TIED CARD OF 'signkeep2.SchedulesAgree'. -/
def schedulesAgreeCard : Claim7 := { stood := { row := schedulesAgreeRow, standIns := [], harness := (true, "d2e927084698520c6f8a4998fb8f01969aca0dbb45c01de68c57abd150a6280e"), looks := false }, kinds := [], alts := [], laidByText := true, laidKinds := [.data, .pinned], laidTests := true, laidLooks := .later }
def SchedulesAgreeCardSaid : Prop := Claim7.holds Tryz.pinned (.plain (OpenSpec.ofChange schedulesAgreeSpec)) schedulesAgreeCard

/-- THE TIED CARD OF 'signkeep2.NextIsNext'. -/
def nextIsNextCard : Claim7 := { stood := { row := nextIsNextRow, standIns := [], harness := (true, "d2e927084698520c6f8a4998fb8f01969aca0dbb45c01de68c57abd150a6280e"), looks := false }, kinds := [], alts := [], laidByText := true, laidKinds := [.data, .pinned], laidTests := true, laidLooks := .later }
def NextIsNextCardSaid : Prop := Claim7.holds Tryz.pinned (.plain (OpenSpec.ofChange nextIsNextSpec)) nextIsNextCard

/-- THE TIED CARD OF 'signkeep2.DebtsAreJust'. -/
def debtsAreJustCard : Claim7 := { stood := { row := debtsAreJustRow, standIns := [], harness := (true, "d2e927084698520c6f8a4998fb8f01969aca0dbb45c01de68c57abd150a6280e"), looks := false }, kinds := [], alts := [], laidByText := true, laidKinds := [.data, .pinned], laidTests := true, laidLooks := .later }
def DebtsAreJustCardSaid : Prop := Claim7.holds Tryz.pinned (.plain (OpenSpec.ofChange debtsAreJustSpec)) debtsAreJustCard

/-- THE TIED CARD OF 'signlaw2.AlertsOwed'. -/
def alertsOwedCard : Claim7 := { stood := { row := alertsOwedRow, standIns := [], harness := (true, "d2e927084698520c6f8a4998fb8f01969aca0dbb45c01de68c57abd150a6280e"), looks := false }, kinds := [], alts := [], laidByText := true, laidKinds := [.data, .pinned], laidTests := true, laidLooks := .later }
def AlertsOwedCardSaid : Prop := Claim7.holds Tryz.pinned (.plain (OpenSpec.ofChange alertsOwedSpec)) alertsOwedCard

/-- THE SECOND FORM's CARD OF 'signkeep2.ViewsAreApart'. -/
def viewsAreApartUptoCard : Claim7 := { stood := { row := viewsAreApartUptoRow, standIns := [], harness := (true, "d2e927084698520c6f8a4998fb8f01969aca0dbb45c01de68c57abd150a6280e"), looks := false }, kinds := [], alts := [], laidByText := true, laidKinds := [.data, .pinned], laidTests := true, laidLooks := .later }
def ViewsAreApartUptoCardSaid : Prop := Claim7.holds Tryz.pinned (.plain (OpenSpec.upto viewsAreApartSpec)) viewsAreApartUptoCard

/-- THE SECOND FORM's CARD OF 'signlaw2.AlertsThrough'. -/
def alertsThroughUptoCard : Claim7 := { stood := { row := alertsThroughUptoRow, standIns := [], harness := (true, "d2e927084698520c6f8a4998fb8f01969aca0dbb45c01de68c57abd150a6280e"), looks := false }, kinds := [], alts := [], laidByText := true, laidKinds := [.data, .pinned], laidTests := true, laidLooks := .later }
def AlertsThroughUptoCardSaid : Prop := Claim7.holds Tryz.pinned (.plain (OpenSpec.upto alertsThroughSpec)) alertsThroughUptoCard

/-- THE SECOND FORM's CARD OF 'signkeep2.SchedulesAgree'. -/
def schedulesAgreeUptoCard : Claim7 := { stood := { row := schedulesAgreeUptoRow, standIns := [], harness := (true, "d2e927084698520c6f8a4998fb8f01969aca0dbb45c01de68c57abd150a6280e"), looks := false }, kinds := [], alts := [], laidByText := true, laidKinds := [.data, .pinned], laidTests := true, laidLooks := .later }
def SchedulesAgreeUptoCardSaid : Prop := Claim7.holds Tryz.pinned (.plain (OpenSpec.upto schedulesAgreeSpec)) schedulesAgreeUptoCard

/-- THE SECOND FORM's CARD OF 'signkeep2.NextIsNext'. -/
def nextIsNextUptoCard : Claim7 := { stood := { row := nextIsNextUptoRow, standIns := [], harness := (true, "d2e927084698520c6f8a4998fb8f01969aca0dbb45c01de68c57abd150a6280e"), looks := false }, kinds := [], alts := [], laidByText := true, laidKinds := [.data, .pinned], laidTests := true, laidLooks := .later }
def NextIsNextUptoCardSaid : Prop := Claim7.holds Tryz.pinned (.plain (OpenSpec.upto nextIsNextSpec)) nextIsNextUptoCard

/-- THE SECOND FORM's CARD OF 'signkeep2.DebtsAreJust'. -/
def debtsAreJustUptoCard : Claim7 := { stood := { row := debtsAreJustUptoRow, standIns := [], harness := (true, "d2e927084698520c6f8a4998fb8f01969aca0dbb45c01de68c57abd150a6280e"), looks := false }, kinds := [], alts := [], laidByText := true, laidKinds := [.data, .pinned], laidTests := true, laidLooks := .later }
def DebtsAreJustUptoCardSaid : Prop := Claim7.holds Tryz.pinned (.plain (OpenSpec.upto debtsAreJustSpec)) debtsAreJustUptoCard

/-- THE SECOND FORM's CARD OF 'signlaw2.AlertsOwed'. -/
def alertsOwedUptoCard : Claim7 := { stood := { row := alertsOwedUptoRow, standIns := [], harness := (true, "d2e927084698520c6f8a4998fb8f01969aca0dbb45c01de68c57abd150a6280e"), looks := false }, kinds := [], alts := [], laidByText := true, laidKinds := [.data, .pinned], laidTests := true, laidLooks := .later }
def AlertsOwedUptoCardSaid : Prop := Claim7.holds Tryz.pinned (.plain (OpenSpec.upto alertsOwedSpec)) alertsOwedUptoCard
end Rows
end Go.Proofs.YtjhcehhmdmbleaaGreatDoor
