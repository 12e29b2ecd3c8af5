/-
  DERIVED. GIVEN WITH THE SEED: THE CARDS: each row of YtpojeclokolkaaaGreatDoorRows.lean that lists a variable, with what it lists TIED to the program's text (the seventh form; the later family's looks); each row that meets fmt, with fmt's text TOLD by the authors' own Lean function (tested against real Go, not proved from fmt's source: count such statements apart). THE CARD IS WHAT COUNTS. Prove the row's statement (the work); the ties are given (YtpojeclokolkaaaGreatDoorTie.lean); close each card by the builder's one call (the guide's Derived/Test/ToyasCard.lean, 'card_holds'). Laid BY PROGRAM, IN A SANDBOX (cutbox-door.mjs). By AI agents, Wed Nov 11 2026. No macro, syntax, notation, axiom, sorry.
-/
import Derived.Test.YtpojeclokolkaaaGreatDoorRows
import GoSem.ClaimSeven
namespace Go.Proofs.YtpojeclokolkaaaGreatDoor
namespace Rows

/-- THE TIED CARD OF 'signkeep2.MatchesAreOnce'. -/
def matchesAreOnceCard : Claim7 := { stood := { row := matchesAreOnceRow, standIns := [], harness := (true, "c3aacc2f8dd88fc9e2071ce0483e972a8e7e90a9c0c011ad3e0505c209f55514"), looks := false }, kinds := [], alts := [], laidByText := true, laidKinds := [.data, .pinned], laidTests := true, laidLooks := .later }
def MatchesAreOnceCardSaid : Prop := Claim7.holds Tryz.pinned (.plain (OpenSpec.ofChange matchesAreOnceSpec)) matchesAreOnceCard

/-- THE TIED CARD OF 'signkeep2.PartsAndDark'. -/
def partsAndDarkCard : Claim7 := { stood := { row := partsAndDarkRow, standIns := [], harness := (true, "c3aacc2f8dd88fc9e2071ce0483e972a8e7e90a9c0c011ad3e0505c209f55514"), looks := false }, kinds := [], alts := [], laidByText := true, laidKinds := [.data, .pinned], laidTests := true, laidLooks := .later }
def PartsAndDarkCardSaid : Prop := Claim7.holds Tryz.pinned (.plain (OpenSpec.ofChange partsAndDarkSpec)) partsAndDarkCard

/-- THE TIED CARD OF 'signkeep2.ViewsAreApart'. -/
def viewsAreApartCard : Claim7 := { stood := { row := viewsAreApartRow, standIns := [], harness := (true, "c3aacc2f8dd88fc9e2071ce0483e972a8e7e90a9c0c011ad3e0505c209f55514"), looks := false }, kinds := [], alts := [], laidByText := true, laidKinds := [.data, .pinned], laidTests := true, laidLooks := .later }
def ViewsAreApartCardSaid : Prop := Claim7.holds Tryz.pinned (.plain (OpenSpec.ofChange viewsAreApartSpec)) viewsAreApartCard

/-- THE TIED CARD OF 'signtop.TopAreasAreSeen'. -/
def topAreasAreSeenCard : Claim7 := { stood := { row := topAreasAreSeenRow, standIns := [], harness := (true, "c3aacc2f8dd88fc9e2071ce0483e972a8e7e90a9c0c011ad3e0505c209f55514"), looks := false }, kinds := [], alts := [], laidByText := true, laidKinds := [.data, .pinned], laidTests := true, laidLooks := .later }
def TopAreasAreSeenCardSaid : Prop := Claim7.holds Tryz.pinned (.plain (OpenSpec.ofChange topAreasAreSeenSpec)) topAreasAreSeenCard

/-- THE TIED CARD OF 'signlaw2.AlertsShown'. -/
def alertsShownCard : Claim7 := { stood := { row := alertsShownRow, standIns := [], harness := (true, "c3aacc2f8dd88fc9e2071ce0483e972a8e7e90a9c0c011ad3e0505c209f55514"), looks := false }, kinds := [], alts := [], laidByText := true, laidKinds := [.data, .pinned], laidTests := true, laidLooks := .later }
def AlertsShownCardSaid : Prop := Claim7.holds Tryz.pinned (.plain (OpenSpec.ofChange alertsShownSpec)) alertsShownCard

/-- THE TIED CARD OF 'signkeep2.AlertsWhereTheyShould'. -/
def alertsWhereTheyShouldCard : Claim7 := { stood := { row := alertsWhereTheyShouldRow, standIns := [], harness := (true, "c3aacc2f8dd88fc9e2071ce0483e972a8e7e90a9c0c011ad3e0505c209f55514"), looks := false }, kinds := [], alts := [], laidByText := true, laidKinds := [.data, .pinned], laidTests := true, laidLooks := .later }
def AlertsWhereTheyShouldCardSaid : Prop := Claim7.holds Tryz.pinned (.plain (OpenSpec.ofChange alertsWhereTheyShouldSpec)) alertsWhereTheyShouldCard

/-- THE TIED CARD OF 'signkeep2.DebtsAreJust'. -/
def debtsAreJustCard : Claim7 := { stood := { row := debtsAreJustRow, standIns := [], harness := (true, "c3aacc2f8dd88fc9e2071ce0483e972a8e7e90a9c0c011ad3e0505c209f55514"), looks := false }, kinds := [], alts := [], laidByText := true, laidKinds := [.data, .pinned], laidTests := true, laidLooks := .later }
def DebtsAreJustCardSaid : Prop := Claim7.holds Tryz.pinned (.plain (OpenSpec.ofChange debtsAreJustSpec)) debtsAreJustCard

/-- THE TIED CARD OF 'signkeep2.ScreensStay'. -/
def screensStayCard : Claim7 := { stood := { row := screensStayRow, standIns := [], harness := (true, "c3aacc2f8dd88fc9e2071ce0483e972a8e7e90a9c0c011ad3e0505c209f55514"), looks := false }, kinds := [], alts := [], laidByText := true, laidKinds := [.data, .pinned], laidTests := true, laidLooks := .later }
def ScreensStayCardSaid : Prop := Claim7.holds Tryz.pinned (.plain (OpenSpec.ofChange screensStaySpec)) screensStayCard

/-- THE TIED CARD OF 'signlaw2.AlertsOwed'. -/
def alertsOwedCard : Claim7 := { stood := { row := alertsOwedRow, standIns := [], harness := (true, "c3aacc2f8dd88fc9e2071ce0483e972a8e7e90a9c0c011ad3e0505c209f55514"), looks := false }, kinds := [], alts := [], laidByText := true, laidKinds := [.data, .pinned], laidTests := true, laidLooks := .later }
def AlertsOwedCardSaid : Prop := Claim7.holds Tryz.pinned (.plain (OpenSpec.ofChange alertsOwedSpec)) alertsOwedCard

/-- THE SECOND FORM's CARD OF 'signkeep2.MatchesAreOnce'. -/
def matchesAreOnceUptoCard : Claim7 := { stood := { row := matchesAreOnceUptoRow, standIns := [], harness := (true, "c3aacc2f8dd88fc9e2071ce0483e972a8e7e90a9c0c011ad3e0505c209f55514"), looks := false }, kinds := [], alts := [], laidByText := true, laidKinds := [.data, .pinned], laidTests := true, laidLooks := .later }
def MatchesAreOnceUptoCardSaid : Prop := Claim7.holds Tryz.pinned (.plain (OpenSpec.upto matchesAreOnceSpec)) matchesAreOnceUptoCard

/-- THE SECOND FORM's CARD OF 'signkeep2.PartsAndDark'. -/
def partsAndDarkUptoCard : Claim7 := { stood := { row := partsAndDarkUptoRow, standIns := [], harness := (true, "c3aacc2f8dd88fc9e2071ce0483e972a8e7e90a9c0c011ad3e0505c209f55514"), looks := false }, kinds := [], alts := [], laidByText := true, laidKinds := [.data, .pinned], laidTests := true, laidLooks := .later }
def PartsAndDarkUptoCardSaid : Prop := Claim7.holds Tryz.pinned (.plain (OpenSpec.upto partsAndDarkSpec)) partsAndDarkUptoCard

/-- THE SECOND FORM's CARD OF 'signkeep2.ViewsAreApart'. -/
def viewsAreApartUptoCard : Claim7 := { stood := { row := viewsAreApartUptoRow, standIns := [], harness := (true, "c3aacc2f8dd88fc9e2071ce0483e972a8e7e90a9c0c011ad3e0505c209f55514"), looks := false }, kinds := [], alts := [], laidByText := true, laidKinds := [.data, .pinned], laidTests := true, laidLooks := .later }
def ViewsAreApartUptoCardSaid : Prop := Claim7.holds Tryz.pinned (.plain (OpenSpec.upto viewsAreApartSpec)) viewsAreApartUptoCard

/-- THE SECOND FORM's CARD OF 'signtop.TopAreasAreSeen'. -/
def topAreasAreSeenUptoCard : Claim7 := { stood := { row := topAreasAreSeenUptoRow, standIns := [], harness := (true, "c3aacc2f8dd88fc9e2071ce0483e972a8e7e90a9c0c011ad3e0505c209f55514"), looks := false }, kinds := [], alts := [], laidByText := true, laidKinds := [.data, .pinned], laidTests := true, laidLooks := .later }
def TopAreasAreSeenUptoCardSaid : Prop := Claim7.holds Tryz.pinned (.plain (OpenSpec.upto topAreasAreSeenSpec)) topAreasAreSeenUptoCard

/-- THE SECOND FORM's CARD OF 'signlaw2.AlertsShown'. -/
def alertsShownUptoCard : Claim7 := { stood := { row := alertsShownUptoRow, standIns := [], harness := (true, "c3aacc2f8dd88fc9e2071ce0483e972a8e7e90a9c0c011ad3e0505c209f55514"), looks := false }, kinds := [], alts := [], laidByText := true, laidKinds := [.data, .pinned], laidTests := true, laidLooks := .later }
def AlertsShownUptoCardSaid : Prop := Claim7.holds Tryz.pinned (.plain (OpenSpec.upto alertsShownSpec)) alertsShownUptoCard

/-- THE SECOND FORM's CARD OF 'signkeep2.AlertsWhereTheyShould'. -/
def alertsWhereTheyShouldUptoCard : Claim7 := { stood := { row := alertsWhereTheyShouldUptoRow, standIns := [], harness := (true, "c3aacc2f8dd88fc9e2071ce0483e972a8e7e90a9c0c011ad3e0505c209f55514"), looks := false }, kinds := [], alts := [], laidByText := true, laidKinds := [.data, .pinned], laidTests := true, laidLooks := .later }
def AlertsWhereTheyShouldUptoCardSaid : Prop := Claim7.holds Tryz.pinned (.plain (OpenSpec.upto alertsWhereTheyShouldSpec)) alertsWhereTheyShouldUptoCard

/-- THE SECOND FORM's CARD OF 'signkeep2.DebtsAreJust'. -/
def debtsAreJustUptoCard : Claim7 := { stood := { row := debtsAreJustUptoRow, standIns := [], harness := (true, "c3aacc2f8dd88fc9e2071ce0483e972a8e7e90a9c0c011ad3e0505c209f55514"), looks := false }, kinds := [], alts := [], laidByText := true, laidKinds := [.data, .pinned], laidTests := true, laidLooks := .later }
def DebtsAreJustUptoCardSaid : Prop := Claim7.holds Tryz.pinned (.plain (OpenSpec.upto debtsAreJustSpec)) debtsAreJustUptoCard

/-- THE SECOND FORM's CARD OF 'signkeep2.ScreensStay'. -/
def screensStayUptoCard : Claim7 := { stood := { row := screensStayUptoRow, standIns := [], harness := (true, "c3aacc2f8dd88fc9e2071ce0483e972a8e7e90a9c0c011ad3e0505c209f55514"), looks := false }, kinds := [], alts := [], laidByText := true, laidKinds := [.data, .pinned], laidTests := true, laidLooks := .later }
def ScreensStayUptoCardSaid : Prop := Claim7.holds Tryz.pinned (.plain (OpenSpec.upto screensStaySpec)) screensStayUptoCard

/-- THE SECOND FORM's CARD OF 'signlaw2.AlertsOwed'. -/
def alertsOwedUptoCard : Claim7 := { stood := { row := alertsOwedUptoRow, standIns := [], harness := (true, "c3aacc2f8dd88fc9e2071ce0483e972a8e7e90a9c0c011ad3e0505c209f55514"), looks := false }, kinds := [], alts := [], laidByText := true, laidKinds := [.data, .pinned], laidTests := true, laidLooks := .later }
def AlertsOwedUptoCardSaid : Prop := Claim7.holds Tryz.pinned (.plain (OpenSpec.upto alertsOwedSpec)) alertsOwedUptoCard
end Rows
end Go.Proofs.YtpojeclokolkaaaGreatDoor
