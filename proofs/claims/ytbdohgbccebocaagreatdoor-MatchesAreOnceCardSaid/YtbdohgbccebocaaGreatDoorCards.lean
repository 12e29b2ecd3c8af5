/-
  DERIVED. GIVEN WITH THE SEED: THE CARDS: each row of YtbdohgbccebocaaGreatDoorRows.lean that lists a variable, with what it lists TIED to the program's text (the seventh form; the later family's looks); each row that meets fmt, with fmt's text TOLD by the authors' own Lean function (tested against real Go, not proved from fmt's source: count such statements apart). THE CARD IS WHAT COUNTS. Prove the row's statement (the work); the ties are given (YtbdohgbccebocaaGreatDoorTie.lean); close each card by the builder's one call (the guide's Derived/Test/ToyasCard.lean, 'card_holds'). Laid BY PROGRAM, IN A SANDBOX (cutbox-door.mjs). By AI agents, Wed Nov 11 2026. No macro, syntax, notation, axiom, sorry.
-/
import Derived.Test.YtbdohgbccebocaaGreatDoorRows
import GoSem.ClaimSeven
namespace Go.Proofs.YtbdohgbccebocaaGreatDoor
namespace Rows

/-- THE TIED CARD OF 'signkeep2.IdleAndOn'. -/
def idleAndOnCard : Claim7 := { stood := { row := idleAndOnRow, standIns := [], harness := (true, "8644aae8fa1d9e28281f1a05189922e6f25050730138b53aec1c4b17c5b65598"), looks := false }, kinds := [], alts := [], laidByText := true, laidKinds := [.data, .pinned], laidTests := true, laidLooks := .later }
def IdleAndOnCardSaid : Prop := Claim7.holds Tryz.pinned (.plain (OpenSpec.ofChange idleAndOnSpec)) idleAndOnCard

/-- THE TIED CARD OF 'signkeep2.MatchesAreOnce'. -/
def matchesAreOnceCard : Claim7 := { stood := { row := matchesAreOnceRow, standIns := [], harness := (true, "8644aae8fa1d9e28281f1a05189922e6f25050730138b53aec1c4b17c5b65598"), looks := false }, kinds := [], alts := [], laidByText := true, laidKinds := [.data, .pinned], laidTests := true, laidLooks := .later }
def MatchesAreOnceCardSaid : Prop := Claim7.holds Tryz.pinned (.plain (OpenSpec.ofChange matchesAreOnceSpec)) matchesAreOnceCard

/-- THE TIED CARD OF 'signkeep2.DebtsAreJust'. -/
def debtsAreJustCard : Claim7 := { stood := { row := debtsAreJustRow, standIns := [], harness := (true, "8644aae8fa1d9e28281f1a05189922e6f25050730138b53aec1c4b17c5b65598"), looks := false }, kinds := [], alts := [], laidByText := true, laidKinds := [.data, .pinned], laidTests := true, laidLooks := .later }
def DebtsAreJustCardSaid : Prop := Claim7.holds Tryz.pinned (.plain (OpenSpec.ofChange debtsAreJustSpec)) debtsAreJustCard

/-- THE TIED CARD OF 'signkeep2.ScreensStay'. -/
def screensStayCard : Claim7 := { stood := { row := screensStayRow, standIns := [], harness := (true, "8644aae8fa1d9e28281f1a05189922e6f25050730138b53aec1c4b17c5b65598"), looks := false }, kinds := [], alts := [], laidByText := true, laidKinds := [.data, .pinned], laidTests := true, laidLooks := .later }
def ScreensStayCardSaid : Prop := Claim7.holds Tryz.pinned (.plain (OpenSpec.ofChange screensStaySpec)) screensStayCard

/-- THE TIED CARD OF 'signkeep2.AlertsWhereTheyShould'. -/
def alertsWhereTheyShouldCard : Claim7 := { stood := { row := alertsWhereTheyShouldRow, standIns := [], harness := (true, "8644aae8fa1d9e28281f1a05189922e6f25050730138b53aec1c4b17c5b65598"), looks := false }, kinds := [], alts := [], laidByText := true, laidKinds := [.data, .pinned], laidTests := true, laidLooks := .later }
def AlertsWhereTheyShouldCardSaid : Prop := Claim7.holds Tryz.pinned (.plain (OpenSpec.ofChange alertsWhereTheyShouldSpec)) alertsWhereTheyShouldCard

/-- THE TIED CARD OF 'signtop.TopAreasAreSeen'. -/
def topAreasAreSeenCard : Claim7 := { stood := { row := topAreasAreSeenRow, standIns := [], harness := (true, "8644aae8fa1d9e28281f1a05189922e6f25050730138b53aec1c4b17c5b65598"), looks := false }, kinds := [], alts := [], laidByText := true, laidKinds := [.data, .pinned], laidTests := true, laidLooks := .later }
def TopAreasAreSeenCardSaid : Prop := Claim7.holds Tryz.pinned (.plain (OpenSpec.ofChange topAreasAreSeenSpec)) topAreasAreSeenCard

/-- THE TIED CARD OF 'signlaw2.AlertsShown'. -/
def alertsShownCard : Claim7 := { stood := { row := alertsShownRow, standIns := [], harness := (true, "8644aae8fa1d9e28281f1a05189922e6f25050730138b53aec1c4b17c5b65598"), looks := false }, kinds := [], alts := [], laidByText := true, laidKinds := [.data, .pinned], laidTests := true, laidLooks := .later }
def AlertsShownCardSaid : Prop := Claim7.holds Tryz.pinned (.plain (OpenSpec.ofChange alertsShownSpec)) alertsShownCard

/-- THE SECOND FORM's CARD OF 'signkeep2.IdleAndOn'. -/
def idleAndOnUptoCard : Claim7 := { stood := { row := idleAndOnUptoRow, standIns := [], harness := (true, "8644aae8fa1d9e28281f1a05189922e6f25050730138b53aec1c4b17c5b65598"), looks := false }, kinds := [], alts := [], laidByText := true, laidKinds := [.data, .pinned], laidTests := true, laidLooks := .later }
def IdleAndOnUptoCardSaid : Prop := Claim7.holds Tryz.pinned (.plain (OpenSpec.upto idleAndOnSpec)) idleAndOnUptoCard

/-- THE SECOND FORM's CARD OF 'signkeep2.MatchesAreOnce'. -/
def matchesAreOnceUptoCard : Claim7 := { stood := { row := matchesAreOnceUptoRow, standIns := [], harness := (true, "8644aae8fa1d9e28281f1a05189922e6f25050730138b53aec1c4b17c5b65598"), looks := false }, kinds := [], alts := [], laidByText := true, laidKinds := [.data, .pinned], laidTests := true, laidLooks := .later }
def MatchesAreOnceUptoCardSaid : Prop := Claim7.holds Tryz.pinned (.plain (OpenSpec.upto matchesAreOnceSpec)) matchesAreOnceUptoCard

/-- THE SECOND FORM's CARD OF 'signkeep2.DebtsAreJust'. -/
def debtsAreJustUptoCard : Claim7 := { stood := { row := debtsAreJustUptoRow, standIns := [], harness := (true, "8644aae8fa1d9e28281f1a05189922e6f25050730138b53aec1c4b17c5b65598"), looks := false }, kinds := [], alts := [], laidByText := true, laidKinds := [.data, .pinned], laidTests := true, laidLooks := .later }
def DebtsAreJustUptoCardSaid : Prop := Claim7.holds Tryz.pinned (.plain (OpenSpec.upto debtsAreJustSpec)) debtsAreJustUptoCard

/-- THE SECOND FORM's CARD OF 'signkeep2.ScreensStay'. -/
def screensStayUptoCard : Claim7 := { stood := { row := screensStayUptoRow, standIns := [], harness := (true, "8644aae8fa1d9e28281f1a05189922e6f25050730138b53aec1c4b17c5b65598"), looks := false }, kinds := [], alts := [], laidByText := true, laidKinds := [.data, .pinned], laidTests := true, laidLooks := .later }
def ScreensStayUptoCardSaid : Prop := Claim7.holds Tryz.pinned (.plain (OpenSpec.upto screensStaySpec)) screensStayUptoCard

/-- THE SECOND FORM's CARD OF 'signkeep2.AlertsWhereTheyShould'. -/
def alertsWhereTheyShouldUptoCard : Claim7 := { stood := { row := alertsWhereTheyShouldUptoRow, standIns := [], harness := (true, "8644aae8fa1d9e28281f1a05189922e6f25050730138b53aec1c4b17c5b65598"), looks := false }, kinds := [], alts := [], laidByText := true, laidKinds := [.data, .pinned], laidTests := true, laidLooks := .later }
def AlertsWhereTheyShouldUptoCardSaid : Prop := Claim7.holds Tryz.pinned (.plain (OpenSpec.upto alertsWhereTheyShouldSpec)) alertsWhereTheyShouldUptoCard

/-- THE SECOND FORM's CARD OF 'signtop.TopAreasAreSeen'. -/
def topAreasAreSeenUptoCard : Claim7 := { stood := { row := topAreasAreSeenUptoRow, standIns := [], harness := (true, "8644aae8fa1d9e28281f1a05189922e6f25050730138b53aec1c4b17c5b65598"), looks := false }, kinds := [], alts := [], laidByText := true, laidKinds := [.data, .pinned], laidTests := true, laidLooks := .later }
def TopAreasAreSeenUptoCardSaid : Prop := Claim7.holds Tryz.pinned (.plain (OpenSpec.upto topAreasAreSeenSpec)) topAreasAreSeenUptoCard

/-- THE SECOND FORM's CARD OF 'signlaw2.AlertsShown'. -/
def alertsShownUptoCard : Claim7 := { stood := { row := alertsShownUptoRow, standIns := [], harness := (true, "8644aae8fa1d9e28281f1a05189922e6f25050730138b53aec1c4b17c5b65598"), looks := false }, kinds := [], alts := [], laidByText := true, laidKinds := [.data, .pinned], laidTests := true, laidLooks := .later }
def AlertsShownUptoCardSaid : Prop := Claim7.holds Tryz.pinned (.plain (OpenSpec.upto alertsShownSpec)) alertsShownUptoCard
end Rows
end Go.Proofs.YtbdohgbccebocaaGreatDoor
