/-
  NARROWER THAN 'FOR EVERY INPUT', by the rows' own cells (each row's printed sentence says how): MatchesAreOnce: laid · PartsAndDark: laid · ViewsAreApart: laid · TopAreasAreSeen: laid · AlertsShown: laid · AlertsWhereTheyShould: laid · DebtsAreJust: laid · ScreensStay: laid · AlertsOwed: laid.
  DERIVED. THE GIVEN ROWS OF THIS SEAT. 9 by the template 'for every input the law returns true; each argument reads behind the call as it read before'; 0 by the template 'total and deterministic' (their statements: YtpojeclokolkaaaGreatDoorTotals.lean).
  GIVEN WITH THE SEED: the statements are not yours to turn. If you find one false, say at which input.
  Laid BY PROGRAM, IN A SANDBOX (cutbox-rows.mjs): the forced cells as the released guide's own fill.sh prints them over the translation b969a6f834d680e2… (all of the seat's roots in one cut). By AI agents, Wed Nov 11 2026. No macro, syntax, notation, axiom, sorry.
-/
import Derived.Test.YtpojeclokolkaaaGreatDoorChecked
import GoSem.PinnedTables
import GoSem.Claim
import GoSem.ClaimJoined
import GoSem.ClaimMapViews
import Derived.JoinedTies
import Derived.KernelRfl
namespace Go.Proofs.YtpojeclokolkaaaGreatDoor
/- THE CELL 'sum', in the pinned program and in every row, IS THE sha256 OF THE DUMP (.gsa) THAT YtpojeclokolkaaaGreatDoorProg.lean LOADS. Nothing in Lean hashes anything: it is a label: what it is worth is what the hold of that sum in a sandbox is worth. -/
noncomputable def Tryz.pinned : Pinned := { name := "ytpojeclokolkaaagreatdoor", sum := "b969a6f834d680e208a4b8dd00f0621b8bd4be281c16f15da5731a59131eefb9", checked := Tryz.checked }
namespace Rows
def none {H : Type} : Left H := { results := [], args := [] }

/- WHAT THE LISTED PACKAGE-LEVEL VARIABLES READ AS WHEN THE CALL BEGINS. Each datum BY PROGRAM (the guide's laid-datum.mjs) off the statement by which the dump's own 'gosem.cut.vars' lays the variable. In a bare row this is a premise. The card (YtpojeclokolkaaaGreatDoorCards.lean) ties it to the program's text. -/
def laid_unicode_utf8_acceptRanges {H : Type} : DataW H := .agg [.agg [.lit (.int .u8 128), .lit (.int .u8 191)], .agg [.lit (.int .u8 160), .lit (.int .u8 191)], .agg [.lit (.int .u8 128), .lit (.int .u8 159)], .agg [.lit (.int .u8 144), .lit (.int .u8 191)], .agg [.lit (.int .u8 128), .lit (.int .u8 143)], .agg [.lit (.int .u8 0), .lit (.int .u8 0)], .agg [.lit (.int .u8 0), .lit (.int .u8 0)], .agg [.lit (.int .u8 0), .lit (.int .u8 0)], .agg [.lit (.int .u8 0), .lit (.int .u8 0)], .agg [.lit (.int .u8 0), .lit (.int .u8 0)], .agg [.lit (.int .u8 0), .lit (.int .u8 0)], .agg [.lit (.int .u8 0), .lit (.int .u8 0)], .agg [.lit (.int .u8 0), .lit (.int .u8 0)], .agg [.lit (.int .u8 0), .lit (.int .u8 0)], .agg [.lit (.int .u8 0), .lit (.int .u8 0)], .agg [.lit (.int .u8 0), .lit (.int .u8 0)]]
/-- One of Go's own tables, pinned by name: the form's constant. -/
def laid_unicode_utf8_first : DataW Unit := Go.Pinned.utf8First

/-- 'signkeep2.MatchesAreOnce': WHATEVER THE INPUT: true; the input reads as it did. -/
def matchesAreOnceSpec : ChangeSpec := { name := "matchesAreOnce", fn := fun _ => fun
  | [d] => { results := [.lit (.bool true)], args := [d] }
  | _ => none }
def matchesAreOnceRow : OpenClaim := { program := "ytpojeclokolkaaagreatdoor", sum := "b969a6f834d680e208a4b8dd00f0621b8bd4be281c16f15da5731a59131eefb9", func := "signboard/signkeep2.MatchesAreOnce", spec := "matchesAreOnce", inPlace := ["internal/bytealg.abigen_runtime_cmpstring", "internal/bytealg.IndexByteString", "internal/bytealg.IndexString"], unfollowed := true, recurses := true, named := ["unicode/utf8.first", "unicode/utf8.acceptRanges", "internal/bytealg.MaxLen"], plainKeys := false, apart := false, laid := [("unicode/utf8.acceptRanges", laid_unicode_utf8_acceptRanges), ("unicode/utf8.first", laid_unicode_utf8_first)] }
def MatchesAreOnceSaid : Prop := matchesAreOnceRow.holds Tryz.pinned (OpenSpec.ofChange matchesAreOnceSpec)

/-- ITS FALSE NEIGHBOUR: 'it returns false'. Refute it at one input. -/
def matchesAreOnceWrong : ChangeSpec := { name := "matchesAreOnce", fn := fun _ => fun
  | [d] => { results := [.lit (.bool false)], args := [d] }
  | _ => none }
def MatchesAreOnceWrongFalsely : Prop := matchesAreOnceRow.holds Tryz.pinned (OpenSpec.ofChange matchesAreOnceWrong)

/-- 'signkeep2.PartsAndDark': WHATEVER THE INPUT: true; the input reads as it did. -/
def partsAndDarkSpec : ChangeSpec := { name := "partsAndDark", fn := fun _ => fun
  | [d] => { results := [.lit (.bool true)], args := [d] }
  | _ => none }
def partsAndDarkRow : OpenClaim := { program := "ytpojeclokolkaaagreatdoor", sum := "b969a6f834d680e208a4b8dd00f0621b8bd4be281c16f15da5731a59131eefb9", func := "signboard/signkeep2.PartsAndDark", spec := "partsAndDark", inPlace := ["internal/bytealg.IndexByteString", "internal/bytealg.abigen_runtime_cmpstring", "internal/bytealg.IndexString"], unfollowed := true, recurses := true, named := ["unicode/utf8.first", "unicode/utf8.acceptRanges", "internal/bytealg.MaxLen"], plainKeys := false, apart := false, laid := [("unicode/utf8.acceptRanges", laid_unicode_utf8_acceptRanges), ("unicode/utf8.first", laid_unicode_utf8_first)] }
def PartsAndDarkSaid : Prop := partsAndDarkRow.holds Tryz.pinned (OpenSpec.ofChange partsAndDarkSpec)

/-- ITS FALSE NEIGHBOUR: 'it returns false'. Refute it at one input. -/
def partsAndDarkWrong : ChangeSpec := { name := "partsAndDark", fn := fun _ => fun
  | [d] => { results := [.lit (.bool false)], args := [d] }
  | _ => none }
def PartsAndDarkWrongFalsely : Prop := partsAndDarkRow.holds Tryz.pinned (OpenSpec.ofChange partsAndDarkWrong)

/-- 'signkeep2.ViewsAreApart': WHATEVER THE INPUT: true; the input reads as it did. -/
def viewsAreApartSpec : ChangeSpec := { name := "viewsAreApart", fn := fun _ => fun
  | [d] => { results := [.lit (.bool true)], args := [d] }
  | _ => none }
def viewsAreApartRow : OpenClaim := { program := "ytpojeclokolkaaagreatdoor", sum := "b969a6f834d680e208a4b8dd00f0621b8bd4be281c16f15da5731a59131eefb9", func := "signboard/signkeep2.ViewsAreApart", spec := "viewsAreApart", inPlace := ["internal/bytealg.IndexByteString", "internal/bytealg.abigen_runtime_cmpstring", "internal/bytealg.IndexString"], unfollowed := true, recurses := true, named := ["unicode/utf8.first", "unicode/utf8.acceptRanges", "internal/bytealg.MaxLen"], plainKeys := false, apart := false, laid := [("unicode/utf8.acceptRanges", laid_unicode_utf8_acceptRanges), ("unicode/utf8.first", laid_unicode_utf8_first)] }
def ViewsAreApartSaid : Prop := viewsAreApartRow.holds Tryz.pinned (OpenSpec.ofChange viewsAreApartSpec)

/-- ITS FALSE NEIGHBOUR: 'it returns false'. Refute it at one input. -/
def viewsAreApartWrong : ChangeSpec := { name := "viewsAreApart", fn := fun _ => fun
  | [d] => { results := [.lit (.bool false)], args := [d] }
  | _ => none }
def ViewsAreApartWrongFalsely : Prop := viewsAreApartRow.holds Tryz.pinned (OpenSpec.ofChange viewsAreApartWrong)

/-- 'signtop.TopAreasAreSeen': WHATEVER THE INPUT: true; the input reads as it did. -/
def topAreasAreSeenSpec : ChangeSpec := { name := "topAreasAreSeen", fn := fun _ => fun
  | [d] => { results := [.lit (.bool true)], args := [d] }
  | _ => none }
def topAreasAreSeenRow : OpenClaim := { program := "ytpojeclokolkaaagreatdoor", sum := "b969a6f834d680e208a4b8dd00f0621b8bd4be281c16f15da5731a59131eefb9", func := "signboard/signtop.TopAreasAreSeen", spec := "topAreasAreSeen", inPlace := ["internal/bytealg.IndexByteString", "internal/bytealg.IndexString", "internal/bytealg.abigen_runtime_cmpstring"], unfollowed := true, recurses := true, named := ["unicode/utf8.first", "unicode/utf8.acceptRanges", "internal/bytealg.MaxLen"], plainKeys := false, apart := false, laid := [("unicode/utf8.acceptRanges", laid_unicode_utf8_acceptRanges), ("unicode/utf8.first", laid_unicode_utf8_first)] }
def TopAreasAreSeenSaid : Prop := topAreasAreSeenRow.holds Tryz.pinned (OpenSpec.ofChange topAreasAreSeenSpec)

/-- ITS FALSE NEIGHBOUR: 'it returns false'. Refute it at one input. -/
def topAreasAreSeenWrong : ChangeSpec := { name := "topAreasAreSeen", fn := fun _ => fun
  | [d] => { results := [.lit (.bool false)], args := [d] }
  | _ => none }
def TopAreasAreSeenWrongFalsely : Prop := topAreasAreSeenRow.holds Tryz.pinned (OpenSpec.ofChange topAreasAreSeenWrong)

/-- 'signlaw2.AlertsShown': WHATEVER THE INPUT: true; the input reads as it did. -/
def alertsShownSpec : ChangeSpec := { name := "alertsShown", fn := fun _ => fun
  | [d] => { results := [.lit (.bool true)], args := [d] }
  | _ => none }
def alertsShownRow : OpenClaim := { program := "ytpojeclokolkaaagreatdoor", sum := "b969a6f834d680e208a4b8dd00f0621b8bd4be281c16f15da5731a59131eefb9", func := "signboard/signlaw2.AlertsShown", spec := "alertsShown", inPlace := ["internal/bytealg.IndexByteString", "internal/bytealg.IndexString", "internal/bytealg.abigen_runtime_cmpstring"], unfollowed := true, recurses := true, named := ["unicode/utf8.first", "unicode/utf8.acceptRanges", "internal/bytealg.MaxLen"], plainKeys := false, apart := false, laid := [("unicode/utf8.acceptRanges", laid_unicode_utf8_acceptRanges), ("unicode/utf8.first", laid_unicode_utf8_first)] }
def AlertsShownSaid : Prop := alertsShownRow.holds Tryz.pinned (OpenSpec.ofChange alertsShownSpec)

/-- ITS FALSE NEIGHBOUR: 'it returns false'. Refute it at one input. -/
def alertsShownWrong : ChangeSpec := { name := "alertsShown", fn := fun _ => fun
  | [d] => { results := [.lit (.bool false)], args := [d] }
  | _ => none }
def AlertsShownWrongFalsely : Prop := alertsShownRow.holds Tryz.pinned (OpenSpec.ofChange alertsShownWrong)

/-- 'signkeep2.AlertsWhereTheyShould': WHATEVER THE INPUT: true; the input reads as it did. -/
def alertsWhereTheyShouldSpec : ChangeSpec := { name := "alertsWhereTheyShould", fn := fun _ => fun
  | [d] => { results := [.lit (.bool true)], args := [d] }
  | _ => none }
def alertsWhereTheyShouldRow : OpenClaim := { program := "ytpojeclokolkaaagreatdoor", sum := "b969a6f834d680e208a4b8dd00f0621b8bd4be281c16f15da5731a59131eefb9", func := "signboard/signkeep2.AlertsWhereTheyShould", spec := "alertsWhereTheyShould", inPlace := ["internal/bytealg.IndexByteString", "internal/bytealg.IndexString", "internal/bytealg.abigen_runtime_cmpstring"], unfollowed := true, recurses := true, named := ["unicode/utf8.first", "unicode/utf8.acceptRanges", "internal/bytealg.MaxLen"], plainKeys := false, apart := false, laid := [("unicode/utf8.acceptRanges", laid_unicode_utf8_acceptRanges), ("unicode/utf8.first", laid_unicode_utf8_first)] }
def AlertsWhereTheyShouldSaid : Prop := alertsWhereTheyShouldRow.holds Tryz.pinned (OpenSpec.ofChange alertsWhereTheyShouldSpec)

/-- ITS FALSE NEIGHBOUR: 'it returns false'. Refute it at one input. -/
def alertsWhereTheyShouldWrong : ChangeSpec := { name := "alertsWhereTheyShould", fn := fun _ => fun
  | [d] => { results := [.lit (.bool false)], args := [d] }
  | _ => none }
def AlertsWhereTheyShouldWrongFalsely : Prop := alertsWhereTheyShouldRow.holds Tryz.pinned (OpenSpec.ofChange alertsWhereTheyShouldWrong)

/-- 'signkeep2.DebtsAreJust': WHATEVER THE INPUT: true; the input reads as it did. -/
def debtsAreJustSpec : ChangeSpec := { name := "debtsAreJust", fn := fun _ => fun
  | [d] => { results := [.lit (.bool true)], args := [d] }
  | _ => none }
def debtsAreJustRow : OpenClaim := { program := "ytpojeclokolkaaagreatdoor", sum := "b969a6f834d680e208a4b8dd00f0621b8bd4be281c16f15da5731a59131eefb9", func := "signboard/signkeep2.DebtsAreJust", spec := "debtsAreJust", inPlace := ["internal/bytealg.IndexByteString", "internal/bytealg.IndexString", "internal/bytealg.abigen_runtime_cmpstring"], unfollowed := true, recurses := true, named := ["unicode/utf8.first", "unicode/utf8.acceptRanges", "internal/bytealg.MaxLen"], plainKeys := false, apart := false, laid := [("unicode/utf8.acceptRanges", laid_unicode_utf8_acceptRanges), ("unicode/utf8.first", laid_unicode_utf8_first)] }
def DebtsAreJustSaid : Prop := debtsAreJustRow.holds Tryz.pinned (OpenSpec.ofChange debtsAreJustSpec)

/-- ITS FALSE NEIGHBOUR: 'it returns false'. Refute it at one input. -/
def debtsAreJustWrong : ChangeSpec := { name := "debtsAreJust", fn := fun _ => fun
  | [d] => { results := [.lit (.bool false)], args := [d] }
  | _ => none }
def DebtsAreJustWrongFalsely : Prop := debtsAreJustRow.holds Tryz.pinned (OpenSpec.ofChange debtsAreJustWrong)

/-- 'signkeep2.ScreensStay': WHATEVER THE INPUT: true; the input reads as it did. -/
def screensStaySpec : ChangeSpec := { name := "screensStay", fn := fun _ => fun
  | [d] => { results := [.lit (.bool true)], args := [d] }
  | _ => none }
def screensStayRow : OpenClaim := { program := "ytpojeclokolkaaagreatdoor", sum := "b969a6f834d680e208a4b8dd00f0621b8bd4be281c16f15da5731a59131eefb9", func := "signboard/signkeep2.ScreensStay", spec := "screensStay", inPlace := ["internal/bytealg.IndexByteString", "internal/bytealg.abigen_runtime_cmpstring", "internal/bytealg.IndexString"], unfollowed := true, recurses := true, named := ["unicode/utf8.first", "unicode/utf8.acceptRanges", "internal/bytealg.MaxLen"], plainKeys := false, apart := false, laid := [("unicode/utf8.acceptRanges", laid_unicode_utf8_acceptRanges), ("unicode/utf8.first", laid_unicode_utf8_first)] }
def ScreensStaySaid : Prop := screensStayRow.holds Tryz.pinned (OpenSpec.ofChange screensStaySpec)

/-- ITS FALSE NEIGHBOUR: 'it returns false'. Refute it at one input. -/
def screensStayWrong : ChangeSpec := { name := "screensStay", fn := fun _ => fun
  | [d] => { results := [.lit (.bool false)], args := [d] }
  | _ => none }
def ScreensStayWrongFalsely : Prop := screensStayRow.holds Tryz.pinned (OpenSpec.ofChange screensStayWrong)

/-- 'signlaw2.AlertsOwed': WHATEVER THE INPUT: true; the input reads as it did. -/
def alertsOwedSpec : ChangeSpec := { name := "alertsOwed", fn := fun _ => fun
  | [d] => { results := [.lit (.bool true)], args := [d] }
  | _ => none }
def alertsOwedRow : OpenClaim := { program := "ytpojeclokolkaaagreatdoor", sum := "b969a6f834d680e208a4b8dd00f0621b8bd4be281c16f15da5731a59131eefb9", func := "signboard/signlaw2.AlertsOwed", spec := "alertsOwed", inPlace := ["internal/bytealg.abigen_runtime_cmpstring", "internal/bytealg.IndexByteString", "internal/bytealg.IndexString"], unfollowed := true, recurses := true, named := ["unicode/utf8.first", "unicode/utf8.acceptRanges", "internal/bytealg.MaxLen"], plainKeys := false, apart := false, laid := [("unicode/utf8.acceptRanges", laid_unicode_utf8_acceptRanges), ("unicode/utf8.first", laid_unicode_utf8_first)] }
def AlertsOwedSaid : Prop := alertsOwedRow.holds Tryz.pinned (OpenSpec.ofChange alertsOwedSpec)

/-- ITS FALSE NEIGHBOUR: 'it returns false'. Refute it at one input. -/
def alertsOwedWrong : ChangeSpec := { name := "alertsOwed", fn := fun _ => fun
  | [d] => { results := [.lit (.bool false)], args := [d] }
  | _ => none }
def AlertsOwedWrongFalsely : Prop := alertsOwedRow.holds Tryz.pinned (OpenSpec.ofChange alertsOwedWrong)

/- THE SECOND FORM. 'bulk': how many values and letters a reading holds, each counted each time it is reached (what is shared counts as often as it is met; a slice's spare places count too). A statement '..UptoSaid' is the law's where the arguments, and the package variables that the reading takes, are together of bulk at most 1048576: NARROWER than '..Said'. Prove '..Said' where nothing that the law and all that it calls make is longer than what came in: it says more and counts as full. Else prove '..UptoSaid'. A law counts once. -/
mutual
def uptoBulk {H : Type} : DataW H → Nat
  | .lit (.string bytes) => bytes.length + 1
  | .lit _ => 1
  | .nil => 1
  | .ptr d => uptoBulk d + 1
  | .slice elems spare => uptoBulkAll elems + uptoBulkAll spare + 1
  | .agg parts => uptoBulkAll parts + 1
  | .iface _ d => uptoBulk d + 1
  | .map entries => uptoBulkEntries entries + 1
  | .held _ => 1
def uptoBulkAll {H : Type} : List (DataW H) → Nat
  | [] => 0
  | d :: r => uptoBulk d + uptoBulkAll r
def uptoBulkEntries {H : Type} : List (Lit × DataW H) → Nat
  | [] => 0
  | x :: r => uptoBulkEntry x + uptoBulkEntries r
def uptoBulkEntry {H : Type} : Lit × DataW H → Nat
  | (.string bytes, d) => bytes.length + uptoBulk d + 1
  | (_, d) => uptoBulk d + 1
 end
def uptoSmall : (H : Type) → List (DataW H) → Bool := fun _ ds => decide (uptoBulkAll ds ≤ 1048576)
def OpenSpec.upto (s : _root_.Go.ChangeSpec) : _root_.Go.OpenSpec := { _root_.Go.OpenSpec.ofChange s with cond := some uptoSmall }

/-- 'signkeep2.MatchesAreOnce', WHERE WHAT IT READS IS OF BULK AT MOST 1048576: true; the input reads as it did. -/
def matchesAreOnceUptoRow : OpenClaim := { program := "ytpojeclokolkaaagreatdoor", sum := "b969a6f834d680e208a4b8dd00f0621b8bd4be281c16f15da5731a59131eefb9", func := "signboard/signkeep2.MatchesAreOnce", spec := "matchesAreOnce", inPlace := ["internal/bytealg.abigen_runtime_cmpstring", "internal/bytealg.IndexByteString", "internal/bytealg.IndexString"], unfollowed := true, recurses := true, named := ["unicode/utf8.first", "unicode/utf8.acceptRanges", "internal/bytealg.MaxLen"], plainKeys := false, apart := false, laid := [("unicode/utf8.acceptRanges", laid_unicode_utf8_acceptRanges), ("unicode/utf8.first", laid_unicode_utf8_first)], narrowed := true }
def MatchesAreOnceUptoSaid : Prop := matchesAreOnceUptoRow.holds Tryz.pinned (OpenSpec.upto matchesAreOnceSpec)

/-- 'signkeep2.PartsAndDark', WHERE WHAT IT READS IS OF BULK AT MOST 1048576: true; the input reads as it did. -/
def partsAndDarkUptoRow : OpenClaim := { program := "ytpojeclokolkaaagreatdoor", sum := "b969a6f834d680e208a4b8dd00f0621b8bd4be281c16f15da5731a59131eefb9", func := "signboard/signkeep2.PartsAndDark", spec := "partsAndDark", inPlace := ["internal/bytealg.IndexByteString", "internal/bytealg.abigen_runtime_cmpstring", "internal/bytealg.IndexString"], unfollowed := true, recurses := true, named := ["unicode/utf8.first", "unicode/utf8.acceptRanges", "internal/bytealg.MaxLen"], plainKeys := false, apart := false, laid := [("unicode/utf8.acceptRanges", laid_unicode_utf8_acceptRanges), ("unicode/utf8.first", laid_unicode_utf8_first)], narrowed := true }
def PartsAndDarkUptoSaid : Prop := partsAndDarkUptoRow.holds Tryz.pinned (OpenSpec.upto partsAndDarkSpec)

/-- 'signkeep2.ViewsAreApart', WHERE WHAT IT READS IS OF BULK AT MOST 1048576: true; the input reads as it did. -/
def viewsAreApartUptoRow : OpenClaim := { program := "ytpojeclokolkaaagreatdoor", sum := "b969a6f834d680e208a4b8dd00f0621b8bd4be281c16f15da5731a59131eefb9", func := "signboard/signkeep2.ViewsAreApart", spec := "viewsAreApart", inPlace := ["internal/bytealg.IndexByteString", "internal/bytealg.abigen_runtime_cmpstring", "internal/bytealg.IndexString"], unfollowed := true, recurses := true, named := ["unicode/utf8.first", "unicode/utf8.acceptRanges", "internal/bytealg.MaxLen"], plainKeys := false, apart := false, laid := [("unicode/utf8.acceptRanges", laid_unicode_utf8_acceptRanges), ("unicode/utf8.first", laid_unicode_utf8_first)], narrowed := true }
def ViewsAreApartUptoSaid : Prop := viewsAreApartUptoRow.holds Tryz.pinned (OpenSpec.upto viewsAreApartSpec)

/-- 'signtop.TopAreasAreSeen', WHERE WHAT IT READS IS OF BULK AT MOST 1048576: true; the input reads as it did. -/
def topAreasAreSeenUptoRow : OpenClaim := { program := "ytpojeclokolkaaagreatdoor", sum := "b969a6f834d680e208a4b8dd00f0621b8bd4be281c16f15da5731a59131eefb9", func := "signboard/signtop.TopAreasAreSeen", spec := "topAreasAreSeen", inPlace := ["internal/bytealg.IndexByteString", "internal/bytealg.IndexString", "internal/bytealg.abigen_runtime_cmpstring"], unfollowed := true, recurses := true, named := ["unicode/utf8.first", "unicode/utf8.acceptRanges", "internal/bytealg.MaxLen"], plainKeys := false, apart := false, laid := [("unicode/utf8.acceptRanges", laid_unicode_utf8_acceptRanges), ("unicode/utf8.first", laid_unicode_utf8_first)], narrowed := true }
def TopAreasAreSeenUptoSaid : Prop := topAreasAreSeenUptoRow.holds Tryz.pinned (OpenSpec.upto topAreasAreSeenSpec)

/-- 'signlaw2.AlertsShown', WHERE WHAT IT READS IS OF BULK AT MOST 1048576: true; the input reads as it did. -/
def alertsShownUptoRow : OpenClaim := { program := "ytpojeclokolkaaagreatdoor", sum := "b969a6f834d680e208a4b8dd00f0621b8bd4be281c16f15da5731a59131eefb9", func := "signboard/signlaw2.AlertsShown", spec := "alertsShown", inPlace := ["internal/bytealg.IndexByteString", "internal/bytealg.IndexString", "internal/bytealg.abigen_runtime_cmpstring"], unfollowed := true, recurses := true, named := ["unicode/utf8.first", "unicode/utf8.acceptRanges", "internal/bytealg.MaxLen"], plainKeys := false, apart := false, laid := [("unicode/utf8.acceptRanges", laid_unicode_utf8_acceptRanges), ("unicode/utf8.first", laid_unicode_utf8_first)], narrowed := true }
def AlertsShownUptoSaid : Prop := alertsShownUptoRow.holds Tryz.pinned (OpenSpec.upto alertsShownSpec)

/-- 'signkeep2.AlertsWhereTheyShould', WHERE WHAT IT READS IS OF BULK AT MOST 1048576: true; the input reads as it did. -/
def alertsWhereTheyShouldUptoRow : OpenClaim := { program := "ytpojeclokolkaaagreatdoor", sum := "b969a6f834d680e208a4b8dd00f0621b8bd4be281c16f15da5731a59131eefb9", func := "signboard/signkeep2.AlertsWhereTheyShould", spec := "alertsWhereTheyShould", inPlace := ["internal/bytealg.IndexByteString", "internal/bytealg.IndexString", "internal/bytealg.abigen_runtime_cmpstring"], unfollowed := true, recurses := true, named := ["unicode/utf8.first", "unicode/utf8.acceptRanges", "internal/bytealg.MaxLen"], plainKeys := false, apart := false, laid := [("unicode/utf8.acceptRanges", laid_unicode_utf8_acceptRanges), ("unicode/utf8.first", laid_unicode_utf8_first)], narrowed := true }
def AlertsWhereTheyShouldUptoSaid : Prop := alertsWhereTheyShouldUptoRow.holds Tryz.pinned (OpenSpec.upto alertsWhereTheyShouldSpec)

/-- 'signkeep2.DebtsAreJust', WHERE WHAT IT READS IS OF BULK AT MOST 1048576: true; the input reads as it did. -/
def debtsAreJustUptoRow : OpenClaim := { program := "ytpojeclokolkaaagreatdoor", sum := "b969a6f834d680e208a4b8dd00f0621b8bd4be281c16f15da5731a59131eefb9", func := "signboard/signkeep2.DebtsAreJust", spec := "debtsAreJust", inPlace := ["internal/bytealg.IndexByteString", "internal/bytealg.IndexString", "internal/bytealg.abigen_runtime_cmpstring"], unfollowed := true, recurses := true, named := ["unicode/utf8.first", "unicode/utf8.acceptRanges", "internal/bytealg.MaxLen"], plainKeys := false, apart := false, laid := [("unicode/utf8.acceptRanges", laid_unicode_utf8_acceptRanges), ("unicode/utf8.first", laid_unicode_utf8_first)], narrowed := true }
def DebtsAreJustUptoSaid : Prop := debtsAreJustUptoRow.holds Tryz.pinned (OpenSpec.upto debtsAreJustSpec)

/-- 'signkeep2.ScreensStay', WHERE WHAT IT READS IS OF BULK AT MOST 1048576: true; the input reads as it did. -/
def screensStayUptoRow : OpenClaim := { program := "ytpojeclokolkaaagreatdoor", sum := "b969a6f834d680e208a4b8dd00f0621b8bd4be281c16f15da5731a59131eefb9", func := "signboard/signkeep2.ScreensStay", spec := "screensStay", inPlace := ["internal/bytealg.IndexByteString", "internal/bytealg.abigen_runtime_cmpstring", "internal/bytealg.IndexString"], unfollowed := true, recurses := true, named := ["unicode/utf8.first", "unicode/utf8.acceptRanges", "internal/bytealg.MaxLen"], plainKeys := false, apart := false, laid := [("unicode/utf8.acceptRanges", laid_unicode_utf8_acceptRanges), ("unicode/utf8.first", laid_unicode_utf8_first)], narrowed := true }
def ScreensStayUptoSaid : Prop := screensStayUptoRow.holds Tryz.pinned (OpenSpec.upto screensStaySpec)

/-- 'signlaw2.AlertsOwed', WHERE WHAT IT READS IS OF BULK AT MOST 1048576: true; the input reads as it did. -/
def alertsOwedUptoRow : OpenClaim := { program := "ytpojeclokolkaaagreatdoor", sum := "b969a6f834d680e208a4b8dd00f0621b8bd4be281c16f15da5731a59131eefb9", func := "signboard/signlaw2.AlertsOwed", spec := "alertsOwed", inPlace := ["internal/bytealg.abigen_runtime_cmpstring", "internal/bytealg.IndexByteString", "internal/bytealg.IndexString"], unfollowed := true, recurses := true, named := ["unicode/utf8.first", "unicode/utf8.acceptRanges", "internal/bytealg.MaxLen"], plainKeys := false, apart := false, laid := [("unicode/utf8.acceptRanges", laid_unicode_utf8_acceptRanges), ("unicode/utf8.first", laid_unicode_utf8_first)], narrowed := true }
def AlertsOwedUptoSaid : Prop := alertsOwedUptoRow.holds Tryz.pinned (OpenSpec.upto alertsOwedSpec)

end Rows
end Go.Proofs.YtpojeclokolkaaaGreatDoor
