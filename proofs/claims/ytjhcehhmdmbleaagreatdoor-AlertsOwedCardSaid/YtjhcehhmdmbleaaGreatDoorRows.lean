/-
  NARROWER THAN 'FOR EVERY INPUT', by the rows' own cells (each row's printed sentence says how): ViewsAreApart: laid · AlertsThrough: laid · SchedulesAgree: laid · NextIsNext: laid · DebtsAreJust: laid · AlertsOwed: laid.
  DERIVED. THE GIVEN ROWS OF THIS SEAT. 6 by the template 'for every input the law returns true; each argument reads behind the call as it read before'; 0 by the template 'total and deterministic' (their statements: YtjhcehhmdmbleaaGreatDoorTotals.lean).
  GIVEN WITH THE SEED: the statements are not yours to turn. If you find one false, say at which input.
  Laid BY PROGRAM, IN A SANDBOX (cutbox-rows.mjs): the forced cells as the released guide's own fill.sh prints them over the translation d2c219104ee7d073… (all of the seat's roots in one cut). By AI agents, Wed Nov 11 2026. No macro, syntax, notation, axiom, sorry.
-/
import Derived.Test.YtjhcehhmdmbleaaGreatDoorChecked
import GoSem.PinnedTables
import GoSem.Claim
import GoSem.ClaimJoined
import GoSem.ClaimMapViews
import Derived.JoinedTies
import Derived.KernelRfl
namespace Go.Proofs.YtjhcehhmdmbleaaGreatDoor
/- THE CELL 'sum', in the pinned program and in every row, IS THE sha256 OF THE DUMP (.gsa) THAT YtjhcehhmdmbleaaGreatDoorProg.lean LOADS. Nothing in Lean hashes anything: it is a label: what it is worth is what the hold of that sum in a sandbox is worth. -/
noncomputable def Tryz.pinned : Pinned := { name := "ytjhcehhmdmbleaagreatdoor", sum := "d2c219104ee7d0737cc7e6b669d5827447b0090d6bf35a903b4971f6e770281c", checked := Tryz.checked }
namespace Rows
def none {H : Type} : Left H := { results := [], args := [] }

/- WHAT THE LISTED PACKAGE-LEVEL VARIABLES READ AS WHEN THE CALL BEGINS. Each datum BY PROGRAM (the guide's laid-datum.mjs) off the statement by which the dump's own 'gosem.cut.vars' lays the variable. In a bare row this is a premise. The card (YtjhcehhmdmbleaaGreatDoorCards.lean) ties it to the program's text. -/
def laid_unicode_utf8_acceptRanges {H : Type} : DataW H := .agg [.agg [.lit (.int .u8 128), .lit (.int .u8 191)], .agg [.lit (.int .u8 160), .lit (.int .u8 191)], .agg [.lit (.int .u8 128), .lit (.int .u8 159)], .agg [.lit (.int .u8 144), .lit (.int .u8 191)], .agg [.lit (.int .u8 128), .lit (.int .u8 143)], .agg [.lit (.int .u8 0), .lit (.int .u8 0)], .agg [.lit (.int .u8 0), .lit (.int .u8 0)], .agg [.lit (.int .u8 0), .lit (.int .u8 0)], .agg [.lit (.int .u8 0), .lit (.int .u8 0)], .agg [.lit (.int .u8 0), .lit (.int .u8 0)], .agg [.lit (.int .u8 0), .lit (.int .u8 0)], .agg [.lit (.int .u8 0), .lit (.int .u8 0)], .agg [.lit (.int .u8 0), .lit (.int .u8 0)], .agg [.lit (.int .u8 0), .lit (.int .u8 0)], .agg [.lit (.int .u8 0), .lit (.int .u8 0)], .agg [.lit (.int .u8 0), .lit (.int .u8 0)]]
/-- One of Go's own tables, pinned by name: the form's constant. -/
def laid_unicode_utf8_first : DataW Unit := Go.Pinned.utf8First

/-- 'signkeep2.ViewsAreApart': WHATEVER THE INPUT: true; the input reads as it did. -/
def viewsAreApartSpec : ChangeSpec := { name := "viewsAreApart", fn := fun _ => fun
  | [d] => { results := [.lit (.bool true)], args := [d] }
  | _ => none }
def viewsAreApartRow : OpenClaim := { program := "ytjhcehhmdmbleaagreatdoor", sum := "d2c219104ee7d0737cc7e6b669d5827447b0090d6bf35a903b4971f6e770281c", func := "signboard/signkeep2.ViewsAreApart", spec := "viewsAreApart", inPlace := ["internal/bytealg.IndexByteString", "internal/bytealg.abigen_runtime_cmpstring", "internal/bytealg.IndexString"], unfollowed := true, recurses := true, named := ["unicode/utf8.first", "unicode/utf8.acceptRanges", "internal/bytealg.MaxLen"], plainKeys := false, apart := false, laid := [("unicode/utf8.acceptRanges", laid_unicode_utf8_acceptRanges), ("unicode/utf8.first", laid_unicode_utf8_first)] }
def ViewsAreApartSaid : Prop := viewsAreApartRow.holds Tryz.pinned (OpenSpec.ofChange viewsAreApartSpec)

/-- ITS FALSE NEIGHBOUR: 'it returns false'. Refute it at one input. -/
def viewsAreApartWrong : ChangeSpec := { name := "viewsAreApart", fn := fun _ => fun
  | [d] => { results := [.lit (.bool false)], args := [d] }
  | _ => none }
def ViewsAreApartWrongFalsely : Prop := viewsAreApartRow.holds Tryz.pinned (OpenSpec.ofChange viewsAreApartWrong)

/-- 'signlaw2.AlertsThrough': WHATEVER THE INPUT: true; the input reads as it did. -/
def alertsThroughSpec : ChangeSpec := { name := "alertsThrough", fn := fun _ => fun
  | [d] => { results := [.lit (.bool true)], args := [d] }
  | _ => none }
def alertsThroughRow : OpenClaim := { program := "ytjhcehhmdmbleaagreatdoor", sum := "d2c219104ee7d0737cc7e6b669d5827447b0090d6bf35a903b4971f6e770281c", func := "signboard/signlaw2.AlertsThrough", spec := "alertsThrough", inPlace := ["internal/bytealg.IndexByteString", "internal/bytealg.IndexString", "internal/bytealg.abigen_runtime_cmpstring"], unfollowed := true, recurses := true, named := ["unicode/utf8.first", "unicode/utf8.acceptRanges", "internal/bytealg.MaxLen"], plainKeys := false, apart := false, laid := [("unicode/utf8.acceptRanges", laid_unicode_utf8_acceptRanges), ("unicode/utf8.first", laid_unicode_utf8_first)] }
def AlertsThroughSaid : Prop := alertsThroughRow.holds Tryz.pinned (OpenSpec.ofChange alertsThroughSpec)

/-- ITS FALSE NEIGHBOUR: 'it returns false'. Refute it at one input. -/
def alertsThroughWrong : ChangeSpec := { name := "alertsThrough", fn := fun _ => fun
  | [d] => { results := [.lit (.bool false)], args := [d] }
  | _ => none }
def AlertsThroughWrongFalsely : Prop := alertsThroughRow.holds Tryz.pinned (OpenSpec.ofChange alertsThroughWrong)

/-- 'signkeep2.SchedulesAgree': WHATEVER THE INPUT: true; the input reads as it did. -/
def schedulesAgreeSpec : ChangeSpec := { name := "schedulesAgree", fn := fun _ => fun
  | [d] => { results := [.lit (.bool true)], args := [d] }
  | _ => none }
def schedulesAgreeRow : OpenClaim := { program := "ytjhcehhmdmbleaagreatdoor", sum := "d2c219104ee7d0737cc7e6b669d5827447b0090d6bf35a903b4971f6e770281c", func := "signboard/signkeep2.SchedulesAgree", spec := "schedulesAgree", inPlace := ["internal/bytealg.abigen_runtime_cmpstring", "internal/bytealg.IndexByteString", "internal/bytealg.IndexString"], unfollowed := true, recurses := true, named := ["unicode/utf8.first", "unicode/utf8.acceptRanges", "internal/bytealg.MaxLen"], plainKeys := false, apart := false, laid := [("unicode/utf8.acceptRanges", laid_unicode_utf8_acceptRanges), ("unicode/utf8.first", laid_unicode_utf8_first)] }
def SchedulesAgreeSaid : Prop := schedulesAgreeRow.holds Tryz.pinned (OpenSpec.ofChange schedulesAgreeSpec)

/-- ITS FALSE NEIGHBOUR: 'it returns false'. Refute it at one input. -/
def schedulesAgreeWrong : ChangeSpec := { name := "schedulesAgree", fn := fun _ => fun
  | [d] => { results := [.lit (.bool false)], args := [d] }
  | _ => none }
def SchedulesAgreeWrongFalsely : Prop := schedulesAgreeRow.holds Tryz.pinned (OpenSpec.ofChange schedulesAgreeWrong)

/-- 'signkeep2.NextIsNext': WHATEVER THE INPUT: true; the input reads as it did. -/
def nextIsNextSpec : ChangeSpec := { name := "nextIsNext", fn := fun _ => fun
  | [d] => { results := [.lit (.bool true)], args := [d] }
  | _ => none }
def nextIsNextRow : OpenClaim := { program := "ytjhcehhmdmbleaagreatdoor", sum := "d2c219104ee7d0737cc7e6b669d5827447b0090d6bf35a903b4971f6e770281c", func := "signboard/signkeep2.NextIsNext", spec := "nextIsNext", inPlace := ["internal/bytealg.abigen_runtime_cmpstring", "internal/bytealg.IndexByteString", "internal/bytealg.IndexString"], unfollowed := true, recurses := true, named := ["unicode/utf8.first", "unicode/utf8.acceptRanges", "internal/bytealg.MaxLen"], plainKeys := false, apart := false, laid := [("unicode/utf8.acceptRanges", laid_unicode_utf8_acceptRanges), ("unicode/utf8.first", laid_unicode_utf8_first)] }
def NextIsNextSaid : Prop := nextIsNextRow.holds Tryz.pinned (OpenSpec.ofChange nextIsNextSpec)

/-- ITS FALSE NEIGHBOUR: 'it returns false'. Refute it at one input. -/
def nextIsNextWrong : ChangeSpec := { name := "nextIsNext", fn := fun _ => fun
  | [d] => { results := [.lit (.bool false)], args := [d] }
  | _ => none }
def NextIsNextWrongFalsely : Prop := nextIsNextRow.holds Tryz.pinned (OpenSpec.ofChange nextIsNextWrong)

/-- 'signkeep2.DebtsAreJust': WHATEVER THE INPUT: true; the input reads as it did. -/
def debtsAreJustSpec : ChangeSpec := { name := "debtsAreJust", fn := fun _ => fun
  | [d] => { results := [.lit (.bool true)], args := [d] }
  | _ => none }
def debtsAreJustRow : OpenClaim := { program := "ytjhcehhmdmbleaagreatdoor", sum := "d2c219104ee7d0737cc7e6b669d5827447b0090d6bf35a903b4971f6e770281c", func := "signboard/signkeep2.DebtsAreJust", spec := "debtsAreJust", inPlace := ["internal/bytealg.IndexByteString", "internal/bytealg.IndexString", "internal/bytealg.abigen_runtime_cmpstring"], unfollowed := true, recurses := true, named := ["unicode/utf8.first", "unicode/utf8.acceptRanges", "internal/bytealg.MaxLen"], plainKeys := false, apart := false, laid := [("unicode/utf8.acceptRanges", laid_unicode_utf8_acceptRanges), ("unicode/utf8.first", laid_unicode_utf8_first)] }
def DebtsAreJustSaid : Prop := debtsAreJustRow.holds Tryz.pinned (OpenSpec.ofChange debtsAreJustSpec)

/-- ITS FALSE NEIGHBOUR: 'it returns false'. Refute it at one input. -/
def debtsAreJustWrong : ChangeSpec := { name := "debtsAreJust", fn := fun _ => fun
  | [d] => { results := [.lit (.bool false)], args := [d] }
  | _ => none }
def DebtsAreJustWrongFalsely : Prop := debtsAreJustRow.holds Tryz.pinned (OpenSpec.ofChange debtsAreJustWrong)

/-- 'signlaw2.AlertsOwed': WHATEVER THE INPUT: true; the input reads as it did. -/
def alertsOwedSpec : ChangeSpec := { name := "alertsOwed", fn := fun _ => fun
  | [d] => { results := [.lit (.bool true)], args := [d] }
  | _ => none }
def alertsOwedRow : OpenClaim := { program := "ytjhcehhmdmbleaagreatdoor", sum := "d2c219104ee7d0737cc7e6b669d5827447b0090d6bf35a903b4971f6e770281c", func := "signboard/signlaw2.AlertsOwed", spec := "alertsOwed", inPlace := ["internal/bytealg.abigen_runtime_cmpstring", "internal/bytealg.IndexByteString", "internal/bytealg.IndexString"], unfollowed := true, recurses := true, named := ["unicode/utf8.first", "unicode/utf8.acceptRanges", "internal/bytealg.MaxLen"], plainKeys := false, apart := false, laid := [("unicode/utf8.acceptRanges", laid_unicode_utf8_acceptRanges), ("unicode/utf8.first", laid_unicode_utf8_first)] }
def AlertsOwedSaid : Prop := alertsOwedRow.holds Tryz.pinned (OpenSpec.ofChange alertsOwedSpec)

/-- ITS FALSE NEIGHBOUR: 'it returns false'. Refute it at one input. -/
def alertsOwedWrong : ChangeSpec := { name := "alertsOwed", fn := fun _ => fun
  | [d] => { results := [.lit (.bool false)], args := [d] }
  | _ => none }
def AlertsOwedWrongFalsely : Prop := alertsOwedRow.holds Tryz.pinned (OpenSpec.ofChange alertsOwedWrong)

/- THE SECOND FORM. 'bulk': how many values and letters a reading holds, each counted each time it is reached (what is shared counts as often as it is met; a slice's spare places count too). A statement '..UptoSaid' is the law's where the arguments, and the package variables that the reading takes, are together of bulk at most 1048576: NARROWER than '..Said'. Prove '..Said' where nothing that the law and all that it calls make is longer than what came in: it says more and counts as full. Else prove '..UptoSaid'. A law counts once. -/
mutual
def uptoBulk {H : Type} : DataW H → Nat
  | .lit (.string bytes) => bytes.length + 1
  | .lit _ => 1
  | .nil => 1
  | .ptr d => uptoBulk d + 1
  | .slice elems spare => uptoBulkAll elems + uptoBulkAll spare + 1
  | .agg parts => uptoBulkAll parts + 1
  | .iface _ d => uptoBulk d + 1
  | .map entries => uptoBulkEntries entries + 1
  | .held _ => 1
def uptoBulkAll {H : Type} : List (DataW H) → Nat
  | [] => 0
  | d :: r => uptoBulk d + uptoBulkAll r
def uptoBulkEntries {H : Type} : List (Lit × DataW H) → Nat
  | [] => 0
  | x :: r => uptoBulkEntry x + uptoBulkEntries r
def uptoBulkEntry {H : Type} : Lit × DataW H → Nat
  | (.string bytes, d) => bytes.length + uptoBulk d + 1
  | (_, d) => uptoBulk d + 1
 end
def uptoSmall : (H : Type) → List (DataW H) → Bool := fun _ ds => decide (uptoBulkAll ds ≤ 1048576)
def OpenSpec.upto (s : _root_.Go.ChangeSpec) : _root_.Go.OpenSpec := { _root_.Go.OpenSpec.ofChange s with cond := some uptoSmall }

/-- 'signkeep2.ViewsAreApart', WHERE WHAT IT READS IS OF BULK AT MOST 1048576: true; the input reads as it did. -/
def viewsAreApartUptoRow : OpenClaim := { program := "ytjhcehhmdmbleaagreatdoor", sum := "d2c219104ee7d0737cc7e6b669d5827447b0090d6bf35a903b4971f6e770281c", func := "signboard/signkeep2.ViewsAreApart", spec := "viewsAreApart", inPlace := ["internal/bytealg.IndexByteString", "internal/bytealg.abigen_runtime_cmpstring", "internal/bytealg.IndexString"], unfollowed := true, recurses := true, named := ["unicode/utf8.first", "unicode/utf8.acceptRanges", "internal/bytealg.MaxLen"], plainKeys := false, apart := false, laid := [("unicode/utf8.acceptRanges", laid_unicode_utf8_acceptRanges), ("unicode/utf8.first", laid_unicode_utf8_first)], narrowed := true }
def ViewsAreApartUptoSaid : Prop := viewsAreApartUptoRow.holds Tryz.pinned (OpenSpec.upto viewsAreApartSpec)

/-- 'signlaw2.AlertsThrough', WHERE WHAT IT READS IS OF BULK AT MOST 1048576: true; the input reads as it did. -/
def alertsThroughUptoRow : OpenClaim := { program := "ytjhcehhmdmbleaagreatdoor", sum := "d2c219104ee7d0737cc7e6b669d5827447b0090d6bf35a903b4971f6e770281c", func := "signboard/signlaw2.AlertsThrough", spec := "alertsThrough", inPlace := ["internal/bytealg.IndexByteString", "internal/bytealg.IndexString", "internal/bytealg.abigen_runtime_cmpstring"], unfollowed := true, recurses := true, named := ["unicode/utf8.first", "unicode/utf8.acceptRanges", "internal/bytealg.MaxLen"], plainKeys := false, apart := false, laid := [("unicode/utf8.acceptRanges", laid_unicode_utf8_acceptRanges), ("unicode/utf8.first", laid_unicode_utf8_first)], narrowed := true }
def AlertsThroughUptoSaid : Prop := alertsThroughUptoRow.holds Tryz.pinned (OpenSpec.upto alertsThroughSpec)

/-- 'signkeep2.SchedulesAgree', WHERE WHAT IT READS IS OF BULK AT MOST 1048576: true; the input reads as it did. -/
def schedulesAgreeUptoRow : OpenClaim := { program := "ytjhcehhmdmbleaagreatdoor", sum := "d2c219104ee7d0737cc7e6b669d5827447b0090d6bf35a903b4971f6e770281c", func := "signboard/signkeep2.SchedulesAgree", spec := "schedulesAgree", inPlace := ["internal/bytealg.abigen_runtime_cmpstring", "internal/bytealg.IndexByteString", "internal/bytealg.IndexString"], unfollowed := true, recurses := true, named := ["unicode/utf8.first", "unicode/utf8.acceptRanges", "internal/bytealg.MaxLen"], plainKeys := false, apart := false, laid := [("unicode/utf8.acceptRanges", laid_unicode_utf8_acceptRanges), ("unicode/utf8.first", laid_unicode_utf8_first)], narrowed := true }
def SchedulesAgreeUptoSaid : Prop := schedulesAgreeUptoRow.holds Tryz.pinned (OpenSpec.upto schedulesAgreeSpec)

/-- 'signkeep2.NextIsNext', WHERE WHAT IT READS IS OF BULK AT MOST 1048576: true; the input reads as it did. -/
def nextIsNextUptoRow : OpenClaim := { program := "ytjhcehhmdmbleaagreatdoor", sum := "d2c219104ee7d0737cc7e6b669d5827447b0090d6bf35a903b4971f6e770281c", func := "signboard/signkeep2.NextIsNext", spec := "nextIsNext", inPlace := ["internal/bytealg.abigen_runtime_cmpstring", "internal/bytealg.IndexByteString", "internal/bytealg.IndexString"], unfollowed := true, recurses := true, named := ["unicode/utf8.first", "unicode/utf8.acceptRanges", "internal/bytealg.MaxLen"], plainKeys := false, apart := false, laid := [("unicode/utf8.acceptRanges", laid_unicode_utf8_acceptRanges), ("unicode/utf8.first", laid_unicode_utf8_first)], narrowed := true }
def NextIsNextUptoSaid : Prop := nextIsNextUptoRow.holds Tryz.pinned (OpenSpec.upto nextIsNextSpec)

/-- 'signkeep2.DebtsAreJust', WHERE WHAT IT READS IS OF BULK AT MOST 1048576: true; the input reads as it did. -/
def debtsAreJustUptoRow : OpenClaim := { program := "ytjhcehhmdmbleaagreatdoor", sum := "d2c219104ee7d0737cc7e6b669d5827447b0090d6bf35a903b4971f6e770281c", func := "signboard/signkeep2.DebtsAreJust", spec := "debtsAreJust", inPlace := ["internal/bytealg.IndexByteString", "internal/bytealg.IndexString", "internal/bytealg.abigen_runtime_cmpstring"], unfollowed := true, recurses := true, named := ["unicode/utf8.first", "unicode/utf8.acceptRanges", "internal/bytealg.MaxLen"], plainKeys := false, apart := false, laid := [("unicode/utf8.acceptRanges", laid_unicode_utf8_acceptRanges), ("unicode/utf8.first", laid_unicode_utf8_first)], narrowed := true }
def DebtsAreJustUptoSaid : Prop := debtsAreJustUptoRow.holds Tryz.pinned (OpenSpec.upto debtsAreJustSpec)

/-- 'signlaw2.AlertsOwed', WHERE WHAT IT READS IS OF BULK AT MOST 1048576: true; the input reads as it did. -/
def alertsOwedUptoRow : OpenClaim := { program := "ytjhcehhmdmbleaagreatdoor", sum := "d2c219104ee7d0737cc7e6b669d5827447b0090d6bf35a903b4971f6e770281c", func := "signboard/signlaw2.AlertsOwed", spec := "alertsOwed", inPlace := ["internal/bytealg.abigen_runtime_cmpstring", "internal/bytealg.IndexByteString", "internal/bytealg.IndexString"], unfollowed := true, recurses := true, named := ["unicode/utf8.first", "unicode/utf8.acceptRanges", "internal/bytealg.MaxLen"], plainKeys := false, apart := false, laid := [("unicode/utf8.acceptRanges", laid_unicode_utf8_acceptRanges), ("unicode/utf8.first", laid_unicode_utf8_first)], narrowed := true }
def AlertsOwedUptoSaid : Prop := alertsOwedUptoRow.holds Tryz.pinned (OpenSpec.upto alertsOwedSpec)

end Rows
end Go.Proofs.YtjhcehhmdmbleaaGreatDoor
