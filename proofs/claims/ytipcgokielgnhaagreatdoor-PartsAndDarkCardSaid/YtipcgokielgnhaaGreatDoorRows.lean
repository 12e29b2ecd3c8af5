/-
  NARROWER THAN 'FOR EVERY INPUT', by the rows' own cells (each row's printed sentence says how): ScalesFill: laid · RegionsSame: laid · PartsAndDark: laid · LayoutsAreWhole: laid · ViewsAreApart: laid · ClocksComeBack: laid · PacesGrow: laid.
  DERIVED. THE GIVEN ROWS OF THIS SEAT. 7 by the template 'for every input the law returns true; each argument reads behind the call as it read before'; 0 by the template 'total and deterministic' (their statements: YtipcgokielgnhaaGreatDoorTotals.lean).
  GIVEN WITH THE SEED: the statements are not yours to turn. If you find one false, say at which input.
  Laid BY PROGRAM, IN A SANDBOX (cutbox-rows.mjs): the forced cells as the released guide's own fill.sh prints them over the translation 8b5df844aa41b56a… (all of the seat's roots in one cut). By AI agents, Wed Nov 11 2026. No macro, syntax, notation, axiom, sorry.
-/
import Derived.Test.YtipcgokielgnhaaGreatDoorChecked
import GoSem.PinnedTables
import GoSem.Claim
import GoSem.ClaimJoined
import GoSem.ClaimMapViews
import Derived.JoinedTies
import Derived.KernelRfl
namespace Go.Proofs.YtipcgokielgnhaaGreatDoor
/- THE CELL 'sum', in the pinned program and in every row, IS THE sha256 OF THE DUMP (.gsa) THAT YtipcgokielgnhaaGreatDoorProg.lean LOADS. Nothing in Lean hashes anything: it is a label: what it is worth is what the hold of that sum in a sandbox is worth. -/
noncomputable def Tryz.pinned : Pinned := { name := "ytipcgokielgnhaagreatdoor", sum := "8b5df844aa41b56aa7fa720010ecb444e2cf0265aecd889ff470fd6abfc9e00e", checked := Tryz.checked }
namespace Rows
def none {H : Type} : Left H := { results := [], args := [] }

/- WHAT THE LISTED PACKAGE-LEVEL VARIABLES READ AS WHEN THE CALL BEGINS. Each datum BY PROGRAM (the guide's laid-datum.mjs) off the statement by which the dump's own 'gosem.cut.vars' lays the variable. In a bare row this is a premise. The card (YtipcgokielgnhaaGreatDoorCards.lean) ties it to the program's text. -/
def laid_unicode_utf8_acceptRanges {H : Type} : DataW H := .agg [.agg [.lit (.int .u8 128), .lit (.int .u8 191)], .agg [.lit (.int .u8 160), .lit (.int .u8 191)], .agg [.lit (.int .u8 128), .lit (.int .u8 159)], .agg [.lit (.int .u8 144), .lit (.int .u8 191)], .agg [.lit (.int .u8 128), .lit (.int .u8 143)], .agg [.lit (.int .u8 0), .lit (.int .u8 0)], .agg [.lit (.int .u8 0), .lit (.int .u8 0)], .agg [.lit (.int .u8 0), .lit (.int .u8 0)], .agg [.lit (.int .u8 0), .lit (.int .u8 0)], .agg [.lit (.int .u8 0), .lit (.int .u8 0)], .agg [.lit (.int .u8 0), .lit (.int .u8 0)], .agg [.lit (.int .u8 0), .lit (.int .u8 0)], .agg [.lit (.int .u8 0), .lit (.int .u8 0)], .agg [.lit (.int .u8 0), .lit (.int .u8 0)], .agg [.lit (.int .u8 0), .lit (.int .u8 0)], .agg [.lit (.int .u8 0), .lit (.int .u8 0)]]
/-- One of Go's own tables, pinned by name: the form's constant. -/
def laid_unicode_utf8_first : DataW Unit := Go.Pinned.utf8First

/-- 'signkeep2.ScalesFill': WHATEVER THE INPUT: true; the input reads as it did. -/
def scalesFillSpec : ChangeSpec := { name := "scalesFill", fn := fun _ => fun
  | [d] => { results := [.lit (.bool true)], args := [d] }
  | _ => none }
def scalesFillRow : OpenClaim := { program := "ytipcgokielgnhaagreatdoor", sum := "8b5df844aa41b56aa7fa720010ecb444e2cf0265aecd889ff470fd6abfc9e00e", func := "signboard/signkeep2.ScalesFill", spec := "scalesFill", inPlace := ["internal/bytealg.abigen_runtime_cmpstring", "internal/bytealg.IndexByteString", "internal/bytealg.IndexString"], unfollowed := true, recurses := true, named := ["unicode/utf8.first", "unicode/utf8.acceptRanges", "internal/bytealg.MaxLen"], apart := false, laid := [("unicode/utf8.acceptRanges", laid_unicode_utf8_acceptRanges), ("unicode/utf8.first", laid_unicode_utf8_first)] }
def ScalesFillSaid : Prop := scalesFillRow.holds Tryz.pinned (OpenSpec.ofChange scalesFillSpec)

/-- ITS FALSE NEIGHBOUR: 'it returns false'. Refute it at one input. -/
def scalesFillWrong : ChangeSpec := { name := "scalesFill", fn := fun _ => fun
  | [d] => { results := [.lit (.bool false)], args := [d] }
  | _ => none }
def ScalesFillWrongFalsely : Prop := scalesFillRow.holds Tryz.pinned (OpenSpec.ofChange scalesFillWrong)

/-- 'signkeep2.RegionsSame': WHATEVER THE INPUT: true; the input reads as it did. -/
def regionsSameSpec : ChangeSpec := { name := "regionsSame", fn := fun _ => fun
  | [d] => { results := [.lit (.bool true)], args := [d] }
  | _ => none }
def regionsSameRow : OpenClaim := { program := "ytipcgokielgnhaagreatdoor", sum := "8b5df844aa41b56aa7fa720010ecb444e2cf0265aecd889ff470fd6abfc9e00e", func := "signboard/signkeep2.RegionsSame", spec := "regionsSame", inPlace := ["internal/bytealg.abigen_runtime_cmpstring", "internal/bytealg.IndexByteString", "internal/bytealg.IndexString"], unfollowed := true, recurses := true, named := ["unicode/utf8.first", "unicode/utf8.acceptRanges", "internal/bytealg.MaxLen"], apart := false, laid := [("unicode/utf8.acceptRanges", laid_unicode_utf8_acceptRanges), ("unicode/utf8.first", laid_unicode_utf8_first)] }
def RegionsSameSaid : Prop := regionsSameRow.holds Tryz.pinned (OpenSpec.ofChange regionsSameSpec)

/-- ITS FALSE NEIGHBOUR: 'it returns false'. Refute it at one input. -/
def regionsSameWrong : ChangeSpec := { name := "regionsSame", fn := fun _ => fun
  | [d] => { results := [.lit (.bool false)], args := [d] }
  | _ => none }
def RegionsSameWrongFalsely : Prop := regionsSameRow.holds Tryz.pinned (OpenSpec.ofChange regionsSameWrong)

/-- 'signkeep2.PartsAndDark': WHATEVER THE INPUT: true; the input reads as it did. -/
def partsAndDarkSpec : ChangeSpec := { name := "partsAndDark", fn := fun _ => fun
  | [d] => { results := [.lit (.bool true)], args := [d] }
  | _ => none }
def partsAndDarkRow : OpenClaim := { program := "ytipcgokielgnhaagreatdoor", sum := "8b5df844aa41b56aa7fa720010ecb444e2cf0265aecd889ff470fd6abfc9e00e", func := "signboard/signkeep2.PartsAndDark", spec := "partsAndDark", inPlace := ["internal/bytealg.IndexByteString", "internal/bytealg.abigen_runtime_cmpstring", "internal/bytealg.IndexString"], unfollowed := true, recurses := true, named := ["unicode/utf8.first", "unicode/utf8.acceptRanges", "internal/bytealg.MaxLen"], apart := false, laid := [("unicode/utf8.acceptRanges", laid_unicode_utf8_acceptRanges), ("unicode/utf8.first", laid_unicode_utf8_first)] }
def PartsAndDarkSaid : Prop := partsAndDarkRow.holds Tryz.pinned (OpenSpec.ofChange partsAndDarkSpec)

/-- ITS FALSE NEIGHBOUR: 'it returns false'. Refute it at one input. -/
def partsAndDarkWrong : ChangeSpec := { name := "partsAndDark", fn := fun _ => fun
  | [d] => { results := [.lit (.bool false)], args := [d] }
  | _ => none }
def PartsAndDarkWrongFalsely : Prop := partsAndDarkRow.holds Tryz.pinned (OpenSpec.ofChange partsAndDarkWrong)

/-- 'signkeep2.LayoutsAreWhole': WHATEVER THE INPUT: true; the input reads as it did. -/
def layoutsAreWholeSpec : ChangeSpec := { name := "layoutsAreWhole", fn := fun _ => fun
  | [d] => { results := [.lit (.bool true)], args := [d] }
  | _ => none }
def layoutsAreWholeRow : OpenClaim := { program := "ytipcgokielgnhaagreatdoor", sum := "8b5df844aa41b56aa7fa720010ecb444e2cf0265aecd889ff470fd6abfc9e00e", func := "signboard/signkeep2.LayoutsAreWhole", spec := "layoutsAreWhole", inPlace := ["internal/bytealg.abigen_runtime_cmpstring", "internal/bytealg.IndexByteString", "internal/bytealg.IndexString"], unfollowed := true, recurses := true, named := ["unicode/utf8.first", "unicode/utf8.acceptRanges", "internal/bytealg.MaxLen"], apart := false, laid := [("unicode/utf8.acceptRanges", laid_unicode_utf8_acceptRanges), ("unicode/utf8.first", laid_unicode_utf8_first)] }
def LayoutsAreWholeSaid : Prop := layoutsAreWholeRow.holds Tryz.pinned (OpenSpec.ofChange layoutsAreWholeSpec)

/-- ITS FALSE NEIGHBOUR: 'it returns false'. Refute it at one input. -/
def layoutsAreWholeWrong : ChangeSpec := { name := "layoutsAreWhole", fn := fun _ => fun
  | [d] => { results := [.lit (.bool false)], args := [d] }
  | _ => none }
def LayoutsAreWholeWrongFalsely : Prop := layoutsAreWholeRow.holds Tryz.pinned (OpenSpec.ofChange layoutsAreWholeWrong)

/-- 'signkeep2.ViewsAreApart': WHATEVER THE INPUT: true; the input reads as it did. -/
def viewsAreApartSpec : ChangeSpec := { name := "viewsAreApart", fn := fun _ => fun
  | [d] => { results := [.lit (.bool true)], args := [d] }
  | _ => none }
def viewsAreApartRow : OpenClaim := { program := "ytipcgokielgnhaagreatdoor", sum := "8b5df844aa41b56aa7fa720010ecb444e2cf0265aecd889ff470fd6abfc9e00e", func := "signboard/signkeep2.ViewsAreApart", spec := "viewsAreApart", inPlace := ["internal/bytealg.IndexByteString", "internal/bytealg.abigen_runtime_cmpstring", "internal/bytealg.IndexString"], unfollowed := true, recurses := true, named := ["unicode/utf8.first", "unicode/utf8.acceptRanges", "internal/bytealg.MaxLen"], apart := false, laid := [("unicode/utf8.acceptRanges", laid_unicode_utf8_acceptRanges), ("unicode/utf8.first", laid_unicode_utf8_first)] }
def ViewsAreApartSaid : Prop := viewsAreApartRow.holds Tryz.pinned (OpenSpec.ofChange viewsAreApartSpec)

/-- ITS FALSE NEIGHBOUR: 'it returns false'. Refute it at one input. -/
def viewsAreApartWrong : ChangeSpec := { name := "viewsAreApart", fn := fun _ => fun
  | [d] => { results := [.lit (.bool false)], args := [d] }
  | _ => none }
def ViewsAreApartWrongFalsely : Prop := viewsAreApartRow.holds Tryz.pinned (OpenSpec.ofChange viewsAreApartWrong)

/-- 'signkeep2.ClocksComeBack': WHATEVER THE INPUT: true; the input reads as it did. -/
def clocksComeBackSpec : ChangeSpec := { name := "clocksComeBack", fn := fun _ => fun
  | [d] => { results := [.lit (.bool true)], args := [d] }
  | _ => none }
def clocksComeBackRow : OpenClaim := { program := "ytipcgokielgnhaagreatdoor", sum := "8b5df844aa41b56aa7fa720010ecb444e2cf0265aecd889ff470fd6abfc9e00e", func := "signboard/signkeep2.ClocksComeBack", spec := "clocksComeBack", inPlace := ["internal/bytealg.abigen_runtime_cmpstring", "internal/bytealg.IndexByteString", "internal/bytealg.IndexString"], unfollowed := true, recurses := true, named := ["unicode/utf8.first", "unicode/utf8.acceptRanges", "internal/bytealg.MaxLen"], apart := false, laid := [("unicode/utf8.acceptRanges", laid_unicode_utf8_acceptRanges), ("unicode/utf8.first", laid_unicode_utf8_first)] }
def ClocksComeBackSaid : Prop := clocksComeBackRow.holds Tryz.pinned (OpenSpec.ofChange clocksComeBackSpec)

/-- ITS FALSE NEIGHBOUR: 'it returns false'. Refute it at one input. -/
def clocksComeBackWrong : ChangeSpec := { name := "clocksComeBack", fn := fun _ => fun
  | [d] => { results := [.lit (.bool false)], args := [d] }
  | _ => none }
def ClocksComeBackWrongFalsely : Prop := clocksComeBackRow.holds Tryz.pinned (OpenSpec.ofChange clocksComeBackWrong)

/-- 'signkeep2.PacesGrow': WHATEVER THE INPUT: true; the input reads as it did. -/
def pacesGrowSpec : ChangeSpec := { name := "pacesGrow", fn := fun _ => fun
  | [d] => { results := [.lit (.bool true)], args := [d] }
  | _ => none }
def pacesGrowRow : OpenClaim := { program := "ytipcgokielgnhaagreatdoor", sum := "8b5df844aa41b56aa7fa720010ecb444e2cf0265aecd889ff470fd6abfc9e00e", func := "signboard/signkeep2.PacesGrow", spec := "pacesGrow", inPlace := ["internal/bytealg.abigen_runtime_cmpstring", "internal/bytealg.IndexByteString", "internal/bytealg.IndexString"], unfollowed := true, recurses := true, named := ["unicode/utf8.first", "unicode/utf8.acceptRanges", "internal/bytealg.MaxLen"], apart := false, laid := [("unicode/utf8.acceptRanges", laid_unicode_utf8_acceptRanges), ("unicode/utf8.first", laid_unicode_utf8_first)] }
def PacesGrowSaid : Prop := pacesGrowRow.holds Tryz.pinned (OpenSpec.ofChange pacesGrowSpec)

/-- ITS FALSE NEIGHBOUR: 'it returns false'. Refute it at one input. -/
def pacesGrowWrong : ChangeSpec := { name := "pacesGrow", fn := fun _ => fun
  | [d] => { results := [.lit (.bool false)], args := [d] }
  | _ => none }
def PacesGrowWrongFalsely : Prop := pacesGrowRow.holds Tryz.pinned (OpenSpec.ofChange pacesGrowWrong)

/- THE SECOND FORM. 'bulk': how many values and letters a reading holds, each counted each time it is reached (what is shared counts as often as it is met; a slice's spare places count too). A statement '..UptoSaid' is the law's where the arguments, and the package variables that the reading takes, are together of bulk at most 1048576: NARROWER than '..Said'. Prove '..Said' where nothing that the law and all that it calls make is longer than what came in: it says more and counts as full. Else prove '..UptoSaid'. A law counts once. -/
mutual
def uptoBulk {H : Type} : DataW H → Nat
  | .lit (.string bytes) => bytes.length + 1
  | .lit _ => 1
  | .nil => 1
  | .ptr d => uptoBulk d + 1
  | .slice elems spare => uptoBulkAll elems + uptoBulkAll spare + 1
  | .agg parts => uptoBulkAll parts + 1
  | .iface _ d => uptoBulk d + 1
  | .map entries => uptoBulkEntries entries + 1
  | .held _ => 1
def uptoBulkAll {H : Type} : List (DataW H) → Nat
  | [] => 0
  | d :: r => uptoBulk d + uptoBulkAll r
def uptoBulkEntries {H : Type} : List (Lit × DataW H) → Nat
  | [] => 0
  | x :: r => uptoBulkEntry x + uptoBulkEntries r
def uptoBulkEntry {H : Type} : Lit × DataW H → Nat
  | (.string bytes, d) => bytes.length + uptoBulk d + 1
  | (_, d) => uptoBulk d + 1
 end
def uptoSmall : (H : Type) → List (DataW H) → Bool := fun _ ds => decide (uptoBulkAll ds ≤ 1048576)
def OpenSpec.upto (s : _root_.Go.ChangeSpec) : _root_.Go.OpenSpec := { _root_.Go.OpenSpec.ofChange s with cond := some uptoSmall }

/-- 'signkeep2.ScalesFill', WHERE WHAT IT READS IS OF BULK AT MOST 1048576: true; the input reads as it did. -/
def scalesFillUptoRow : OpenClaim := { program := "ytipcgokielgnhaagreatdoor", sum := "8b5df844aa41b56aa7fa720010ecb444e2cf0265aecd889ff470fd6abfc9e00e", func := "signboard/signkeep2.ScalesFill", spec := "scalesFill", inPlace := ["internal/bytealg.abigen_runtime_cmpstring", "internal/bytealg.IndexByteString", "internal/bytealg.IndexString"], unfollowed := true, recurses := true, named := ["unicode/utf8.first", "unicode/utf8.acceptRanges", "internal/bytealg.MaxLen"], apart := false, laid := [("unicode/utf8.acceptRanges", laid_unicode_utf8_acceptRanges), ("unicode/utf8.first", laid_unicode_utf8_first)], narrowed := true }
def ScalesFillUptoSaid : Prop := scalesFillUptoRow.holds Tryz.pinned (OpenSpec.upto scalesFillSpec)

/-- 'signkeep2.RegionsSame', WHERE WHAT IT READS IS OF BULK AT MOST 1048576: true; the input reads as it did. -/
def regionsSameUptoRow : OpenClaim := { program := "ytipcgokielgnhaagreatdoor", sum := "8b5df844aa41b56aa7fa720010ecb444e2cf0265aecd889ff470fd6abfc9e00e", func := "signboard/signkeep2.RegionsSame", spec := "regionsSame", inPlace := ["internal/bytealg.abigen_runtime_cmpstring", "internal/bytealg.IndexByteString", "internal/bytealg.IndexString"], unfollowed := true, recurses := true, named := ["unicode/utf8.first", "unicode/utf8.acceptRanges", "internal/bytealg.MaxLen"], apart := false, laid := [("unicode/utf8.acceptRanges", laid_unicode_utf8_acceptRanges), ("unicode/utf8.first", laid_unicode_utf8_first)], narrowed := true }
def RegionsSameUptoSaid : Prop := regionsSameUptoRow.holds Tryz.pinned (OpenSpec.upto regionsSameSpec)

/-- 'signkeep2.PartsAndDark', WHERE WHAT IT READS IS OF BULK AT MOST 1048576: true; the input reads as it did. -/
def partsAndDarkUptoRow : OpenClaim := { program := "ytipcgokielgnhaagreatdoor", sum := "8b5df844aa41b56aa7fa720010ecb444e2cf0265aecd889ff470fd6abfc9e00e", func := "signboard/signkeep2.PartsAndDark", spec := "partsAndDark", inPlace := ["internal/bytealg.IndexByteString", "internal/bytealg.abigen_runtime_cmpstring", "internal/bytealg.IndexString"], unfollowed := true, recurses := true, named := ["unicode/utf8.first", "unicode/utf8.acceptRanges", "internal/bytealg.MaxLen"], apart := false, laid := [("unicode/utf8.acceptRanges", laid_unicode_utf8_acceptRanges), ("unicode/utf8.first", laid_unicode_utf8_first)], narrowed := true }
def PartsAndDarkUptoSaid : Prop := partsAndDarkUptoRow.holds Tryz.pinned (OpenSpec.upto partsAndDarkSpec)

/-- 'signkeep2.LayoutsAreWhole', WHERE WHAT IT READS IS OF BULK AT MOST 1048576: true; the input reads as it did. -/
def layoutsAreWholeUptoRow : OpenClaim := { program := "ytipcgokielgnhaagreatdoor", sum := "8b5df844aa41b56aa7fa720010ecb444e2cf0265aecd889ff470fd6abfc9e00e", func := "signboard/signkeep2.LayoutsAreWhole", spec := "layoutsAreWhole", inPlace := ["internal/bytealg.abigen_runtime_cmpstring", "internal/bytealg.IndexByteString", "internal/bytealg.IndexString"], unfollowed := true, recurses := true, named := ["unicode/utf8.first", "unicode/utf8.acceptRanges", "internal/bytealg.MaxLen"], apart := false, laid := [("unicode/utf8.acceptRanges", laid_unicode_utf8_acceptRanges), ("unicode/utf8.first", laid_unicode_utf8_first)], narrowed := true }
def LayoutsAreWholeUptoSaid : Prop := layoutsAreWholeUptoRow.holds Tryz.pinned (OpenSpec.upto layoutsAreWholeSpec)

/-- 'signkeep2.ViewsAreApart', WHERE WHAT IT READS IS OF BULK AT MOST 1048576: true; the input reads as it did. -/
def viewsAreApartUptoRow : OpenClaim := { program := "ytipcgokielgnhaagreatdoor", sum := "8b5df844aa41b56aa7fa720010ecb444e2cf0265aecd889ff470fd6abfc9e00e", func := "signboard/signkeep2.ViewsAreApart", spec := "viewsAreApart", inPlace := ["internal/bytealg.IndexByteString", "internal/bytealg.abigen_runtime_cmpstring", "internal/bytealg.IndexString"], unfollowed := true, recurses := true, named := ["unicode/utf8.first", "unicode/utf8.acceptRanges", "internal/bytealg.MaxLen"], apart := false, laid := [("unicode/utf8.acceptRanges", laid_unicode_utf8_acceptRanges), ("unicode/utf8.first", laid_unicode_utf8_first)], narrowed := true }
def ViewsAreApartUptoSaid : Prop := viewsAreApartUptoRow.holds Tryz.pinned (OpenSpec.upto viewsAreApartSpec)

/-- 'signkeep2.ClocksComeBack', WHERE WHAT IT READS IS OF BULK AT MOST 1048576: true; the input reads as it did. -/
def clocksComeBackUptoRow : OpenClaim := { program := "ytipcgokielgnhaagreatdoor", sum := "8b5df844aa41b56aa7fa720010ecb444e2cf0265aecd889ff470fd6abfc9e00e", func := "signboard/signkeep2.ClocksComeBack", spec := "clocksComeBack", inPlace := ["internal/bytealg.abigen_runtime_cmpstring", "internal/bytealg.IndexByteString", "internal/bytealg.IndexString"], unfollowed := true, recurses := true, named := ["unicode/utf8.first", "unicode/utf8.acceptRanges", "internal/bytealg.MaxLen"], apart := false, laid := [("unicode/utf8.acceptRanges", laid_unicode_utf8_acceptRanges), ("unicode/utf8.first", laid_unicode_utf8_first)], narrowed := true }
def ClocksComeBackUptoSaid : Prop := clocksComeBackUptoRow.holds Tryz.pinned (OpenSpec.upto clocksComeBackSpec)

/-- 'signkeep2.PacesGrow', WHERE WHAT IT READS IS OF BULK AT MOST 1048576: true; the input reads as it did. -/
def pacesGrowUptoRow : OpenClaim := { program := "ytipcgokielgnhaagreatdoor", sum := "8b5df844aa41b56aa7fa720010ecb444e2cf0265aecd889ff470fd6abfc9e00e", func := "signboard/signkeep2.PacesGrow", spec := "pacesGrow", inPlace := ["internal/bytealg.abigen_runtime_cmpstring", "internal/bytealg.IndexByteString", "internal/bytealg.IndexString"], unfollowed := true, recurses := true, named := ["unicode/utf8.first", "unicode/utf8.acceptRanges", "internal/bytealg.MaxLen"], apart := false, laid := [("unicode/utf8.acceptRanges", laid_unicode_utf8_acceptRanges), ("unicode/utf8.first", laid_unicode_utf8_first)], narrowed := true }
def PacesGrowUptoSaid : Prop := pacesGrowUptoRow.holds Tryz.pinned (OpenSpec.upto pacesGrowSpec)

end Rows
end Go.Proofs.YtipcgokielgnhaaGreatDoor
