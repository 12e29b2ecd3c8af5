/-
  DERIVED. GIVEN WITH THE SEED: THE CARDS: each row of YtdenjndllgahgaaGreatDoorRows.lean that lists a variable, with what it lists TIED to the program's text (the seventh form; the later family's looks); each row that meets fmt, with fmt's text TOLD by the authors' own Lean function (tested against real Go, not proved from fmt's source: count such statements apart). THE CARD IS WHAT COUNTS. Prove the row's statement (the work); the ties are given (YtdenjndllgahgaaGreatDoorTie.lean); close each card by the builder's one call (the guide's Derived/Test/ToyasCard.lean, 'card_holds'). Laid BY PROGRAM, IN A SANDBOX (cutbox-door.mjs). By AI agents, Wed Nov 11 2026. No macro, syntax, notation, axiom, sorry.
-/
import Derived.Test.YtdenjndllgahgaaGreatDoorRows
import GoSem.ClaimSeven
namespace Go.Proofs.YtdenjndllgahgaaGreatDoor
namespace Rows

/-- THE TIED CARD OF 'signlaw2.LogsProved'. -/
def logsProvedCard : Claim7 := { stood := { row := logsProvedRow, standIns := [], harness := (true, "87c267980b824a9c5e5e29264fa3e67c011e564ce400e915f41b63c07f5020c3"), looks := true }, kinds := [], alts := [], laidByText := true, laidKinds := [.data, .data, .data, .data, .pinned], laidTests := true, laidLooks := .later }
def LogsProvedCardSaid : Prop := Claim7.holds Tryz.pinned (.plain (OpenSpec.ofChange logsProvedSpec)) logsProvedCard

/-- THE TIED CARD OF 'signlaw2.LogsMerge'. -/
def logsMergeCard : Claim7 := { stood := { row := logsMergeRow, standIns := [], harness := (true, "87c267980b824a9c5e5e29264fa3e67c011e564ce400e915f41b63c07f5020c3"), looks := true }, kinds := [], alts := [], laidByText := true, laidKinds := [.data, .data, .data, .data, .pinned], laidTests := true, laidLooks := .later }
def LogsMergeCardSaid : Prop := Claim7.holds Tryz.pinned (.plain (OpenSpec.ofChange logsMergeSpec)) logsMergeCard

/-- THE TIED CARD OF 'signlaw2.LogsChain'. -/
def logsChainCard : Claim7 := { stood := { row := logsChainRow, standIns := [], harness := (true, "87c267980b824a9c5e5e29264fa3e67c011e564ce400e915f41b63c07f5020c3"), looks := true }, kinds := [], alts := [], laidByText := true, laidKinds := [.data, .data, .data, .data, .pinned], laidTests := true, laidLooks := .later }
def LogsChainCardSaid : Prop := Claim7.holds Tryz.pinned (.plain (OpenSpec.ofChange logsChainSpec)) logsChainCard

/-- THE TIED CARD OF 'signlaw2.LogTexts'. -/
def logTextsCard : Claim7 := { stood := { row := logTextsRow, standIns := [], harness := (true, "87c267980b824a9c5e5e29264fa3e67c011e564ce400e915f41b63c07f5020c3"), looks := true }, kinds := [], alts := [], laidByText := true, laidKinds := [.data, .data, .data, .data, .sentinel, .sentinel, .pinned], laidTests := true, laidLooks := .later }
def LogTextsCardSaid : Prop := Claim7.holds Tryz.pinned (.plain (OpenSpec.ofChange logTextsSpec)) logTextsCard

/-- THE TIED CARD OF 'signlaw2.PlaysFound'. -/
def playsFoundCard : Claim7 := { stood := { row := playsFoundRow, standIns := [], harness := (true, "87c267980b824a9c5e5e29264fa3e67c011e564ce400e915f41b63c07f5020c3"), looks := true }, kinds := [], alts := [], laidByText := true, laidKinds := [.data, .data, .data, .data, .pinned], laidTests := true, laidLooks := .later }
def PlaysFoundCardSaid : Prop := Claim7.holds Tryz.pinned (.plain (OpenSpec.ofChange playsFoundSpec)) playsFoundCard

/-- THE SECOND FORM's CARD OF 'signlaw2.LogsProved'. -/
def logsProvedUptoCard : Claim7 := { stood := { row := logsProvedUptoRow, standIns := [], harness := (true, "87c267980b824a9c5e5e29264fa3e67c011e564ce400e915f41b63c07f5020c3"), looks := true }, kinds := [], alts := [], laidByText := true, laidKinds := [.data, .data, .data, .data, .pinned], laidTests := true, laidLooks := .later }
def LogsProvedUptoCardSaid : Prop := Claim7.holds Tryz.pinned (.plain (OpenSpec.upto logsProvedSpec)) logsProvedUptoCard

/-- THE SECOND FORM's CARD OF 'signlaw2.LogsMerge'. -/
def logsMergeUptoCard : Claim7 := { stood := { row := logsMergeUptoRow, standIns := [], harness := (true, "87c267980b824a9c5e5e29264fa3e67c011e564ce400e915f41b63c07f5020c3"), looks := true }, kinds := [], alts := [], laidByText := true, laidKinds := [.data, .data, .data, .data, .pinned], laidTests := true, laidLooks := .later }
def LogsMergeUptoCardSaid : Prop := Claim7.holds Tryz.pinned (.plain (OpenSpec.upto logsMergeSpec)) logsMergeUptoCard

/-- THE SECOND FORM's CARD OF 'signlaw2.LogsChain'. -/
def logsChainUptoCard : Claim7 := { stood := { row := logsChainUptoRow, standIns := [], harness := (true, "87c267980b824a9c5e5e29264fa3e67c011e564ce400e915f41b63c07f5020c3"), looks := true }, kinds := [], alts := [], laidByText := true, laidKinds := [.data, .data, .data, .data, .pinned], laidTests := true, laidLooks := .later }
def LogsChainUptoCardSaid : Prop := Claim7.holds Tryz.pinned (.plain (OpenSpec.upto logsChainSpec)) logsChainUptoCard

/-- THE SECOND FORM's CARD OF 'signlaw2.LogTexts'. -/
def logTextsUptoCard : Claim7 := { stood := { row := logTextsUptoRow, standIns := [], harness := (true, "87c267980b824a9c5e5e29264fa3e67c011e564ce400e915f41b63c07f5020c3"), looks := true }, kinds := [], alts := [], laidByText := true, laidKinds := [.data, .data, .data, .data, .sentinel, .sentinel, .pinned], laidTests := true, laidLooks := .later }
def LogTextsUptoCardSaid : Prop := Claim7.holds Tryz.pinned (.plain (OpenSpec.upto logTextsSpec)) logTextsUptoCard

/-- THE SECOND FORM's CARD OF 'signlaw2.PlaysFound'. -/
def playsFoundUptoCard : Claim7 := { stood := { row := playsFoundUptoRow, standIns := [], harness := (true, "87c267980b824a9c5e5e29264fa3e67c011e564ce400e915f41b63c07f5020c3"), looks := true }, kinds := [], alts := [], laidByText := true, laidKinds := [.data, .data, .data, .data, .pinned], laidTests := true, laidLooks := .later }
def PlaysFoundUptoCardSaid : Prop := Claim7.holds Tryz.pinned (.plain (OpenSpec.upto playsFoundSpec)) playsFoundUptoCard
end Rows
end Go.Proofs.YtdenjndllgahgaaGreatDoor
