/-
  DERIVED. GIVEN WITH THE SEED: THE CARDS: each row of YtnfojnnfidnikaaGreatDoorRows.lean that lists a variable, with what it lists TIED to the program's text (the seventh form; the later family's looks); each row that meets fmt, with fmt's text TOLD by the authors' own Lean function (tested against real Go, not proved from fmt's source: count such statements apart). THE CARD IS WHAT COUNTS. Prove the row's statement (the work); the ties are given (YtnfojnnfidnikaaGreatDoorTie.lean); close each card by the builder's one call (the guide's Derived/Test/ToyasCard.lean, 'card_holds'). Laid BY PROGRAM, IN A SANDBOX (cutbox-door.mjs). By AI agents, Wed Nov 11 2026. No macro, syntax, notation, axiom, sorry.
-/
import Derived.Test.YtnfojnnfidnikaaGreatDoorRows
import GoSem.ClaimSeven
namespace Go.Proofs.YtnfojnnfidnikaaGreatDoor
namespace Rows

/-- THE TIED CARD OF 'signkeep2.PlaysAreApart'. -/
def playsAreApartCard : Claim7 := { stood := { row := playsAreApartRow, standIns := [], harness := (true, "5b95d5a36d66bcdbe6a08d611e2246322f55e03be90bb2498acfad0f575f37ce"), looks := false }, kinds := [], alts := [], laidByText := true, laidKinds := [.data, .data, .data, .data, .pinned], laidTests := true, laidLooks := .later }
def PlaysAreApartCardSaid : Prop := Claim7.holds Tryz.pinned (.plain (OpenSpec.ofChange playsAreApartSpec)) playsAreApartCard

/-- THE SECOND FORM's CARD OF 'signkeep2.PlaysAreApart'. -/
def playsAreApartUptoCard : Claim7 := { stood := { row := playsAreApartUptoRow, standIns := [], harness := (true, "5b95d5a36d66bcdbe6a08d611e2246322f55e03be90bb2498acfad0f575f37ce"), looks := false }, kinds := [], alts := [], laidByText := true, laidKinds := [.data, .data, .data, .data, .pinned], laidTests := true, laidLooks := .later }
def PlaysAreApartUptoCardSaid : Prop := Claim7.holds Tryz.pinned (.plain (OpenSpec.upto playsAreApartSpec)) playsAreApartUptoCard
end Rows
end Go.Proofs.YtnfojnnfidnikaaGreatDoor
