/-
  DERIVED. GIVEN WITH THE SEED: THE CARDS: each row of YtigdobmllbakiacGreatDoorRows.lean that lists a variable, with what it lists TIED to the program's text (the seventh form; the later family's looks); each row that meets fmt, with fmt's text TOLD by the authors' own Lean function (tested against real Go, not proved from fmt's source: count such statements apart). THE CARD IS WHAT COUNTS. Prove the row's statement (the work); the ties are given (YtigdobmllbakiacGreatDoorTie.lean); close each card by the builder's one call (the guide's Derived/Test/ToyasCard.lean, 'card_holds'). Laid BY PROGRAM, IN A SANDBOX (cutbox-door.mjs). By AI agents, Wed Nov 11 2026. No macro, syntax, notation, axiom, sorry.
-/
import Derived.Test.YtigdobmllbakiacGreatDoorRows
import GoSem.ClaimSeven
namespace Go.Proofs.YtigdobmllbakiacGreatDoor
namespace Rows

/-- THE TIED CARD OF 'signlaw2.CampaignTexts'. -/
def campaignTextsCard : Claim7 := { stood := { row := campaignTextsRow, standIns := [], harness := (true, "8188d6732416b91c43745275a8fcd6623321a75a3a420d6af022fec9f5960a27"), looks := true }, kinds := [], alts := [], laidByText := true, laidKinds := [.data, .data, .data, .data, .sentinel, .sentinel, .pinned], laidTests := true, laidLooks := .later }
def CampaignTextsCardSaid : Prop := Claim7.holds Tryz.pinned (.plain (OpenSpec.ofChange campaignTextsSpec)) campaignTextsCard

/-- THE SECOND FORM's CARD OF 'signlaw2.CampaignTexts'. -/
def campaignTextsUptoCard : Claim7 := { stood := { row := campaignTextsUptoRow, standIns := [], harness := (true, "8188d6732416b91c43745275a8fcd6623321a75a3a420d6af022fec9f5960a27"), looks := true }, kinds := [], alts := [], laidByText := true, laidKinds := [.data, .data, .data, .data, .sentinel, .sentinel, .pinned], laidTests := true, laidLooks := .later }
def CampaignTextsUptoCardSaid : Prop := Claim7.holds Tryz.pinned (.plain (OpenSpec.upto campaignTextsSpec)) campaignTextsUptoCard
end Rows
end Go.Proofs.YtigdobmllbakiacGreatDoor
