/-
  DERIVED. GIVEN WITH THE SEED: THE CARDS: each row of YtjmpbmnakfipdaaDoorRows.lean that lists a variable, with what it lists TIED to the program's text (the seventh form; the later family's looks); each row that meets fmt, with fmt's text TOLD by the authors' own Lean function (tested against real Go, not proved from fmt's source: count such statements apart). THE CARD IS WHAT COUNTS. Prove the row's statement (the work); the ties are given (YtjmpbmnakfipdaaDoorTie.lean); close each card by the builder's one call (the guide's Derived/Test/ToyasCard.lean, 'card_holds'). Laid BY PROGRAM, IN A SANDBOX (cutbox-door.mjs). By AI agents, Wed Nov 11 2026. No macro, syntax, notation, axiom, sorry.
-/
import Derived.Test.YtjmpbmnakfipdaaDoorRows
import GoSem.ClaimSeven
namespace Go.Proofs.YtjmpbmnakfipdaaDoor
namespace Rows

/-- THE TIED CARD OF 'signlaw2.CampaignsPaced'. -/
def campaignsPacedCard : Claim7 := { stood := { row := campaignsPacedRow, standIns := [], harness := (true, "b67cb4b5a1da65bfe5b009f673b17cb988719b9accb26ce7271dffe740b0d91c"), looks := false }, kinds := [], alts := [], laidByText := true, laidKinds := [.data, .data, .data], laidTests := true, laidLooks := .later }
def CampaignsPacedCardSaid : Prop := Claim7.holds Tryd.pinned (.plain (OpenSpec.ofChange campaignsPacedSpec)) campaignsPacedCard

/-- THE SECOND FORM's CARD OF 'signlaw2.CampaignsPaced'. -/
def campaignsPacedUptoCard : Claim7 := { stood := { row := campaignsPacedUptoRow, standIns := [], harness := (true, "b67cb4b5a1da65bfe5b009f673b17cb988719b9accb26ce7271dffe740b0d91c"), looks := false }, kinds := [], alts := [], laidByText := true, laidKinds := [.data, .data, .data], laidTests := true, laidLooks := .later }
def CampaignsPacedUptoCardSaid : Prop := Claim7.holds Tryd.pinned (.plain (OpenSpec.upto campaignsPacedSpec)) campaignsPacedUptoCard
end Rows
end Go.Proofs.YtjmpbmnakfipdaaDoor
