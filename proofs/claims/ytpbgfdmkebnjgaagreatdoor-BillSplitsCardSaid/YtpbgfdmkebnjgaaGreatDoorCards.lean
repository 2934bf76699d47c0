/-
  DERIVED. GIVEN WITH THE SEED: THE CARDS: each row of YtpbgfdmkebnjgaaGreatDoorRows.lean that lists a variable, with what it lists TIED to the program's text (the seventh form; the later family's looks); each row that meets fmt, with fmt's text TOLD by the authors' own Lean function (tested against real Go, not proved from fmt's source: count such statements apart). THE CARD IS WHAT COUNTS. Prove the row's statement (the work); the ties are given (YtpbgfdmkebnjgaaGreatDoorTie.lean); close each card by the builder's one call (the guide's Derived/Test/ToyasCard.lean, 'card_holds'). Laid BY PROGRAM, IN A SANDBOX (cutbox-door.mjs). By AI agents, Wed Nov 11 2026. No macro, syntax, notation, axiom, sorry.
-/
import Derived.Test.YtpbgfdmkebnjgaaGreatDoorRows
import GoSem.ClaimSeven
namespace Go.Proofs.YtpbgfdmkebnjgaaGreatDoor
namespace Rows

/-- THE TIED CARD OF 'recyclinglaw54.BillChecks'. -/
def billChecksCard : Claim7 := { stood := { row := billChecksRow, standIns := [], harness := (true, "0f14496e58a9d2b266fe05ac7a410e7216e1cbb9c3cc433187ccd45df04859f4"), looks := true }, kinds := [], alts := [], laidByText := true, laidKinds := [.data, .data, .data], laidTests := true, laidLooks := .later }
def BillChecksCardSaid : Prop := Claim7.holds Tryz.pinned (.plain (OpenSpec.ofChange billChecksSpec)) billChecksCard

/-- THE TIED CARD OF 'recyclinglaw54.BillMakes'. -/
def billMakesCard : Claim7 := { stood := { row := billMakesRow, standIns := [], harness := (true, "0f14496e58a9d2b266fe05ac7a410e7216e1cbb9c3cc433187ccd45df04859f4"), looks := true }, kinds := [], alts := [], laidByText := true, laidKinds := [.data, .data, .data], laidTests := true, laidLooks := .later }
def BillMakesCardSaid : Prop := Claim7.holds Tryz.pinned (.plain (OpenSpec.ofChange billMakesSpec)) billMakesCard

/-- THE TIED CARD OF 'recyclinglaw54.BillCredits'. -/
def billCreditsCard : Claim7 := { stood := { row := billCreditsRow, standIns := [], harness := (true, "0f14496e58a9d2b266fe05ac7a410e7216e1cbb9c3cc433187ccd45df04859f4"), looks := true }, kinds := [], alts := [], laidByText := true, laidKinds := [.data, .data, .data], laidTests := true, laidLooks := .later }
def BillCreditsCardSaid : Prop := Claim7.holds Tryz.pinned (.plain (OpenSpec.ofChange billCreditsSpec)) billCreditsCard

/-- THE TIED CARD OF 'recyclinglaw54.BillRights'. -/
def billRightsCard : Claim7 := { stood := { row := billRightsRow, standIns := [], harness := (true, "0f14496e58a9d2b266fe05ac7a410e7216e1cbb9c3cc433187ccd45df04859f4"), looks := true }, kinds := [], alts := [], laidByText := true, laidKinds := [.data, .data, .data], laidTests := true, laidLooks := .later }
def BillRightsCardSaid : Prop := Claim7.holds Tryz.pinned (.plain (OpenSpec.ofChange billRightsSpec)) billRightsCard

/-- THE TIED CARD OF 'recyclinglaw54.BillExplains'. -/
def billExplainsCard : Claim7 := { stood := { row := billExplainsRow, standIns := [], harness := (true, "0f14496e58a9d2b266fe05ac7a410e7216e1cbb9c3cc433187ccd45df04859f4"), looks := true }, kinds := [], alts := [], laidByText := true, laidKinds := [.data, .data, .data], laidTests := true, laidLooks := .later }
def BillExplainsCardSaid : Prop := Claim7.holds Tryz.pinned (.plain (OpenSpec.ofChange billExplainsSpec)) billExplainsCard

/-- THE TIED CARD OF 'recyclinglaw54.BillComplete'. -/
def billCompleteCard : Claim7 := { stood := { row := billCompleteRow, standIns := [], harness := (true, "0f14496e58a9d2b266fe05ac7a410e7216e1cbb9c3cc433187ccd45df04859f4"), looks := true }, kinds := [], alts := [], laidByText := true, laidKinds := [.data, .data, .data], laidTests := true, laidLooks := .later }
def BillCompleteCardSaid : Prop := Claim7.holds Tryz.pinned (.plain (OpenSpec.ofChange billCompleteSpec)) billCompleteCard

/-- THE TIED CARD OF 'recyclinglaw54.BillSplits'. -/
def billSplitsCard : Claim7 := { stood := { row := billSplitsRow, standIns := [], harness := (true, "0f14496e58a9d2b266fe05ac7a410e7216e1cbb9c3cc433187ccd45df04859f4"), looks := true }, kinds := [], alts := [], laidByText := true, laidKinds := [.data, .data, .data], laidTests := true, laidLooks := .later }
def BillSplitsCardSaid : Prop := Claim7.holds Tryz.pinned (.plain (OpenSpec.ofChange billSplitsSpec)) billSplitsCard

/-- THE TIED CARD OF 'recyclinglaw54.BillCredited'. -/
def billCreditedCard : Claim7 := { stood := { row := billCreditedRow, standIns := [], harness := (true, "0f14496e58a9d2b266fe05ac7a410e7216e1cbb9c3cc433187ccd45df04859f4"), looks := true }, kinds := [], alts := [], laidByText := true, laidKinds := [.data, .data, .data], laidTests := true, laidLooks := .later }
def BillCreditedCardSaid : Prop := Claim7.holds Tryz.pinned (.plain (OpenSpec.ofChange billCreditedSpec)) billCreditedCard

/-- THE TIED CARD OF 'recyclinglaw54.BillWords'. -/
def billWordsCard : Claim7 := { stood := { row := billWordsRow, standIns := [], harness := (true, "0f14496e58a9d2b266fe05ac7a410e7216e1cbb9c3cc433187ccd45df04859f4"), looks := true }, kinds := [], alts := [], laidByText := true, laidKinds := [.data, .data, .data], laidTests := true, laidLooks := .later }
def BillWordsCardSaid : Prop := Claim7.holds Tryz.pinned (.plain (OpenSpec.ofChange billWordsSpec)) billWordsCard

/-- THE SECOND FORM's CARD OF 'recyclinglaw54.BillChecks'. -/
def billChecksUptoCard : Claim7 := { stood := { row := billChecksUptoRow, standIns := [], harness := (true, "0f14496e58a9d2b266fe05ac7a410e7216e1cbb9c3cc433187ccd45df04859f4"), looks := true }, kinds := [], alts := [], laidByText := true, laidKinds := [.data, .data, .data], laidTests := true, laidLooks := .later }
def BillChecksUptoCardSaid : Prop := Claim7.holds Tryz.pinned (.plain (OpenSpec.upto billChecksSpec)) billChecksUptoCard

/-- THE SECOND FORM's CARD OF 'recyclinglaw54.BillMakes'. -/
def billMakesUptoCard : Claim7 := { stood := { row := billMakesUptoRow, standIns := [], harness := (true, "0f14496e58a9d2b266fe05ac7a410e7216e1cbb9c3cc433187ccd45df04859f4"), looks := true }, kinds := [], alts := [], laidByText := true, laidKinds := [.data, .data, .data], laidTests := true, laidLooks := .later }
def BillMakesUptoCardSaid : Prop := Claim7.holds Tryz.pinned (.plain (OpenSpec.upto billMakesSpec)) billMakesUptoCard

/-- THE SECOND FORM's CARD OF 'recyclinglaw54.BillCredits'. -/
def billCreditsUptoCard : Claim7 := { stood := { row := billCreditsUptoRow, standIns := [], harness := (true, "0f14496e58a9d2b266fe05ac7a410e7216e1cbb9c3cc433187ccd45df04859f4"), looks := true }, kinds := [], alts := [], laidByText := true, laidKinds := [.data, .data, .data], laidTests := true, laidLooks := .later }
def BillCreditsUptoCardSaid : Prop := Claim7.holds Tryz.pinned (.plain (OpenSpec.upto billCreditsSpec)) billCreditsUptoCard

/-- THE SECOND FORM's CARD OF 'recyclinglaw54.BillRights'. -/
def billRightsUptoCard : Claim7 := { stood := { row := billRightsUptoRow, standIns := [], harness := (true, "0f14496e58a9d2b266fe05ac7a410e7216e1cbb9c3cc433187ccd45df04859f4"), looks := true }, kinds := [], alts := [], laidByText := true, laidKinds := [.data, .data, .data], laidTests := true, laidLooks := .later }
def BillRightsUptoCardSaid : Prop := Claim7.holds Tryz.pinned (.plain (OpenSpec.upto billRightsSpec)) billRightsUptoCard

/-- THE SECOND FORM's CARD OF 'recyclinglaw54.BillExplains'. -/
def billExplainsUptoCard : Claim7 := { stood := { row := billExplainsUptoRow, standIns := [], harness := (true, "0f14496e58a9d2b266fe05ac7a410e7216e1cbb9c3cc433187ccd45df04859f4"), looks := true }, kinds := [], alts := [], laidByText := true, laidKinds := [.data, .data, .data], laidTests := true, laidLooks := .later }
def BillExplainsUptoCardSaid : Prop := Claim7.holds Tryz.pinned (.plain (OpenSpec.upto billExplainsSpec)) billExplainsUptoCard

/-- THE SECOND FORM's CARD OF 'recyclinglaw54.BillComplete'. -/
def billCompleteUptoCard : Claim7 := { stood := { row := billCompleteUptoRow, standIns := [], harness := (true, "0f14496e58a9d2b266fe05ac7a410e7216e1cbb9c3cc433187ccd45df04859f4"), looks := true }, kinds := [], alts := [], laidByText := true, laidKinds := [.data, .data, .data], laidTests := true, laidLooks := .later }
def BillCompleteUptoCardSaid : Prop := Claim7.holds Tryz.pinned (.plain (OpenSpec.upto billCompleteSpec)) billCompleteUptoCard

/-- THE SECOND FORM's CARD OF 'recyclinglaw54.BillSplits'. -/
def billSplitsUptoCard : Claim7 := { stood := { row := billSplitsUptoRow, standIns := [], harness := (true, "0f14496e58a9d2b266fe05ac7a410e7216e1cbb9c3cc433187ccd45df04859f4"), looks := true }, kinds := [], alts := [], laidByText := true, laidKinds := [.data, .data, .data], laidTests := true, laidLooks := .later }
def BillSplitsUptoCardSaid : Prop := Claim7.holds Tryz.pinned (.plain (OpenSpec.upto billSplitsSpec)) billSplitsUptoCard

/-- THE SECOND FORM's CARD OF 'recyclinglaw54.BillCredited'. -/
def billCreditedUptoCard : Claim7 := { stood := { row := billCreditedUptoRow, standIns := [], harness := (true, "0f14496e58a9d2b266fe05ac7a410e7216e1cbb9c3cc433187ccd45df04859f4"), looks := true }, kinds := [], alts := [], laidByText := true, laidKinds := [.data, .data, .data], laidTests := true, laidLooks := .later }
def BillCreditedUptoCardSaid : Prop := Claim7.holds Tryz.pinned (.plain (OpenSpec.upto billCreditedSpec)) billCreditedUptoCard

/-- THE SECOND FORM's CARD OF 'recyclinglaw54.BillWords'. -/
def billWordsUptoCard : Claim7 := { stood := { row := billWordsUptoRow, standIns := [], harness := (true, "0f14496e58a9d2b266fe05ac7a410e7216e1cbb9c3cc433187ccd45df04859f4"), looks := true }, kinds := [], alts := [], laidByText := true, laidKinds := [.data, .data, .data], laidTests := true, laidLooks := .later }
def BillWordsUptoCardSaid : Prop := Claim7.holds Tryz.pinned (.plain (OpenSpec.upto billWordsSpec)) billWordsUptoCard
end Rows
end Go.Proofs.YtpbgfdmkebnjgaaGreatDoor
