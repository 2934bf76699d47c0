/-
  DERIVED. GIVEN WITH THE SEED: THE CARDS: each row of YtahnplemladjeaaDoorRows.lean that lists a variable, with what it lists TIED to the program's text (the seventh form; the later family's looks); each row that meets fmt, with fmt's text TOLD by the authors' own Lean function (tested against real Go, not proved from fmt's source: count such statements apart). THE CARD IS WHAT COUNTS. Prove the row's statement (the work); the ties are given (YtahnplemladjeaaDoorTie.lean); close each card by the builder's one call (the guide's Derived/Test/ToyasCard.lean, 'card_holds'). Laid BY PROGRAM, IN A SANDBOX (cutbox-door.mjs). By AI agents, Wed Nov 11 2026. No macro, syntax, notation, axiom, sorry.
-/
import Derived.Test.YtahnplemladjeaaDoorRows
import GoSem.ClaimSeven
namespace Go.Proofs.YtahnplemladjeaaDoor
namespace Rows

/-- THE TIED CARD OF 'recyclinglaw59.AuditMass'. -/
def auditMassCard : Claim7 := { stood := { row := auditMassRow, standIns := [], harness := (true, "1f11e9c398c260c14d487d2609103b818c1a5fe0c2a0f7410735a4cc2a09dbae"), looks := false }, kinds := [], alts := [], laidByText := true, laidKinds := [.data, .data, .data], laidTests := true, laidLooks := .later }
def AuditMassCardSaid : Prop := Claim7.holds Tryd.pinned (.plain (OpenSpec.ofChange auditMassSpec)) auditMassCard

/-- THE TIED CARD OF 'recyclinglaw59.AuditText'. -/
def auditTextCard : Claim7 := { stood := { row := auditTextRow, standIns := [], harness := (true, "1f11e9c398c260c14d487d2609103b818c1a5fe0c2a0f7410735a4cc2a09dbae"), looks := false }, kinds := [], alts := [], laidByText := true, laidKinds := [.data, .data, .data], laidTests := true, laidLooks := .later }
def AuditTextCardSaid : Prop := Claim7.holds Tryd.pinned (.plain (OpenSpec.ofChange auditTextSpec)) auditTextCard

/-- THE TIED CARD OF 'recyclinglaw59.AuditStocks'. -/
def auditStocksCard : Claim7 := { stood := { row := auditStocksRow, standIns := [], harness := (true, "1f11e9c398c260c14d487d2609103b818c1a5fe0c2a0f7410735a4cc2a09dbae"), looks := false }, kinds := [], alts := [], laidByText := true, laidKinds := [.data, .data, .data], laidTests := true, laidLooks := .later }
def AuditStocksCardSaid : Prop := Claim7.holds Tryd.pinned (.plain (OpenSpec.ofChange auditStocksSpec)) auditStocksCard

/-- THE TIED CARD OF 'recyclinglaw59.AuditFees'. -/
def auditFeesCard : Claim7 := { stood := { row := auditFeesRow, standIns := [], harness := (true, "1f11e9c398c260c14d487d2609103b818c1a5fe0c2a0f7410735a4cc2a09dbae"), looks := false }, kinds := [], alts := [], laidByText := true, laidKinds := [.data, .data, .data], laidTests := true, laidLooks := .later }
def AuditFeesCardSaid : Prop := Claim7.holds Tryd.pinned (.plain (OpenSpec.ofChange auditFeesSpec)) auditFeesCard

/-- THE TIED CARD OF 'recyclinglaw59.AuditDeposits'. -/
def auditDepositsCard : Claim7 := { stood := { row := auditDepositsRow, standIns := [], harness := (true, "1f11e9c398c260c14d487d2609103b818c1a5fe0c2a0f7410735a4cc2a09dbae"), looks := false }, kinds := [], alts := [], laidByText := true, laidKinds := [.data, .data, .data], laidTests := true, laidLooks := .later }
def AuditDepositsCardSaid : Prop := Claim7.holds Tryd.pinned (.plain (OpenSpec.ofChange auditDepositsSpec)) auditDepositsCard

/-- THE TIED CARD OF 'recyclinglaw59.AuditMoney'. -/
def auditMoneyCard : Claim7 := { stood := { row := auditMoneyRow, standIns := [], harness := (true, "1f11e9c398c260c14d487d2609103b818c1a5fe0c2a0f7410735a4cc2a09dbae"), looks := false }, kinds := [], alts := [], laidByText := true, laidKinds := [.data, .data, .data], laidTests := true, laidLooks := .later }
def AuditMoneyCardSaid : Prop := Claim7.holds Tryd.pinned (.plain (OpenSpec.ofChange auditMoneySpec)) auditMoneyCard

/-- THE TIED CARD OF 'recyclinglaw59.AuditOnce'. -/
def auditOnceCard : Claim7 := { stood := { row := auditOnceRow, standIns := [], harness := (true, "1f11e9c398c260c14d487d2609103b818c1a5fe0c2a0f7410735a4cc2a09dbae"), looks := false }, kinds := [], alts := [], laidByText := true, laidKinds := [.data, .data, .data], laidTests := true, laidLooks := .later }
def AuditOnceCardSaid : Prop := Claim7.holds Tryd.pinned (.plain (OpenSpec.ofChange auditOnceSpec)) auditOnceCard

/-- THE TIED CARD OF 'recyclinglaw59.AuditCovers'. -/
def auditCoversCard : Claim7 := { stood := { row := auditCoversRow, standIns := [], harness := (true, "1f11e9c398c260c14d487d2609103b818c1a5fe0c2a0f7410735a4cc2a09dbae"), looks := false }, kinds := [], alts := [], laidByText := true, laidKinds := [.data, .data, .data], laidTests := true, laidLooks := .later }
def AuditCoversCardSaid : Prop := Claim7.holds Tryd.pinned (.plain (OpenSpec.ofChange auditCoversSpec)) auditCoversCard

/-- THE SECOND FORM's CARD OF 'recyclinglaw59.AuditMass'. -/
def auditMassUptoCard : Claim7 := { stood := { row := auditMassUptoRow, standIns := [], harness := (true, "1f11e9c398c260c14d487d2609103b818c1a5fe0c2a0f7410735a4cc2a09dbae"), looks := false }, kinds := [], alts := [], laidByText := true, laidKinds := [.data, .data, .data], laidTests := true, laidLooks := .later }
def AuditMassUptoCardSaid : Prop := Claim7.holds Tryd.pinned (.plain (OpenSpec.upto auditMassSpec)) auditMassUptoCard

/-- THE SECOND FORM's CARD OF 'recyclinglaw59.AuditText'. -/
def auditTextUptoCard : Claim7 := { stood := { row := auditTextUptoRow, standIns := [], harness := (true, "1f11e9c398c260c14d487d2609103b818c1a5fe0c2a0f7410735a4cc2a09dbae"), looks := false }, kinds := [], alts := [], laidByText := true, laidKinds := [.data, .data, .data], laidTests := true, laidLooks := .later }
def AuditTextUptoCardSaid : Prop := Claim7.holds Tryd.pinned (.plain (OpenSpec.upto auditTextSpec)) auditTextUptoCard

/-- THE SECOND FORM's CARD OF 'recyclinglaw59.AuditStocks'. -/
def auditStocksUptoCard : Claim7 := { stood := { row := auditStocksUptoRow, standIns := [], harness := (true, "1f11e9c398c260c14d487d2609103b818c1a5fe0c2a0f7410735a4cc2a09dbae"), looks := false }, kinds := [], alts := [], laidByText := true, laidKinds := [.data, .data, .data], laidTests := true, laidLooks := .later }
def AuditStocksUptoCardSaid : Prop := Claim7.holds Tryd.pinned (.plain (OpenSpec.upto auditStocksSpec)) auditStocksUptoCard

/-- THE SECOND FORM's CARD OF 'recyclinglaw59.AuditFees'. -/
def auditFeesUptoCard : Claim7 := { stood := { row := auditFeesUptoRow, standIns := [], harness := (true, "1f11e9c398c260c14d487d2609103b818c1a5fe0c2a0f7410735a4cc2a09dbae"), looks := false }, kinds := [], alts := [], laidByText := true, laidKinds := [.data, .data, .data], laidTests := true, laidLooks := .later }
def AuditFeesUptoCardSaid : Prop := Claim7.holds Tryd.pinned (.plain (OpenSpec.upto auditFeesSpec)) auditFeesUptoCard

/-- THE SECOND FORM's CARD OF 'recyclinglaw59.AuditDeposits'. -/
def auditDepositsUptoCard : Claim7 := { stood := { row := auditDepositsUptoRow, standIns := [], harness := (true, "1f11e9c398c260c14d487d2609103b818c1a5fe0c2a0f7410735a4cc2a09dbae"), looks := false }, kinds := [], alts := [], laidByText := true, laidKinds := [.data, .data, .data], laidTests := true, laidLooks := .later }
def AuditDepositsUptoCardSaid : Prop := Claim7.holds Tryd.pinned (.plain (OpenSpec.upto auditDepositsSpec)) auditDepositsUptoCard

/-- THE SECOND FORM's CARD OF 'recyclinglaw59.AuditMoney'. -/
def auditMoneyUptoCard : Claim7 := { stood := { row := auditMoneyUptoRow, standIns := [], harness := (true, "1f11e9c398c260c14d487d2609103b818c1a5fe0c2a0f7410735a4cc2a09dbae"), looks := false }, kinds := [], alts := [], laidByText := true, laidKinds := [.data, .data, .data], laidTests := true, laidLooks := .later }
def AuditMoneyUptoCardSaid : Prop := Claim7.holds Tryd.pinned (.plain (OpenSpec.upto auditMoneySpec)) auditMoneyUptoCard

/-- THE SECOND FORM's CARD OF 'recyclinglaw59.AuditOnce'. -/
def auditOnceUptoCard : Claim7 := { stood := { row := auditOnceUptoRow, standIns := [], harness := (true, "1f11e9c398c260c14d487d2609103b818c1a5fe0c2a0f7410735a4cc2a09dbae"), looks := false }, kinds := [], alts := [], laidByText := true, laidKinds := [.data, .data, .data], laidTests := true, laidLooks := .later }
def AuditOnceUptoCardSaid : Prop := Claim7.holds Tryd.pinned (.plain (OpenSpec.upto auditOnceSpec)) auditOnceUptoCard

/-- THE SECOND FORM's CARD OF 'recyclinglaw59.AuditCovers'. -/
def auditCoversUptoCard : Claim7 := { stood := { row := auditCoversUptoRow, standIns := [], harness := (true, "1f11e9c398c260c14d487d2609103b818c1a5fe0c2a0f7410735a4cc2a09dbae"), looks := false }, kinds := [], alts := [], laidByText := true, laidKinds := [.data, .data, .data], laidTests := true, laidLooks := .later }
def AuditCoversUptoCardSaid : Prop := Claim7.holds Tryd.pinned (.plain (OpenSpec.upto auditCoversSpec)) auditCoversUptoCard
end Rows
end Go.Proofs.YtahnplemladjeaaDoor
