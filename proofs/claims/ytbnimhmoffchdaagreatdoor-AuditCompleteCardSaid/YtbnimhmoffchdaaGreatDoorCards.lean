/-
  DERIVED. GIVEN WITH THE SEED: THE CARDS: each row of YtbnimhmoffchdaaGreatDoorRows.lean that lists a variable, with what it lists TIED to the program's text (the seventh form; the later family's looks); each row that meets fmt, with fmt's text TOLD by the authors' own Lean function (tested against real Go, not proved from fmt's source: count such statements apart). THE CARD IS WHAT COUNTS. Prove the row's statement (the work); the ties are given (YtbnimhmoffchdaaGreatDoorTie.lean); close each card by the builder's one call (the guide's Derived/Test/ToyasCard.lean, 'card_holds'). Laid BY PROGRAM, IN A SANDBOX (cutbox-door.mjs). By AI agents, Wed Nov 11 2026. No macro, syntax, notation, axiom, sorry.
-/
import Derived.Test.YtbnimhmoffchdaaGreatDoorRows
import GoSem.ClaimSeven
namespace Go.Proofs.YtbnimhmoffchdaaGreatDoor
namespace Rows

/-- THE TIED CARD OF 'recyclinglaw59.AuditBills'. -/
def auditBillsCard : Claim7 := { stood := { row := auditBillsRow, standIns := [], harness := (true, "174ea975353c397d34a3701fa94038392469317a01a3cb83837ad23ef0ee71e5"), looks := false }, kinds := [], alts := [], laidByText := true, laidKinds := [.data, .data, .data], laidTests := true, laidLooks := .later }
def AuditBillsCardSaid : Prop := Claim7.holds Tryz.pinned (.plain (OpenSpec.ofChange auditBillsSpec)) auditBillsCard

/-- THE TIED CARD OF 'recyclinglaw59.AuditMade'. -/
def auditMadeCard : Claim7 := { stood := { row := auditMadeRow, standIns := [], harness := (true, "174ea975353c397d34a3701fa94038392469317a01a3cb83837ad23ef0ee71e5"), looks := false }, kinds := [], alts := [], laidByText := true, laidKinds := [.data, .data, .data], laidTests := true, laidLooks := .later }
def AuditMadeCardSaid : Prop := Claim7.holds Tryz.pinned (.plain (OpenSpec.ofChange auditMadeSpec)) auditMadeCard

/-- THE TIED CARD OF 'recyclinglaw59.AuditComplete'. -/
def auditCompleteCard : Claim7 := { stood := { row := auditCompleteRow, standIns := [], harness := (true, "174ea975353c397d34a3701fa94038392469317a01a3cb83837ad23ef0ee71e5"), looks := false }, kinds := [], alts := [], laidByText := true, laidKinds := [.data, .data, .data], laidTests := true, laidLooks := .later }
def AuditCompleteCardSaid : Prop := Claim7.holds Tryz.pinned (.plain (OpenSpec.ofChange auditCompleteSpec)) auditCompleteCard

/-- THE SECOND FORM's CARD OF 'recyclinglaw59.AuditBills'. -/
def auditBillsUptoCard : Claim7 := { stood := { row := auditBillsUptoRow, standIns := [], harness := (true, "174ea975353c397d34a3701fa94038392469317a01a3cb83837ad23ef0ee71e5"), looks := false }, kinds := [], alts := [], laidByText := true, laidKinds := [.data, .data, .data], laidTests := true, laidLooks := .later }
def AuditBillsUptoCardSaid : Prop := Claim7.holds Tryz.pinned (.plain (OpenSpec.upto auditBillsSpec)) auditBillsUptoCard

/-- THE SECOND FORM's CARD OF 'recyclinglaw59.AuditMade'. -/
def auditMadeUptoCard : Claim7 := { stood := { row := auditMadeUptoRow, standIns := [], harness := (true, "174ea975353c397d34a3701fa94038392469317a01a3cb83837ad23ef0ee71e5"), looks := false }, kinds := [], alts := [], laidByText := true, laidKinds := [.data, .data, .data], laidTests := true, laidLooks := .later }
def AuditMadeUptoCardSaid : Prop := Claim7.holds Tryz.pinned (.plain (OpenSpec.upto auditMadeSpec)) auditMadeUptoCard

/-- THE SECOND FORM's CARD OF 'recyclinglaw59.AuditComplete'. -/
def auditCompleteUptoCard : Claim7 := { stood := { row := auditCompleteUptoRow, standIns := [], harness := (true, "174ea975353c397d34a3701fa94038392469317a01a3cb83837ad23ef0ee71e5"), looks := false }, kinds := [], alts := [], laidByText := true, laidKinds := [.data, .data, .data], laidTests := true, laidLooks := .later }
def AuditCompleteUptoCardSaid : Prop := Claim7.holds Tryz.pinned (.plain (OpenSpec.upto auditCompleteSpec)) auditCompleteUptoCard
end Rows
end Go.Proofs.YtbnimhmoffchdaaGreatDoor
