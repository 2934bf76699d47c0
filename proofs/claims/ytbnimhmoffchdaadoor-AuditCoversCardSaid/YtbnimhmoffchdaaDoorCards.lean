/-
  DERIVED. GIVEN WITH THE SEED: THE CARDS: each row of YtbnimhmoffchdaaDoorRows.lean that lists a variable, with what it lists TIED to the program's text (the seventh form; the later family's looks); each row that meets fmt, with fmt's text TOLD by the authors' own Lean function (tested against real Go, not proved from fmt's source: count such statements apart). THE CARD IS WHAT COUNTS. Prove the row's statement (the work); the ties are given (YtbnimhmoffchdaaDoorTie.lean); close each card by the builder's one call (the guide's Derived/Test/ToyasCard.lean, 'card_holds'). Laid BY PROGRAM, IN A SANDBOX (cutbox-door.mjs). By AI agents, Wed Nov 11 2026. No macro, syntax, notation, axiom, sorry.
-/
import Derived.Test.YtbnimhmoffchdaaDoorRows
import GoSem.ClaimSeven
namespace Go.Proofs.YtbnimhmoffchdaaDoor
namespace Rows

/-- THE TIED CARD OF 'recyclinglaw59.AuditCovers'. -/
def auditCoversCard : Claim7 := { stood := { row := auditCoversRow, standIns := [], harness := (true, "fc21439b1b3e9b02332e4659801d89dd3cfed43a327a819ea843d9fa1e6ef07c"), looks := false }, kinds := [], alts := [], laidByText := true, laidKinds := [.data, .data, .data], laidTests := true, laidLooks := .later }
def AuditCoversCardSaid : Prop := Claim7.holds Tryd.pinned (.plain (OpenSpec.ofChange auditCoversSpec)) auditCoversCard

/-- THE SECOND FORM's CARD OF 'recyclinglaw59.AuditCovers'. -/
def auditCoversUptoCard : Claim7 := { stood := { row := auditCoversUptoRow, standIns := [], harness := (true, "fc21439b1b3e9b02332e4659801d89dd3cfed43a327a819ea843d9fa1e6ef07c"), looks := false }, kinds := [], alts := [], laidByText := true, laidKinds := [.data, .data, .data], laidTests := true, laidLooks := .later }
def AuditCoversUptoCardSaid : Prop := Claim7.holds Tryd.pinned (.plain (OpenSpec.upto auditCoversSpec)) auditCoversUptoCard
end Rows
end Go.Proofs.YtbnimhmoffchdaaDoor
