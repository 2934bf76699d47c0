/-
  No cell of these rows narrows 'for every input' (looked for: loops, veiled, ifaces, maps, wideKeys, modest, calm, conditions, laid).
  DERIVED. THE GIVEN ROWS OF THIS SEAT. 8 by the template 'for every input the law returns true; each argument reads behind the call as it read before'; 0 by the template 'total and deterministic' (their statements: YtimmifkdocjljaaTotals.lean).
  GIVEN WITH THE SEED: the statements are not yours to turn. If you find one false, say at which input.
  Laid BY PROGRAM, IN A SANDBOX (cutbox-rows.mjs): the forced cells as the released guide's own fill.sh prints them over the translation dd5f3b06119396bb… (all of the seat's roots in one cut). By AI agents, Wed Nov 11 2026. No macro, syntax, notation, axiom, sorry.
-/
import Derived.Test.YtimmifkdocjljaaChecked
import GoSem.Claim
import GoSem.ClaimJoined
import GoSem.ClaimMapViews
import Derived.JoinedTies
import Derived.KernelRfl
namespace Go.Proofs.Ytimmifkdocjljaa
/- THE CELL 'sum', in the pinned program and in every row, IS THE sha256 OF THE DUMP (.gsa) THAT YtimmifkdocjljaaProg.lean LOADS. Nothing in Lean hashes anything: it is a label: what it is worth is what the hold of that sum in a sandbox is worth. -/
noncomputable def Try.pinned : Pinned := { name := "ytimmifkdocjljaa", sum := "dd5f3b06119396bba82ef4f63eb3ab9e0e17f4f581ebc40e21e87e1885e0bf52", checked := Try.checked }
namespace Rows
def none {H : Type} : Left H := { results := [], args := [] }

/-- 'recyclinglaw51.AuctionChecks': WHATEVER THE INPUT: true; the input reads as it did. -/
def auctionChecksSpec : ChangeSpec := { name := "auctionChecks", fn := fun _ => fun
  | [d] => { results := [.lit (.bool true)], args := [d] }
  | _ => none }
def auctionChecksRow : OpenClaim := { program := "ytimmifkdocjljaa", sum := "dd5f3b06119396bba82ef4f63eb3ab9e0e17f4f581ebc40e21e87e1885e0bf52", func := "recycling/recyclinglaw51.AuctionChecks", spec := "auctionChecks", unfollowed := true, recurses := true, apart := false }
def AuctionChecksSaid : Prop := auctionChecksRow.holds Try.pinned (OpenSpec.ofChange auctionChecksSpec)

/-- ITS FALSE NEIGHBOUR: 'it returns false'. Refute it at one input. -/
def auctionChecksWrong : ChangeSpec := { name := "auctionChecks", fn := fun _ => fun
  | [d] => { results := [.lit (.bool false)], args := [d] }
  | _ => none }
def AuctionChecksWrongFalsely : Prop := auctionChecksRow.holds Try.pinned (OpenSpec.ofChange auctionChecksWrong)

/-- 'recyclinglaw51.AuctionRuns': WHATEVER THE INPUT: true; the input reads as it did. -/
def auctionRunsSpec : ChangeSpec := { name := "auctionRuns", fn := fun _ => fun
  | [d1, d2, d3] => { results := [.lit (.bool true)], args := [d1, d2, d3] }
  | _ => none }
def auctionRunsRow : OpenClaim := { program := "ytimmifkdocjljaa", sum := "dd5f3b06119396bba82ef4f63eb3ab9e0e17f4f581ebc40e21e87e1885e0bf52", func := "recycling/recyclinglaw51.AuctionRuns", spec := "auctionRuns", unfollowed := true, recurses := true, apart := false }
def AuctionRunsSaid : Prop := auctionRunsRow.holds Try.pinned (OpenSpec.ofChange auctionRunsSpec)

/-- ITS FALSE NEIGHBOUR: 'it returns false'. Refute it at one input. -/
def auctionRunsWrong : ChangeSpec := { name := "auctionRuns", fn := fun _ => fun
  | [d1, d2, d3] => { results := [.lit (.bool false)], args := [d1, d2, d3] }
  | _ => none }
def AuctionRunsWrongFalsely : Prop := auctionRunsRow.holds Try.pinned (OpenSpec.ofChange auctionRunsWrong)

/-- 'recyclinglaw51.AuctionAccounts': WHATEVER THE INPUT: true; the input reads as it did. -/
def auctionAccountsSpec : ChangeSpec := { name := "auctionAccounts", fn := fun _ => fun
  | [d1, d2, d3] => { results := [.lit (.bool true)], args := [d1, d2, d3] }
  | _ => none }
def auctionAccountsRow : OpenClaim := { program := "ytimmifkdocjljaa", sum := "dd5f3b06119396bba82ef4f63eb3ab9e0e17f4f581ebc40e21e87e1885e0bf52", func := "recycling/recyclinglaw51.AuctionAccounts", spec := "auctionAccounts", unfollowed := true, recurses := true, apart := false }
def AuctionAccountsSaid : Prop := auctionAccountsRow.holds Try.pinned (OpenSpec.ofChange auctionAccountsSpec)

/-- ITS FALSE NEIGHBOUR: 'it returns false'. Refute it at one input. -/
def auctionAccountsWrong : ChangeSpec := { name := "auctionAccounts", fn := fun _ => fun
  | [d1, d2, d3] => { results := [.lit (.bool false)], args := [d1, d2, d3] }
  | _ => none }
def AuctionAccountsWrongFalsely : Prop := auctionAccountsRow.holds Try.pinned (OpenSpec.ofChange auctionAccountsWrong)

/-- 'recyclinglaw51.AuctionHolds': WHATEVER THE INPUT: true; the input reads as it did. -/
def auctionHoldsSpec : ChangeSpec := { name := "auctionHolds", fn := fun _ => fun
  | [d1, d2] => { results := [.lit (.bool true)], args := [d1, d2] }
  | _ => none }
def auctionHoldsRow : OpenClaim := { program := "ytimmifkdocjljaa", sum := "dd5f3b06119396bba82ef4f63eb3ab9e0e17f4f581ebc40e21e87e1885e0bf52", func := "recycling/recyclinglaw51.AuctionHolds", spec := "auctionHolds", unfollowed := true, recurses := true, apart := false }
def AuctionHoldsSaid : Prop := auctionHoldsRow.holds Try.pinned (OpenSpec.ofChange auctionHoldsSpec)

/-- ITS FALSE NEIGHBOUR: 'it returns false'. Refute it at one input. -/
def auctionHoldsWrong : ChangeSpec := { name := "auctionHolds", fn := fun _ => fun
  | [d1, d2] => { results := [.lit (.bool false)], args := [d1, d2] }
  | _ => none }
def AuctionHoldsWrongFalsely : Prop := auctionHoldsRow.holds Try.pinned (OpenSpec.ofChange auctionHoldsWrong)

/-- 'recyclinglaw51.AuctionTruthful': WHATEVER THE INPUT: true; the input reads as it did. -/
def auctionTruthfulSpec : ChangeSpec := { name := "auctionTruthful", fn := fun _ => fun
  | [d1, d2, d3] => { results := [.lit (.bool true)], args := [d1, d2, d3] }
  | _ => none }
def auctionTruthfulRow : OpenClaim := { program := "ytimmifkdocjljaa", sum := "dd5f3b06119396bba82ef4f63eb3ab9e0e17f4f581ebc40e21e87e1885e0bf52", func := "recycling/recyclinglaw51.AuctionTruthful", spec := "auctionTruthful", unfollowed := true, recurses := true, apart := false }
def AuctionTruthfulSaid : Prop := auctionTruthfulRow.holds Try.pinned (OpenSpec.ofChange auctionTruthfulSpec)

/-- ITS FALSE NEIGHBOUR: 'it returns false'. Refute it at one input. -/
def auctionTruthfulWrong : ChangeSpec := { name := "auctionTruthful", fn := fun _ => fun
  | [d1, d2, d3] => { results := [.lit (.bool false)], args := [d1, d2, d3] }
  | _ => none }
def AuctionTruthfulWrongFalsely : Prop := auctionTruthfulRow.holds Try.pinned (OpenSpec.ofChange auctionTruthfulWrong)

/-- 'recyclinglaw51.AuctionServes': WHATEVER THE INPUT: true; the input reads as it did. -/
def auctionServesSpec : ChangeSpec := { name := "auctionServes", fn := fun _ => fun
  | [d1, d2, d3] => { results := [.lit (.bool true)], args := [d1, d2, d3] }
  | _ => none }
def auctionServesRow : OpenClaim := { program := "ytimmifkdocjljaa", sum := "dd5f3b06119396bba82ef4f63eb3ab9e0e17f4f581ebc40e21e87e1885e0bf52", func := "recycling/recyclinglaw51.AuctionServes", spec := "auctionServes", unfollowed := true, recurses := true, apart := false }
def AuctionServesSaid : Prop := auctionServesRow.holds Try.pinned (OpenSpec.ofChange auctionServesSpec)

/-- ITS FALSE NEIGHBOUR: 'it returns false'. Refute it at one input. -/
def auctionServesWrong : ChangeSpec := { name := "auctionServes", fn := fun _ => fun
  | [d1, d2, d3] => { results := [.lit (.bool false)], args := [d1, d2, d3] }
  | _ => none }
def AuctionServesWrongFalsely : Prop := auctionServesRow.holds Try.pinned (OpenSpec.ofChange auctionServesWrong)

/-- 'recyclinglaw51.AuctionRaises': WHATEVER THE INPUT: true; the input reads as it did. -/
def auctionRaisesSpec : ChangeSpec := { name := "auctionRaises", fn := fun _ => fun
  | [d1, d2, d3] => { results := [.lit (.bool true)], args := [d1, d2, d3] }
  | _ => none }
def auctionRaisesRow : OpenClaim := { program := "ytimmifkdocjljaa", sum := "dd5f3b06119396bba82ef4f63eb3ab9e0e17f4f581ebc40e21e87e1885e0bf52", func := "recycling/recyclinglaw51.AuctionRaises", spec := "auctionRaises", unfollowed := true, recurses := true, apart := false }
def AuctionRaisesSaid : Prop := auctionRaisesRow.holds Try.pinned (OpenSpec.ofChange auctionRaisesSpec)

/-- ITS FALSE NEIGHBOUR: 'it returns false'. Refute it at one input. -/
def auctionRaisesWrong : ChangeSpec := { name := "auctionRaises", fn := fun _ => fun
  | [d1, d2, d3] => { results := [.lit (.bool false)], args := [d1, d2, d3] }
  | _ => none }
def AuctionRaisesWrongFalsely : Prop := auctionRaisesRow.holds Try.pinned (OpenSpec.ofChange auctionRaisesWrong)

/-- 'recyclinglaw51.AuctionGrows': WHATEVER THE INPUT: true; the input reads as it did. -/
def auctionGrowsSpec : ChangeSpec := { name := "auctionGrows", fn := fun _ => fun
  | [d1, d2] => { results := [.lit (.bool true)], args := [d1, d2] }
  | _ => none }
def auctionGrowsRow : OpenClaim := { program := "ytimmifkdocjljaa", sum := "dd5f3b06119396bba82ef4f63eb3ab9e0e17f4f581ebc40e21e87e1885e0bf52", func := "recycling/recyclinglaw51.AuctionGrows", spec := "auctionGrows", unfollowed := true, recurses := true, apart := false }
def AuctionGrowsSaid : Prop := auctionGrowsRow.holds Try.pinned (OpenSpec.ofChange auctionGrowsSpec)

/-- ITS FALSE NEIGHBOUR: 'it returns false'. Refute it at one input. -/
def auctionGrowsWrong : ChangeSpec := { name := "auctionGrows", fn := fun _ => fun
  | [d1, d2] => { results := [.lit (.bool false)], args := [d1, d2] }
  | _ => none }
def AuctionGrowsWrongFalsely : Prop := auctionGrowsRow.holds Try.pinned (OpenSpec.ofChange auctionGrowsWrong)

/- THE SECOND FORM. 'bulk': how many values and letters a reading holds, each counted each time it is reached (what is shared counts as often as it is met; a slice's spare places count too). A statement '..UptoSaid' is the law's where the arguments, and the package variables that the reading takes, are together of bulk at most 1048576: NARROWER than '..Said'. Prove '..Said' where nothing that the law and all that it calls make is longer than what came in: it says more and counts as full. Else prove '..UptoSaid'. A law counts once. -/
mutual
def uptoBulk {H : Type} : DataW H → Nat
  | .lit (.string bytes) => bytes.length + 1
  | .lit _ => 1
  | .nil => 1
  | .ptr d => uptoBulk d + 1
  | .slice elems spare => uptoBulkAll elems + uptoBulkAll spare + 1
  | .agg parts => uptoBulkAll parts + 1
  | .iface _ d => uptoBulk d + 1
  | .map entries => uptoBulkEntries entries + 1
  | .held _ => 1
def uptoBulkAll {H : Type} : List (DataW H) → Nat
  | [] => 0
  | d :: r => uptoBulk d + uptoBulkAll r
def uptoBulkEntries {H : Type} : List (Lit × DataW H) → Nat
  | [] => 0
  | x :: r => uptoBulkEntry x + uptoBulkEntries r
def uptoBulkEntry {H : Type} : Lit × DataW H → Nat
  | (.string bytes, d) => bytes.length + uptoBulk d + 1
  | (_, d) => uptoBulk d + 1
 end
def uptoSmall : (H : Type) → List (DataW H) → Bool := fun _ ds => decide (uptoBulkAll ds ≤ 1048576)
def OpenSpec.upto (s : _root_.Go.ChangeSpec) : _root_.Go.OpenSpec := { _root_.Go.OpenSpec.ofChange s with cond := some uptoSmall }

/-- 'recyclinglaw51.AuctionChecks', WHERE WHAT IT READS IS OF BULK AT MOST 1048576: true; the input reads as it did. -/
def auctionChecksUptoRow : OpenClaim := { program := "ytimmifkdocjljaa", sum := "dd5f3b06119396bba82ef4f63eb3ab9e0e17f4f581ebc40e21e87e1885e0bf52", func := "recycling/recyclinglaw51.AuctionChecks", spec := "auctionChecks", unfollowed := true, recurses := true, apart := false, narrowed := true }
def AuctionChecksUptoSaid : Prop := auctionChecksUptoRow.holds Try.pinned (OpenSpec.upto auctionChecksSpec)

/-- 'recyclinglaw51.AuctionRuns', WHERE WHAT IT READS IS OF BULK AT MOST 1048576: true; the input reads as it did. -/
def auctionRunsUptoRow : OpenClaim := { program := "ytimmifkdocjljaa", sum := "dd5f3b06119396bba82ef4f63eb3ab9e0e17f4f581ebc40e21e87e1885e0bf52", func := "recycling/recyclinglaw51.AuctionRuns", spec := "auctionRuns", unfollowed := true, recurses := true, apart := false, narrowed := true }
def AuctionRunsUptoSaid : Prop := auctionRunsUptoRow.holds Try.pinned (OpenSpec.upto auctionRunsSpec)

/-- 'recyclinglaw51.AuctionAccounts', WHERE WHAT IT READS IS OF BULK AT MOST 1048576: true; the input reads as it did. -/
def auctionAccountsUptoRow : OpenClaim := { program := "ytimmifkdocjljaa", sum := "dd5f3b06119396bba82ef4f63eb3ab9e0e17f4f581ebc40e21e87e1885e0bf52", func := "recycling/recyclinglaw51.AuctionAccounts", spec := "auctionAccounts", unfollowed := true, recurses := true, apart := false, narrowed := true }
def AuctionAccountsUptoSaid : Prop := auctionAccountsUptoRow.holds Try.pinned (OpenSpec.upto auctionAccountsSpec)

/-- 'recyclinglaw51.AuctionHolds', WHERE WHAT IT READS IS OF BULK AT MOST 1048576: true; the input reads as it did. -/
def auctionHoldsUptoRow : OpenClaim := { program := "ytimmifkdocjljaa", sum := "dd5f3b06119396bba82ef4f63eb3ab9e0e17f4f581ebc40e21e87e1885e0bf52", func := "recycling/recyclinglaw51.AuctionHolds", spec := "auctionHolds", unfollowed := true, recurses := true, apart := false, narrowed := true }
def AuctionHoldsUptoSaid : Prop := auctionHoldsUptoRow.holds Try.pinned (OpenSpec.upto auctionHoldsSpec)

/-- 'recyclinglaw51.AuctionTruthful', WHERE WHAT IT READS IS OF BULK AT MOST 1048576: true; the input reads as it did. -/
def auctionTruthfulUptoRow : OpenClaim := { program := "ytimmifkdocjljaa", sum := "dd5f3b06119396bba82ef4f63eb3ab9e0e17f4f581ebc40e21e87e1885e0bf52", func := "recycling/recyclinglaw51.AuctionTruthful", spec := "auctionTruthful", unfollowed := true, recurses := true, apart := false, narrowed := true }
def AuctionTruthfulUptoSaid : Prop := auctionTruthfulUptoRow.holds Try.pinned (OpenSpec.upto auctionTruthfulSpec)

/-- 'recyclinglaw51.AuctionServes', WHERE WHAT IT READS IS OF BULK AT MOST 1048576: true; the input reads as it did. -/
def auctionServesUptoRow : OpenClaim := { program := "ytimmifkdocjljaa", sum := "dd5f3b06119396bba82ef4f63eb3ab9e0e17f4f581ebc40e21e87e1885e0bf52", func := "recycling/recyclinglaw51.AuctionServes", spec := "auctionServes", unfollowed := true, recurses := true, apart := false, narrowed := true }
def AuctionServesUptoSaid : Prop := auctionServesUptoRow.holds Try.pinned (OpenSpec.upto auctionServesSpec)

/-- 'recyclinglaw51.AuctionRaises', WHERE WHAT IT READS IS OF BULK AT MOST 1048576: true; the input reads as it did. -/
def auctionRaisesUptoRow : OpenClaim := { program := "ytimmifkdocjljaa", sum := "dd5f3b06119396bba82ef4f63eb3ab9e0e17f4f581ebc40e21e87e1885e0bf52", func := "recycling/recyclinglaw51.AuctionRaises", spec := "auctionRaises", unfollowed := true, recurses := true, apart := false, narrowed := true }
def AuctionRaisesUptoSaid : Prop := auctionRaisesUptoRow.holds Try.pinned (OpenSpec.upto auctionRaisesSpec)

/-- 'recyclinglaw51.AuctionGrows', WHERE WHAT IT READS IS OF BULK AT MOST 1048576: true; the input reads as it did. -/
def auctionGrowsUptoRow : OpenClaim := { program := "ytimmifkdocjljaa", sum := "dd5f3b06119396bba82ef4f63eb3ab9e0e17f4f581ebc40e21e87e1885e0bf52", func := "recycling/recyclinglaw51.AuctionGrows", spec := "auctionGrows", unfollowed := true, recurses := true, apart := false, narrowed := true }
def AuctionGrowsUptoSaid : Prop := auctionGrowsUptoRow.holds Try.pinned (OpenSpec.upto auctionGrowsSpec)

end Rows
end Go.Proofs.Ytimmifkdocjljaa
