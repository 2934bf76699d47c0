/-
  No cell of these rows narrows 'for every input' (looked for: loops, veiled, ifaces, maps, wideKeys, modest, calm, conditions, laid).
  DERIVED. THE GIVEN ROWS OF THIS SEAT. 8 by the template 'for every input the law returns true; each argument reads behind the call as it read before'; 0 by the template 'total and deterministic' (their statements: YtkepegnnkmmefaaTotals.lean).
  GIVEN WITH THE SEED: the statements are not yours to turn. If you find one false, say at which input.
  Laid BY PROGRAM, IN A SANDBOX (cutbox-rows.mjs): the forced cells as the released guide's own fill.sh prints them over the translation 5e7d0f45fe1774d4… (all of the seat's roots in one cut). By AI agents, Wed Nov 11 2026. No macro, syntax, notation, axiom, sorry.
-/
import Derived.Test.YtkepegnnkmmefaaChecked
import GoSem.Claim
import GoSem.ClaimJoined
import GoSem.ClaimMapViews
import Derived.JoinedTies
import Derived.KernelRfl
namespace Go.Proofs.Ytkepegnnkmmefaa
/- THE CELL 'sum', in the pinned program and in every row, IS THE sha256 OF THE DUMP (.gsa) THAT YtkepegnnkmmefaaProg.lean LOADS. Nothing in Lean hashes anything: it is a label: what it is worth is what the hold of that sum in a sandbox is worth. -/
noncomputable def Try.pinned : Pinned := { name := "ytkepegnnkmmefaa", sum := "5e7d0f45fe1774d446d4ffc1aa2691dbc00fdb565f4c9737b6bac19a1c5f12ca", checked := Try.checked }
namespace Rows
def none {H : Type} : Left H := { results := [], args := [] }

/-- 'recyclinglaw18.EmptyingChecks': WHATEVER THE INPUT: true; the input reads as it did. -/
def emptyingChecksSpec : ChangeSpec := { name := "emptyingChecks", fn := fun _ => fun
  | [d1, d2, d3] => { results := [.lit (.bool true)], args := [d1, d2, d3] }
  | _ => none }
def emptyingChecksRow : OpenClaim := { program := "ytkepegnnkmmefaa", sum := "5e7d0f45fe1774d446d4ffc1aa2691dbc00fdb565f4c9737b6bac19a1c5f12ca", func := "recycling/recyclinglaw18.EmptyingChecks", spec := "emptyingChecks", unfollowed := true, recurses := true, apart := false }
def EmptyingChecksSaid : Prop := emptyingChecksRow.holds Try.pinned (OpenSpec.ofChange emptyingChecksSpec)

/-- ITS FALSE NEIGHBOUR: 'it returns false'. Refute it at one input. -/
def emptyingChecksWrong : ChangeSpec := { name := "emptyingChecks", fn := fun _ => fun
  | [d1, d2, d3] => { results := [.lit (.bool false)], args := [d1, d2, d3] }
  | _ => none }
def EmptyingChecksWrongFalsely : Prop := emptyingChecksRow.holds Try.pinned (OpenSpec.ofChange emptyingChecksWrong)

/-- 'recyclinglaw18.EmptyingSelects': WHATEVER THE INPUT: true; the input reads as it did. -/
def emptyingSelectsSpec : ChangeSpec := { name := "emptyingSelects", fn := fun _ => fun
  | [d1, d2] => { results := [.lit (.bool true)], args := [d1, d2] }
  | _ => none }
def emptyingSelectsRow : OpenClaim := { program := "ytkepegnnkmmefaa", sum := "5e7d0f45fe1774d446d4ffc1aa2691dbc00fdb565f4c9737b6bac19a1c5f12ca", func := "recycling/recyclinglaw18.EmptyingSelects", spec := "emptyingSelects", unfollowed := true, recurses := true, apart := false }
def EmptyingSelectsSaid : Prop := emptyingSelectsRow.holds Try.pinned (OpenSpec.ofChange emptyingSelectsSpec)

/-- ITS FALSE NEIGHBOUR: 'it returns false'. Refute it at one input. -/
def emptyingSelectsWrong : ChangeSpec := { name := "emptyingSelects", fn := fun _ => fun
  | [d1, d2] => { results := [.lit (.bool false)], args := [d1, d2] }
  | _ => none }
def EmptyingSelectsWrongFalsely : Prop := emptyingSelectsRow.holds Try.pinned (OpenSpec.ofChange emptyingSelectsWrong)

/-- 'recyclinglaw18.EmptyingOwners': WHATEVER THE INPUT: true; the input reads as it did. -/
def emptyingOwnersSpec : ChangeSpec := { name := "emptyingOwners", fn := fun _ => fun
  | [d1, d2, d3] => { results := [.lit (.bool true)], args := [d1, d2, d3] }
  | _ => none }
def emptyingOwnersRow : OpenClaim := { program := "ytkepegnnkmmefaa", sum := "5e7d0f45fe1774d446d4ffc1aa2691dbc00fdb565f4c9737b6bac19a1c5f12ca", func := "recycling/recyclinglaw18.EmptyingOwners", spec := "emptyingOwners", unfollowed := true, recurses := true, apart := false }
def EmptyingOwnersSaid : Prop := emptyingOwnersRow.holds Try.pinned (OpenSpec.ofChange emptyingOwnersSpec)

/-- ITS FALSE NEIGHBOUR: 'it returns false'. Refute it at one input. -/
def emptyingOwnersWrong : ChangeSpec := { name := "emptyingOwners", fn := fun _ => fun
  | [d1, d2, d3] => { results := [.lit (.bool false)], args := [d1, d2, d3] }
  | _ => none }
def EmptyingOwnersWrongFalsely : Prop := emptyingOwnersRow.holds Try.pinned (OpenSpec.ofChange emptyingOwnersWrong)

/-- 'recyclinglaw18.EmptyingMasses': WHATEVER THE INPUT: true; the input reads as it did. -/
def emptyingMassesSpec : ChangeSpec := { name := "emptyingMasses", fn := fun _ => fun
  | [d1, d2, d3] => { results := [.lit (.bool true)], args := [d1, d2, d3] }
  | _ => none }
def emptyingMassesRow : OpenClaim := { program := "ytkepegnnkmmefaa", sum := "5e7d0f45fe1774d446d4ffc1aa2691dbc00fdb565f4c9737b6bac19a1c5f12ca", func := "recycling/recyclinglaw18.EmptyingMasses", spec := "emptyingMasses", unfollowed := true, recurses := true, apart := false }
def EmptyingMassesSaid : Prop := emptyingMassesRow.holds Try.pinned (OpenSpec.ofChange emptyingMassesSpec)

/-- ITS FALSE NEIGHBOUR: 'it returns false'. Refute it at one input. -/
def emptyingMassesWrong : ChangeSpec := { name := "emptyingMasses", fn := fun _ => fun
  | [d1, d2, d3] => { results := [.lit (.bool false)], args := [d1, d2, d3] }
  | _ => none }
def EmptyingMassesWrongFalsely : Prop := emptyingMassesRow.holds Try.pinned (OpenSpec.ofChange emptyingMassesWrong)

/-- 'recyclinglaw18.EmptyingCounts': WHATEVER THE INPUT: true; the input reads as it did. -/
def emptyingCountsSpec : ChangeSpec := { name := "emptyingCounts", fn := fun _ => fun
  | [d1, d2] => { results := [.lit (.bool true)], args := [d1, d2] }
  | _ => none }
def emptyingCountsRow : OpenClaim := { program := "ytkepegnnkmmefaa", sum := "5e7d0f45fe1774d446d4ffc1aa2691dbc00fdb565f4c9737b6bac19a1c5f12ca", func := "recycling/recyclinglaw18.EmptyingCounts", spec := "emptyingCounts", unfollowed := true, recurses := true, apart := false }
def EmptyingCountsSaid : Prop := emptyingCountsRow.holds Try.pinned (OpenSpec.ofChange emptyingCountsSpec)

/-- ITS FALSE NEIGHBOUR: 'it returns false'. Refute it at one input. -/
def emptyingCountsWrong : ChangeSpec := { name := "emptyingCounts", fn := fun _ => fun
  | [d1, d2] => { results := [.lit (.bool false)], args := [d1, d2] }
  | _ => none }
def EmptyingCountsWrongFalsely : Prop := emptyingCountsRow.holds Try.pinned (OpenSpec.ofChange emptyingCountsWrong)

/-- 'recyclinglaw18.EmptyingOrder': WHATEVER THE INPUT: true; the input reads as it did. -/
def emptyingOrderSpec : ChangeSpec := { name := "emptyingOrder", fn := fun _ => fun
  | [d1, d2, d3] => { results := [.lit (.bool true)], args := [d1, d2, d3] }
  | _ => none }
def emptyingOrderRow : OpenClaim := { program := "ytkepegnnkmmefaa", sum := "5e7d0f45fe1774d446d4ffc1aa2691dbc00fdb565f4c9737b6bac19a1c5f12ca", func := "recycling/recyclinglaw18.EmptyingOrder", spec := "emptyingOrder", unfollowed := true, recurses := true, apart := false }
def EmptyingOrderSaid : Prop := emptyingOrderRow.holds Try.pinned (OpenSpec.ofChange emptyingOrderSpec)

/-- ITS FALSE NEIGHBOUR: 'it returns false'. Refute it at one input. -/
def emptyingOrderWrong : ChangeSpec := { name := "emptyingOrder", fn := fun _ => fun
  | [d1, d2, d3] => { results := [.lit (.bool false)], args := [d1, d2, d3] }
  | _ => none }
def EmptyingOrderWrongFalsely : Prop := emptyingOrderRow.holds Try.pinned (OpenSpec.ofChange emptyingOrderWrong)

/-- 'recyclinglaw18.EmptyingWindows': WHATEVER THE INPUT: true; the input reads as it did. -/
def emptyingWindowsSpec : ChangeSpec := { name := "emptyingWindows", fn := fun _ => fun
  | [d1, d2, d3] => { results := [.lit (.bool true)], args := [d1, d2, d3] }
  | _ => none }
def emptyingWindowsRow : OpenClaim := { program := "ytkepegnnkmmefaa", sum := "5e7d0f45fe1774d446d4ffc1aa2691dbc00fdb565f4c9737b6bac19a1c5f12ca", func := "recycling/recyclinglaw18.EmptyingWindows", spec := "emptyingWindows", unfollowed := true, recurses := true, apart := false }
def EmptyingWindowsSaid : Prop := emptyingWindowsRow.holds Try.pinned (OpenSpec.ofChange emptyingWindowsSpec)

/-- ITS FALSE NEIGHBOUR: 'it returns false'. Refute it at one input. -/
def emptyingWindowsWrong : ChangeSpec := { name := "emptyingWindows", fn := fun _ => fun
  | [d1, d2, d3] => { results := [.lit (.bool false)], args := [d1, d2, d3] }
  | _ => none }
def EmptyingWindowsWrongFalsely : Prop := emptyingWindowsRow.holds Try.pinned (OpenSpec.ofChange emptyingWindowsWrong)

/-- 'recyclinglaw18.EmptyingVoids': WHATEVER THE INPUT: true; the input reads as it did. -/
def emptyingVoidsSpec : ChangeSpec := { name := "emptyingVoids", fn := fun _ => fun
  | [d1, d2, d3] => { results := [.lit (.bool true)], args := [d1, d2, d3] }
  | _ => none }
def emptyingVoidsRow : OpenClaim := { program := "ytkepegnnkmmefaa", sum := "5e7d0f45fe1774d446d4ffc1aa2691dbc00fdb565f4c9737b6bac19a1c5f12ca", func := "recycling/recyclinglaw18.EmptyingVoids", spec := "emptyingVoids", unfollowed := true, recurses := true, apart := false }
def EmptyingVoidsSaid : Prop := emptyingVoidsRow.holds Try.pinned (OpenSpec.ofChange emptyingVoidsSpec)

/-- ITS FALSE NEIGHBOUR: 'it returns false'. Refute it at one input. -/
def emptyingVoidsWrong : ChangeSpec := { name := "emptyingVoids", fn := fun _ => fun
  | [d1, d2, d3] => { results := [.lit (.bool false)], args := [d1, d2, d3] }
  | _ => none }
def EmptyingVoidsWrongFalsely : Prop := emptyingVoidsRow.holds Try.pinned (OpenSpec.ofChange emptyingVoidsWrong)

/- THE SECOND FORM. 'bulk': how many values and letters a reading holds, each counted each time it is reached (what is shared counts as often as it is met; a slice's spare places count too). A statement '..UptoSaid' is the law's where the arguments, and the package variables that the reading takes, are together of bulk at most 1048576: NARROWER than '..Said'. Prove '..Said' where nothing that the law and all that it calls make is longer than what came in: it says more and counts as full. Else prove '..UptoSaid'. A law counts once. -/
mutual
def uptoBulk {H : Type} : DataW H → Nat
  | .lit (.string bytes) => bytes.length + 1
  | .lit _ => 1
  | .nil => 1
  | .ptr d => uptoBulk d + 1
  | .slice elems spare => uptoBulkAll elems + uptoBulkAll spare + 1
  | .agg parts => uptoBulkAll parts + 1
  | .iface _ d => uptoBulk d + 1
  | .map entries => uptoBulkEntries entries + 1
  | .held _ => 1
def uptoBulkAll {H : Type} : List (DataW H) → Nat
  | [] => 0
  | d :: r => uptoBulk d + uptoBulkAll r
def uptoBulkEntries {H : Type} : List (Lit × DataW H) → Nat
  | [] => 0
  | x :: r => uptoBulkEntry x + uptoBulkEntries r
def uptoBulkEntry {H : Type} : Lit × DataW H → Nat
  | (.string bytes, d) => bytes.length + uptoBulk d + 1
  | (_, d) => uptoBulk d + 1
 end
def uptoSmall : (H : Type) → List (DataW H) → Bool := fun _ ds => decide (uptoBulkAll ds ≤ 1048576)
def OpenSpec.upto (s : _root_.Go.ChangeSpec) : _root_.Go.OpenSpec := { _root_.Go.OpenSpec.ofChange s with cond := some uptoSmall }

/-- 'recyclinglaw18.EmptyingChecks', WHERE WHAT IT READS IS OF BULK AT MOST 1048576: true; the input reads as it did. -/
def emptyingChecksUptoRow : OpenClaim := { program := "ytkepegnnkmmefaa", sum := "5e7d0f45fe1774d446d4ffc1aa2691dbc00fdb565f4c9737b6bac19a1c5f12ca", func := "recycling/recyclinglaw18.EmptyingChecks", spec := "emptyingChecks", unfollowed := true, recurses := true, apart := false, narrowed := true }
def EmptyingChecksUptoSaid : Prop := emptyingChecksUptoRow.holds Try.pinned (OpenSpec.upto emptyingChecksSpec)

/-- 'recyclinglaw18.EmptyingSelects', WHERE WHAT IT READS IS OF BULK AT MOST 1048576: true; the input reads as it did. -/
def emptyingSelectsUptoRow : OpenClaim := { program := "ytkepegnnkmmefaa", sum := "5e7d0f45fe1774d446d4ffc1aa2691dbc00fdb565f4c9737b6bac19a1c5f12ca", func := "recycling/recyclinglaw18.EmptyingSelects", spec := "emptyingSelects", unfollowed := true, recurses := true, apart := false, narrowed := true }
def EmptyingSelectsUptoSaid : Prop := emptyingSelectsUptoRow.holds Try.pinned (OpenSpec.upto emptyingSelectsSpec)

/-- 'recyclinglaw18.EmptyingOwners', WHERE WHAT IT READS IS OF BULK AT MOST 1048576: true; the input reads as it did. -/
def emptyingOwnersUptoRow : OpenClaim := { program := "ytkepegnnkmmefaa", sum := "5e7d0f45fe1774d446d4ffc1aa2691dbc00fdb565f4c9737b6bac19a1c5f12ca", func := "recycling/recyclinglaw18.EmptyingOwners", spec := "emptyingOwners", unfollowed := true, recurses := true, apart := false, narrowed := true }
def EmptyingOwnersUptoSaid : Prop := emptyingOwnersUptoRow.holds Try.pinned (OpenSpec.upto emptyingOwnersSpec)

/-- 'recyclinglaw18.EmptyingMasses', WHERE WHAT IT READS IS OF BULK AT MOST 1048576: true; the input reads as it did. -/
def emptyingMassesUptoRow : OpenClaim := { program := "ytkepegnnkmmefaa", sum := "5e7d0f45fe1774d446d4ffc1aa2691dbc00fdb565f4c9737b6bac19a1c5f12ca", func := "recycling/recyclinglaw18.EmptyingMasses", spec := "emptyingMasses", unfollowed := true, recurses := true, apart := false, narrowed := true }
def EmptyingMassesUptoSaid : Prop := emptyingMassesUptoRow.holds Try.pinned (OpenSpec.upto emptyingMassesSpec)

/-- 'recyclinglaw18.EmptyingCounts', WHERE WHAT IT READS IS OF BULK AT MOST 1048576: true; the input reads as it did. -/
def emptyingCountsUptoRow : OpenClaim := { program := "ytkepegnnkmmefaa", sum := "5e7d0f45fe1774d446d4ffc1aa2691dbc00fdb565f4c9737b6bac19a1c5f12ca", func := "recycling/recyclinglaw18.EmptyingCounts", spec := "emptyingCounts", unfollowed := true, recurses := true, apart := false, narrowed := true }
def EmptyingCountsUptoSaid : Prop := emptyingCountsUptoRow.holds Try.pinned (OpenSpec.upto emptyingCountsSpec)

/-- 'recyclinglaw18.EmptyingOrder', WHERE WHAT IT READS IS OF BULK AT MOST 1048576: true; the input reads as it did. -/
def emptyingOrderUptoRow : OpenClaim := { program := "ytkepegnnkmmefaa", sum := "5e7d0f45fe1774d446d4ffc1aa2691dbc00fdb565f4c9737b6bac19a1c5f12ca", func := "recycling/recyclinglaw18.EmptyingOrder", spec := "emptyingOrder", unfollowed := true, recurses := true, apart := false, narrowed := true }
def EmptyingOrderUptoSaid : Prop := emptyingOrderUptoRow.holds Try.pinned (OpenSpec.upto emptyingOrderSpec)

/-- 'recyclinglaw18.EmptyingWindows', WHERE WHAT IT READS IS OF BULK AT MOST 1048576: true; the input reads as it did. -/
def emptyingWindowsUptoRow : OpenClaim := { program := "ytkepegnnkmmefaa", sum := "5e7d0f45fe1774d446d4ffc1aa2691dbc00fdb565f4c9737b6bac19a1c5f12ca", func := "recycling/recyclinglaw18.EmptyingWindows", spec := "emptyingWindows", unfollowed := true, recurses := true, apart := false, narrowed := true }
def EmptyingWindowsUptoSaid : Prop := emptyingWindowsUptoRow.holds Try.pinned (OpenSpec.upto emptyingWindowsSpec)

/-- 'recyclinglaw18.EmptyingVoids', WHERE WHAT IT READS IS OF BULK AT MOST 1048576: true; the input reads as it did. -/
def emptyingVoidsUptoRow : OpenClaim := { program := "ytkepegnnkmmefaa", sum := "5e7d0f45fe1774d446d4ffc1aa2691dbc00fdb565f4c9737b6bac19a1c5f12ca", func := "recycling/recyclinglaw18.EmptyingVoids", spec := "emptyingVoids", unfollowed := true, recurses := true, apart := false, narrowed := true }
def EmptyingVoidsUptoSaid : Prop := emptyingVoidsUptoRow.holds Try.pinned (OpenSpec.upto emptyingVoidsSpec)

end Rows
end Go.Proofs.Ytkepegnnkmmefaa
