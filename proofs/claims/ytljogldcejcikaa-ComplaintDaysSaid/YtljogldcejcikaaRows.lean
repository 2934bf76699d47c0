/-
  No cell of these rows narrows 'for every input' (looked for: loops, veiled, ifaces, maps, wideKeys, modest, calm, conditions, laid).
  DERIVED. THE GIVEN ROWS OF THIS SEAT. 6 by the template 'for every input the law returns true; each argument reads behind the call as it read before'; 0 by the template 'total and deterministic' (their statements: YtljogldcejcikaaTotals.lean).
  GIVEN WITH THE SEED: the statements are not yours to turn. If you find one false, say at which input.
  Laid BY PROGRAM, IN A SANDBOX (cutbox-rows.mjs): the forced cells as the released guide's own fill.sh prints them over the translation 99acb9fa972eb618… (all of the seat's roots in one cut). By AI agents, Wed Nov 11 2026. No macro, syntax, notation, axiom, sorry.
-/
import Derived.Test.YtljogldcejcikaaChecked
import GoSem.Claim
import GoSem.ClaimJoined
import GoSem.ClaimMapViews
import Derived.JoinedTies
import Derived.KernelRfl
namespace Go.Proofs.Ytljogldcejcikaa
/- THE CELL 'sum', in the pinned program and in every row, IS THE sha256 OF THE DUMP (.gsa) THAT YtljogldcejcikaaProg.lean LOADS. Nothing in Lean hashes anything: it is a label: what it is worth is what the hold of that sum in a sandbox is worth. -/
noncomputable def Try.pinned : Pinned := { name := "ytljogldcejcikaa", sum := "99acb9fa972eb6184038135347e20783e087569e2c4cac79cf21fc3a05be6fe8", checked := Try.checked }
namespace Rows
def none {H : Type} : Left H := { results := [], args := [] }

/-- 'recyclinglaw57.ComplaintChecks': WHATEVER THE INPUT: true; the input reads as it did. -/
def complaintChecksSpec : ChangeSpec := { name := "complaintChecks", fn := fun _ => fun
  | [d] => { results := [.lit (.bool true)], args := [d] }
  | _ => none }
def complaintChecksRow : OpenClaim := { program := "ytljogldcejcikaa", sum := "99acb9fa972eb6184038135347e20783e087569e2c4cac79cf21fc3a05be6fe8", func := "recycling/recyclinglaw57.ComplaintChecks", spec := "complaintChecks", unfollowed := true, recurses := true, apart := false }
def ComplaintChecksSaid : Prop := complaintChecksRow.holds Try.pinned (OpenSpec.ofChange complaintChecksSpec)

/-- ITS FALSE NEIGHBOUR: 'it returns false'. Refute it at one input. -/
def complaintChecksWrong : ChangeSpec := { name := "complaintChecks", fn := fun _ => fun
  | [d] => { results := [.lit (.bool false)], args := [d] }
  | _ => none }
def ComplaintChecksWrongFalsely : Prop := complaintChecksRow.holds Try.pinned (OpenSpec.ofChange complaintChecksWrong)

/-- 'recyclinglaw57.ComplaintRests': WHATEVER THE INPUT: true; the input reads as it did. -/
def complaintRestsSpec : ChangeSpec := { name := "complaintRests", fn := fun _ => fun
  | [d1, d2] => { results := [.lit (.bool true)], args := [d1, d2] }
  | _ => none }
def complaintRestsRow : OpenClaim := { program := "ytljogldcejcikaa", sum := "99acb9fa972eb6184038135347e20783e087569e2c4cac79cf21fc3a05be6fe8", func := "recycling/recyclinglaw57.ComplaintRests", spec := "complaintRests", unfollowed := true, recurses := true, apart := false }
def ComplaintRestsSaid : Prop := complaintRestsRow.holds Try.pinned (OpenSpec.ofChange complaintRestsSpec)

/-- ITS FALSE NEIGHBOUR: 'it returns false'. Refute it at one input. -/
def complaintRestsWrong : ChangeSpec := { name := "complaintRests", fn := fun _ => fun
  | [d1, d2] => { results := [.lit (.bool false)], args := [d1, d2] }
  | _ => none }
def ComplaintRestsWrongFalsely : Prop := complaintRestsRow.holds Try.pinned (OpenSpec.ofChange complaintRestsWrong)

/-- 'recyclinglaw57.ComplaintApplies': WHATEVER THE INPUT: true; the input reads as it did. -/
def complaintAppliesSpec : ChangeSpec := { name := "complaintApplies", fn := fun _ => fun
  | [d1, d2, d3] => { results := [.lit (.bool true)], args := [d1, d2, d3] }
  | _ => none }
def complaintAppliesRow : OpenClaim := { program := "ytljogldcejcikaa", sum := "99acb9fa972eb6184038135347e20783e087569e2c4cac79cf21fc3a05be6fe8", func := "recycling/recyclinglaw57.ComplaintApplies", spec := "complaintApplies", unfollowed := true, recurses := true, apart := false }
def ComplaintAppliesSaid : Prop := complaintAppliesRow.holds Try.pinned (OpenSpec.ofChange complaintAppliesSpec)

/-- ITS FALSE NEIGHBOUR: 'it returns false'. Refute it at one input. -/
def complaintAppliesWrong : ChangeSpec := { name := "complaintApplies", fn := fun _ => fun
  | [d1, d2, d3] => { results := [.lit (.bool false)], args := [d1, d2, d3] }
  | _ => none }
def ComplaintAppliesWrongFalsely : Prop := complaintAppliesRow.holds Try.pinned (OpenSpec.ofChange complaintAppliesWrong)

/-- 'recyclinglaw57.ComplaintBounded': WHATEVER THE INPUT: true; the input reads as it did. -/
def complaintBoundedSpec : ChangeSpec := { name := "complaintBounded", fn := fun _ => fun
  | [d] => { results := [.lit (.bool true)], args := [d] }
  | _ => none }
def complaintBoundedRow : OpenClaim := { program := "ytljogldcejcikaa", sum := "99acb9fa972eb6184038135347e20783e087569e2c4cac79cf21fc3a05be6fe8", func := "recycling/recyclinglaw57.ComplaintBounded", spec := "complaintBounded", unfollowed := true, recurses := true, apart := false }
def ComplaintBoundedSaid : Prop := complaintBoundedRow.holds Try.pinned (OpenSpec.ofChange complaintBoundedSpec)

/-- ITS FALSE NEIGHBOUR: 'it returns false'. Refute it at one input. -/
def complaintBoundedWrong : ChangeSpec := { name := "complaintBounded", fn := fun _ => fun
  | [d] => { results := [.lit (.bool false)], args := [d] }
  | _ => none }
def ComplaintBoundedWrongFalsely : Prop := complaintBoundedRow.holds Try.pinned (OpenSpec.ofChange complaintBoundedWrong)

/-- 'recyclinglaw57.ComplaintJust': WHATEVER THE INPUT: true; the input reads as it did. -/
def complaintJustSpec : ChangeSpec := { name := "complaintJust", fn := fun _ => fun
  | [d] => { results := [.lit (.bool true)], args := [d] }
  | _ => none }
def complaintJustRow : OpenClaim := { program := "ytljogldcejcikaa", sum := "99acb9fa972eb6184038135347e20783e087569e2c4cac79cf21fc3a05be6fe8", func := "recycling/recyclinglaw57.ComplaintJust", spec := "complaintJust", unfollowed := true, recurses := true, apart := false }
def ComplaintJustSaid : Prop := complaintJustRow.holds Try.pinned (OpenSpec.ofChange complaintJustSpec)

/-- ITS FALSE NEIGHBOUR: 'it returns false'. Refute it at one input. -/
def complaintJustWrong : ChangeSpec := { name := "complaintJust", fn := fun _ => fun
  | [d] => { results := [.lit (.bool false)], args := [d] }
  | _ => none }
def ComplaintJustWrongFalsely : Prop := complaintJustRow.holds Try.pinned (OpenSpec.ofChange complaintJustWrong)

/-- 'recyclinglaw57.ComplaintDays': WHATEVER THE INPUT: true; the input reads as it did. -/
def complaintDaysSpec : ChangeSpec := { name := "complaintDays", fn := fun _ => fun
  | [d1, d2] => { results := [.lit (.bool true)], args := [d1, d2] }
  | _ => none }
def complaintDaysRow : OpenClaim := { program := "ytljogldcejcikaa", sum := "99acb9fa972eb6184038135347e20783e087569e2c4cac79cf21fc3a05be6fe8", func := "recycling/recyclinglaw57.ComplaintDays", spec := "complaintDays", unfollowed := true, recurses := true, apart := false }
def ComplaintDaysSaid : Prop := complaintDaysRow.holds Try.pinned (OpenSpec.ofChange complaintDaysSpec)

/-- ITS FALSE NEIGHBOUR: 'it returns false'. Refute it at one input. -/
def complaintDaysWrong : ChangeSpec := { name := "complaintDays", fn := fun _ => fun
  | [d1, d2] => { results := [.lit (.bool false)], args := [d1, d2] }
  | _ => none }
def ComplaintDaysWrongFalsely : Prop := complaintDaysRow.holds Try.pinned (OpenSpec.ofChange complaintDaysWrong)

/- THE SECOND FORM. 'bulk': how many values and letters a reading holds, each counted each time it is reached (what is shared counts as often as it is met; a slice's spare places count too). A statement '..UptoSaid' is the law's where the arguments, and the package variables that the reading takes, are together of bulk at most 1048576: NARROWER than '..Said'. Prove '..Said' where nothing that the law and all that it calls make is longer than what came in: it says more and counts as full. Else prove '..UptoSaid'. A law counts once. -/
mutual
def uptoBulk {H : Type} : DataW H → Nat
  | .lit (.string bytes) => bytes.length + 1
  | .lit _ => 1
  | .nil => 1
  | .ptr d => uptoBulk d + 1
  | .slice elems spare => uptoBulkAll elems + uptoBulkAll spare + 1
  | .agg parts => uptoBulkAll parts + 1
  | .iface _ d => uptoBulk d + 1
  | .map entries => uptoBulkEntries entries + 1
  | .held _ => 1
def uptoBulkAll {H : Type} : List (DataW H) → Nat
  | [] => 0
  | d :: r => uptoBulk d + uptoBulkAll r
def uptoBulkEntries {H : Type} : List (Lit × DataW H) → Nat
  | [] => 0
  | x :: r => uptoBulkEntry x + uptoBulkEntries r
def uptoBulkEntry {H : Type} : Lit × DataW H → Nat
  | (.string bytes, d) => bytes.length + uptoBulk d + 1
  | (_, d) => uptoBulk d + 1
 end
def uptoSmall : (H : Type) → List (DataW H) → Bool := fun _ ds => decide (uptoBulkAll ds ≤ 1048576)
def OpenSpec.upto (s : _root_.Go.ChangeSpec) : _root_.Go.OpenSpec := { _root_.Go.OpenSpec.ofChange s with cond := some uptoSmall }

/-- 'recyclinglaw57.ComplaintChecks', WHERE WHAT IT READS IS OF BULK AT MOST 1048576: true; the input reads as it did. -/
def complaintChecksUptoRow : OpenClaim := { program := "ytljogldcejcikaa", sum := "99acb9fa972eb6184038135347e20783e087569e2c4cac79cf21fc3a05be6fe8", func := "recycling/recyclinglaw57.ComplaintChecks", spec := "complaintChecks", unfollowed := true, recurses := true, apart := false, narrowed := true }
def ComplaintChecksUptoSaid : Prop := complaintChecksUptoRow.holds Try.pinned (OpenSpec.upto complaintChecksSpec)

/-- 'recyclinglaw57.ComplaintRests', WHERE WHAT IT READS IS OF BULK AT MOST 1048576: true; the input reads as it did. -/
def complaintRestsUptoRow : OpenClaim := { program := "ytljogldcejcikaa", sum := "99acb9fa972eb6184038135347e20783e087569e2c4cac79cf21fc3a05be6fe8", func := "recycling/recyclinglaw57.ComplaintRests", spec := "complaintRests", unfollowed := true, recurses := true, apart := false, narrowed := true }
def ComplaintRestsUptoSaid : Prop := complaintRestsUptoRow.holds Try.pinned (OpenSpec.upto complaintRestsSpec)

/-- 'recyclinglaw57.ComplaintApplies', WHERE WHAT IT READS IS OF BULK AT MOST 1048576: true; the input reads as it did. -/
def complaintAppliesUptoRow : OpenClaim := { program := "ytljogldcejcikaa", sum := "99acb9fa972eb6184038135347e20783e087569e2c4cac79cf21fc3a05be6fe8", func := "recycling/recyclinglaw57.ComplaintApplies", spec := "complaintApplies", unfollowed := true, recurses := true, apart := false, narrowed := true }
def ComplaintAppliesUptoSaid : Prop := complaintAppliesUptoRow.holds Try.pinned (OpenSpec.upto complaintAppliesSpec)

/-- 'recyclinglaw57.ComplaintBounded', WHERE WHAT IT READS IS OF BULK AT MOST 1048576: true; the input reads as it did. -/
def complaintBoundedUptoRow : OpenClaim := { program := "ytljogldcejcikaa", sum := "99acb9fa972eb6184038135347e20783e087569e2c4cac79cf21fc3a05be6fe8", func := "recycling/recyclinglaw57.ComplaintBounded", spec := "complaintBounded", unfollowed := true, recurses := true, apart := false, narrowed := true }
def ComplaintBoundedUptoSaid : Prop := complaintBoundedUptoRow.holds Try.pinned (OpenSpec.upto complaintBoundedSpec)

/-- 'recyclinglaw57.ComplaintJust', WHERE WHAT IT READS IS OF BULK AT MOST 1048576: true; the input reads as it did. -/
def complaintJustUptoRow : OpenClaim := { program := "ytljogldcejcikaa", sum := "99acb9fa972eb6184038135347e20783e087569e2c4cac79cf21fc3a05be6fe8", func := "recycling/recyclinglaw57.ComplaintJust", spec := "complaintJust", unfollowed := true, recurses := true, apart := false, narrowed := true }
def ComplaintJustUptoSaid : Prop := complaintJustUptoRow.holds Try.pinned (OpenSpec.upto complaintJustSpec)

/-- 'recyclinglaw57.ComplaintDays', WHERE WHAT IT READS IS OF BULK AT MOST 1048576: true; the input reads as it did. -/
def complaintDaysUptoRow : OpenClaim := { program := "ytljogldcejcikaa", sum := "99acb9fa972eb6184038135347e20783e087569e2c4cac79cf21fc3a05be6fe8", func := "recycling/recyclinglaw57.ComplaintDays", spec := "complaintDays", unfollowed := true, recurses := true, apart := false, narrowed := true }
def ComplaintDaysUptoSaid : Prop := complaintDaysUptoRow.holds Try.pinned (OpenSpec.upto complaintDaysSpec)

end Rows
end Go.Proofs.Ytljogldcejcikaa
