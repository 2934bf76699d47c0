/-
  NARROWER THAN 'FOR EVERY INPUT', by the rows' own cells (each row's printed sentence says how): BillChecks: laid · BillMakes: laid · BillCredits: laid · BillRights: laid · BillExplains: laid · BillComplete: laid · BillSplits: laid · BillCredited: laid · BillWords: laid.
  DERIVED. THE GIVEN ROWS OF THIS SEAT. 9 by the template 'for every input the law returns true; each argument reads behind the call as it read before'; 0 by the template 'total and deterministic' (their statements: YtpbgfdmkebnjgaaGreatDoorTotals.lean).
  GIVEN WITH THE SEED: the statements are not yours to turn. If you find one false, say at which input.
  Laid BY PROGRAM, IN A SANDBOX (cutbox-rows.mjs): the forced cells as the released guide's own fill.sh prints them over the translation 497d629947dec8e4… (all of the seat's roots in one cut). By AI agents, Wed Nov 11 2026. No macro, syntax, notation, axiom, sorry.
-/
import Derived.Test.YtpbgfdmkebnjgaaGreatDoorChecked
import GoSem.Claim
import GoSem.ClaimJoined
import GoSem.ClaimMapViews
import Derived.JoinedTies
import Derived.KernelRfl
namespace Go.Proofs.YtpbgfdmkebnjgaaGreatDoor
/- THE CELL 'sum', in the pinned program and in every row, IS THE sha256 OF THE DUMP (.gsa) THAT YtpbgfdmkebnjgaaGreatDoorProg.lean LOADS. Nothing in Lean hashes anything: it is a label: what it is worth is what the hold of that sum in a sandbox is worth. -/
noncomputable def Tryz.pinned : Pinned := { name := "ytpbgfdmkebnjgaagreatdoor", sum := "497d629947dec8e412b8d65478dc3d979794f1e736c58d7fbd1243078ac4c4dc", checked := Tryz.checked }
namespace Rows
def none {H : Type} : Left H := { results := [], args := [] }

/- WHAT THE LISTED PACKAGE-LEVEL VARIABLES READ AS WHEN THE CALL BEGINS. Each datum BY PROGRAM (the guide's laid-datum.mjs) off the statement by which the dump's own 'gosem.cut.vars' lays the variable. In a bare row this is a premise. The card (YtpbgfdmkebnjgaaGreatDoorCards.lean) ties it to the program's text. -/
def laid_math_bits_deBruijn32tab {H : Type} : DataW H := .agg [.lit (.int .u8 0), .lit (.int .u8 1), .lit (.int .u8 28), .lit (.int .u8 2), .lit (.int .u8 29), .lit (.int .u8 14), .lit (.int .u8 24), .lit (.int .u8 3), .lit (.int .u8 30), .lit (.int .u8 22), .lit (.int .u8 20), .lit (.int .u8 15), .lit (.int .u8 25), .lit (.int .u8 17), .lit (.int .u8 4), .lit (.int .u8 8), .lit (.int .u8 31), .lit (.int .u8 27), .lit (.int .u8 13), .lit (.int .u8 23), .lit (.int .u8 21), .lit (.int .u8 19), .lit (.int .u8 16), .lit (.int .u8 7), .lit (.int .u8 26), .lit (.int .u8 12), .lit (.int .u8 18), .lit (.int .u8 6), .lit (.int .u8 11), .lit (.int .u8 5), .lit (.int .u8 10), .lit (.int .u8 9)]
def laid_math_bits_deBruijn64tab {H : Type} : DataW H := .agg [.lit (.int .u8 0), .lit (.int .u8 1), .lit (.int .u8 56), .lit (.int .u8 2), .lit (.int .u8 57), .lit (.int .u8 49), .lit (.int .u8 28), .lit (.int .u8 3), .lit (.int .u8 61), .lit (.int .u8 58), .lit (.int .u8 42), .lit (.int .u8 50), .lit (.int .u8 38), .lit (.int .u8 29), .lit (.int .u8 17), .lit (.int .u8 4), .lit (.int .u8 62), .lit (.int .u8 47), .lit (.int .u8 59), .lit (.int .u8 36), .lit (.int .u8 45), .lit (.int .u8 43), .lit (.int .u8 51), .lit (.int .u8 22), .lit (.int .u8 53), .lit (.int .u8 39), .lit (.int .u8 33), .lit (.int .u8 30), .lit (.int .u8 24), .lit (.int .u8 18), .lit (.int .u8 12), .lit (.int .u8 5), .lit (.int .u8 63), .lit (.int .u8 55), .lit (.int .u8 48), .lit (.int .u8 27), .lit (.int .u8 60), .lit (.int .u8 41), .lit (.int .u8 37), .lit (.int .u8 16), .lit (.int .u8 46), .lit (.int .u8 35), .lit (.int .u8 44), .lit (.int .u8 21), .lit (.int .u8 52), .lit (.int .u8 32), .lit (.int .u8 23), .lit (.int .u8 11), .lit (.int .u8 54), .lit (.int .u8 26), .lit (.int .u8 40), .lit (.int .u8 15), .lit (.int .u8 34), .lit (.int .u8 20), .lit (.int .u8 31), .lit (.int .u8 10), .lit (.int .u8 25), .lit (.int .u8 14), .lit (.int .u8 19), .lit (.int .u8 9), .lit (.int .u8 13), .lit (.int .u8 8), .lit (.int .u8 7), .lit (.int .u8 6)]
def laid_internal_strconv_uint64pow10 {H : Type} : DataW H := .agg [.lit (.int .u64 1), .lit (.int .u64 10), .lit (.int .u64 100), .lit (.int .u64 1000), .lit (.int .u64 10000), .lit (.int .u64 100000), .lit (.int .u64 1000000), .lit (.int .u64 10000000), .lit (.int .u64 100000000), .lit (.int .u64 1000000000), .lit (.int .u64 10000000000), .lit (.int .u64 100000000000), .lit (.int .u64 1000000000000), .lit (.int .u64 10000000000000), .lit (.int .u64 100000000000000), .lit (.int .u64 1000000000000000), .lit (.int .u64 10000000000000000), .lit (.int .u64 100000000000000000), .lit (.int .u64 1000000000000000000), .lit (.int .u64 10000000000000000000)]

/-- 'recyclinglaw54.BillChecks': WHATEVER THE INPUT: true; the input reads as it did. -/
def billChecksSpec : ChangeSpec := { name := "billChecks", fn := fun _ => fun
  | [d] => { results := [.lit (.bool true)], args := [d] }
  | _ => none }
def billChecksRow : OpenClaim := { program := "ytpbgfdmkebnjgaagreatdoor", sum := "497d629947dec8e412b8d65478dc3d979794f1e736c58d7fbd1243078ac4c4dc", func := "recycling/recyclinglaw54.BillChecks", spec := "billChecks", inPlace := ["internal/abi.NoEscape", "internal/bytealg.MakeNoZero"], unfollowed := true, recurses := true, named := ["internal/strconv.uint64pow10", "math/bits.deBruijn32tab", "math/bits.deBruijn64tab"], apart := false, laid := [("math/bits.deBruijn32tab", laid_math_bits_deBruijn32tab), ("math/bits.deBruijn64tab", laid_math_bits_deBruijn64tab), ("internal/strconv.uint64pow10", laid_internal_strconv_uint64pow10)] }
def BillChecksSaid : Prop := billChecksRow.holds Tryz.pinned (OpenSpec.ofChange billChecksSpec)

/-- ITS FALSE NEIGHBOUR: 'it returns false'. Refute it at one input. -/
def billChecksWrong : ChangeSpec := { name := "billChecks", fn := fun _ => fun
  | [d] => { results := [.lit (.bool false)], args := [d] }
  | _ => none }
def BillChecksWrongFalsely : Prop := billChecksRow.holds Tryz.pinned (OpenSpec.ofChange billChecksWrong)

/-- 'recyclinglaw54.BillMakes': WHATEVER THE INPUT: true; the input reads as it did. -/
def billMakesSpec : ChangeSpec := { name := "billMakes", fn := fun _ => fun
  | [d1, d2] => { results := [.lit (.bool true)], args := [d1, d2] }
  | _ => none }
def billMakesRow : OpenClaim := { program := "ytpbgfdmkebnjgaagreatdoor", sum := "497d629947dec8e412b8d65478dc3d979794f1e736c58d7fbd1243078ac4c4dc", func := "recycling/recyclinglaw54.BillMakes", spec := "billMakes", inPlace := ["internal/abi.NoEscape", "internal/bytealg.MakeNoZero"], unfollowed := true, recurses := true, named := ["internal/strconv.uint64pow10", "math/bits.deBruijn32tab", "math/bits.deBruijn64tab"], apart := false, laid := [("math/bits.deBruijn32tab", laid_math_bits_deBruijn32tab), ("math/bits.deBruijn64tab", laid_math_bits_deBruijn64tab), ("internal/strconv.uint64pow10", laid_internal_strconv_uint64pow10)] }
def BillMakesSaid : Prop := billMakesRow.holds Tryz.pinned (OpenSpec.ofChange billMakesSpec)

/-- ITS FALSE NEIGHBOUR: 'it returns false'. Refute it at one input. -/
def billMakesWrong : ChangeSpec := { name := "billMakes", fn := fun _ => fun
  | [d1, d2] => { results := [.lit (.bool false)], args := [d1, d2] }
  | _ => none }
def BillMakesWrongFalsely : Prop := billMakesRow.holds Tryz.pinned (OpenSpec.ofChange billMakesWrong)

/-- 'recyclinglaw54.BillCredits': WHATEVER THE INPUT: true; the input reads as it did. -/
def billCreditsSpec : ChangeSpec := { name := "billCredits", fn := fun _ => fun
  | [d1, d2, d3] => { results := [.lit (.bool true)], args := [d1, d2, d3] }
  | _ => none }
def billCreditsRow : OpenClaim := { program := "ytpbgfdmkebnjgaagreatdoor", sum := "497d629947dec8e412b8d65478dc3d979794f1e736c58d7fbd1243078ac4c4dc", func := "recycling/recyclinglaw54.BillCredits", spec := "billCredits", inPlace := ["internal/abi.NoEscape", "internal/bytealg.MakeNoZero"], unfollowed := true, recurses := true, named := ["internal/strconv.uint64pow10", "math/bits.deBruijn32tab", "math/bits.deBruijn64tab"], apart := false, laid := [("math/bits.deBruijn32tab", laid_math_bits_deBruijn32tab), ("math/bits.deBruijn64tab", laid_math_bits_deBruijn64tab), ("internal/strconv.uint64pow10", laid_internal_strconv_uint64pow10)] }
def BillCreditsSaid : Prop := billCreditsRow.holds Tryz.pinned (OpenSpec.ofChange billCreditsSpec)

/-- ITS FALSE NEIGHBOUR: 'it returns false'. Refute it at one input. -/
def billCreditsWrong : ChangeSpec := { name := "billCredits", fn := fun _ => fun
  | [d1, d2, d3] => { results := [.lit (.bool false)], args := [d1, d2, d3] }
  | _ => none }
def BillCreditsWrongFalsely : Prop := billCreditsRow.holds Tryz.pinned (OpenSpec.ofChange billCreditsWrong)

/-- 'recyclinglaw54.BillRights': WHATEVER THE INPUT: true; the input reads as it did. -/
def billRightsSpec : ChangeSpec := { name := "billRights", fn := fun _ => fun
  | [d1, d2] => { results := [.lit (.bool true)], args := [d1, d2] }
  | _ => none }
def billRightsRow : OpenClaim := { program := "ytpbgfdmkebnjgaagreatdoor", sum := "497d629947dec8e412b8d65478dc3d979794f1e736c58d7fbd1243078ac4c4dc", func := "recycling/recyclinglaw54.BillRights", spec := "billRights", inPlace := ["internal/abi.NoEscape", "internal/bytealg.MakeNoZero"], unfollowed := true, recurses := true, named := ["internal/strconv.uint64pow10", "math/bits.deBruijn32tab", "math/bits.deBruijn64tab"], apart := false, laid := [("math/bits.deBruijn32tab", laid_math_bits_deBruijn32tab), ("math/bits.deBruijn64tab", laid_math_bits_deBruijn64tab), ("internal/strconv.uint64pow10", laid_internal_strconv_uint64pow10)] }
def BillRightsSaid : Prop := billRightsRow.holds Tryz.pinned (OpenSpec.ofChange billRightsSpec)

/-- ITS FALSE NEIGHBOUR: 'it returns false'. Refute it at one input. -/
def billRightsWrong : ChangeSpec := { name := "billRights", fn := fun _ => fun
  | [d1, d2] => { results := [.lit (.bool false)], args := [d1, d2] }
  | _ => none }
def BillRightsWrongFalsely : Prop := billRightsRow.holds Tryz.pinned (OpenSpec.ofChange billRightsWrong)

/-- 'recyclinglaw54.BillExplains': WHATEVER THE INPUT: true; the input reads as it did. -/
def billExplainsSpec : ChangeSpec := { name := "billExplains", fn := fun _ => fun
  | [d1, d2, d3] => { results := [.lit (.bool true)], args := [d1, d2, d3] }
  | _ => none }
def billExplainsRow : OpenClaim := { program := "ytpbgfdmkebnjgaagreatdoor", sum := "497d629947dec8e412b8d65478dc3d979794f1e736c58d7fbd1243078ac4c4dc", func := "recycling/recyclinglaw54.BillExplains", spec := "billExplains", inPlace := ["internal/abi.NoEscape", "internal/bytealg.MakeNoZero"], unfollowed := true, recurses := true, named := ["internal/strconv.uint64pow10", "math/bits.deBruijn32tab", "math/bits.deBruijn64tab"], apart := false, laid := [("math/bits.deBruijn32tab", laid_math_bits_deBruijn32tab), ("math/bits.deBruijn64tab", laid_math_bits_deBruijn64tab), ("internal/strconv.uint64pow10", laid_internal_strconv_uint64pow10)] }
def BillExplainsSaid : Prop := billExplainsRow.holds Tryz.pinned (OpenSpec.ofChange billExplainsSpec)

/-- ITS FALSE NEIGHBOUR: 'it returns false'. Refute it at one input. -/
def billExplainsWrong : ChangeSpec := { name := "billExplains", fn := fun _ => fun
  | [d1, d2, d3] => { results := [.lit (.bool false)], args := [d1, d2, d3] }
  | _ => none }
def BillExplainsWrongFalsely : Prop := billExplainsRow.holds Tryz.pinned (OpenSpec.ofChange billExplainsWrong)

/-- 'recyclinglaw54.BillComplete': WHATEVER THE INPUT: true; the input reads as it did. -/
def billCompleteSpec : ChangeSpec := { name := "billComplete", fn := fun _ => fun
  | [d1, d2] => { results := [.lit (.bool true)], args := [d1, d2] }
  | _ => none }
def billCompleteRow : OpenClaim := { program := "ytpbgfdmkebnjgaagreatdoor", sum := "497d629947dec8e412b8d65478dc3d979794f1e736c58d7fbd1243078ac4c4dc", func := "recycling/recyclinglaw54.BillComplete", spec := "billComplete", inPlace := ["internal/abi.NoEscape", "internal/bytealg.MakeNoZero"], unfollowed := true, recurses := true, named := ["internal/strconv.uint64pow10", "math/bits.deBruijn32tab", "math/bits.deBruijn64tab"], apart := false, laid := [("math/bits.deBruijn32tab", laid_math_bits_deBruijn32tab), ("math/bits.deBruijn64tab", laid_math_bits_deBruijn64tab), ("internal/strconv.uint64pow10", laid_internal_strconv_uint64pow10)] }
def BillCompleteSaid : Prop := billCompleteRow.holds Tryz.pinned (OpenSpec.ofChange billCompleteSpec)

/-- ITS FALSE NEIGHBOUR: 'it returns false'. Refute it at one input. -/
def billCompleteWrong : ChangeSpec := { name := "billComplete", fn := fun _ => fun
  | [d1, d2] => { results := [.lit (.bool false)], args := [d1, d2] }
  | _ => none }
def BillCompleteWrongFalsely : Prop := billCompleteRow.holds Tryz.pinned (OpenSpec.ofChange billCompleteWrong)

/-- 'recyclinglaw54.BillSplits': WHATEVER THE INPUT: true; the input reads as it did. -/
def billSplitsSpec : ChangeSpec := { name := "billSplits", fn := fun _ => fun
  | [d1, d2, d3] => { results := [.lit (.bool true)], args := [d1, d2, d3] }
  | _ => none }
def billSplitsRow : OpenClaim := { program := "ytpbgfdmkebnjgaagreatdoor", sum := "497d629947dec8e412b8d65478dc3d979794f1e736c58d7fbd1243078ac4c4dc", func := "recycling/recyclinglaw54.BillSplits", spec := "billSplits", inPlace := ["internal/abi.NoEscape", "internal/bytealg.MakeNoZero"], unfollowed := true, recurses := true, named := ["internal/strconv.uint64pow10", "math/bits.deBruijn32tab", "math/bits.deBruijn64tab"], apart := false, laid := [("math/bits.deBruijn32tab", laid_math_bits_deBruijn32tab), ("math/bits.deBruijn64tab", laid_math_bits_deBruijn64tab), ("internal/strconv.uint64pow10", laid_internal_strconv_uint64pow10)] }
def BillSplitsSaid : Prop := billSplitsRow.holds Tryz.pinned (OpenSpec.ofChange billSplitsSpec)

/-- ITS FALSE NEIGHBOUR: 'it returns false'. Refute it at one input. -/
def billSplitsWrong : ChangeSpec := { name := "billSplits", fn := fun _ => fun
  | [d1, d2, d3] => { results := [.lit (.bool false)], args := [d1, d2, d3] }
  | _ => none }
def BillSplitsWrongFalsely : Prop := billSplitsRow.holds Tryz.pinned (OpenSpec.ofChange billSplitsWrong)

/-- 'recyclinglaw54.BillCredited': WHATEVER THE INPUT: true; the input reads as it did. -/
def billCreditedSpec : ChangeSpec := { name := "billCredited", fn := fun _ => fun
  | [d1, d2, d3] => { results := [.lit (.bool true)], args := [d1, d2, d3] }
  | _ => none }
def billCreditedRow : OpenClaim := { program := "ytpbgfdmkebnjgaagreatdoor", sum := "497d629947dec8e412b8d65478dc3d979794f1e736c58d7fbd1243078ac4c4dc", func := "recycling/recyclinglaw54.BillCredited", spec := "billCredited", inPlace := ["internal/abi.NoEscape", "internal/bytealg.MakeNoZero"], unfollowed := true, recurses := true, named := ["internal/strconv.uint64pow10", "math/bits.deBruijn32tab", "math/bits.deBruijn64tab"], apart := false, laid := [("math/bits.deBruijn32tab", laid_math_bits_deBruijn32tab), ("math/bits.deBruijn64tab", laid_math_bits_deBruijn64tab), ("internal/strconv.uint64pow10", laid_internal_strconv_uint64pow10)] }
def BillCreditedSaid : Prop := billCreditedRow.holds Tryz.pinned (OpenSpec.ofChange billCreditedSpec)

/-- ITS FALSE NEIGHBOUR: 'it returns false'. Refute it at one input. -/
def billCreditedWrong : ChangeSpec := { name := "billCredited", fn := fun _ => fun
  | [d1, d2, d3] => { results := [.lit (.bool false)], args := [d1, d2, d3] }
  | _ => none }
def BillCreditedWrongFalsely : Prop := billCreditedRow.holds Tryz.pinned (OpenSpec.ofChange billCreditedWrong)

/-- 'recyclinglaw54.BillWords': WHATEVER THE INPUT: true; the input reads as it did. -/
def billWordsSpec : ChangeSpec := { name := "billWords", fn := fun _ => fun
  | [d1, d2] => { results := [.lit (.bool true)], args := [d1, d2] }
  | _ => none }
def billWordsRow : OpenClaim := { program := "ytpbgfdmkebnjgaagreatdoor", sum := "497d629947dec8e412b8d65478dc3d979794f1e736c58d7fbd1243078ac4c4dc", func := "recycling/recyclinglaw54.BillWords", spec := "billWords", inPlace := ["internal/abi.NoEscape", "internal/bytealg.MakeNoZero"], unfollowed := true, recurses := true, named := ["internal/strconv.uint64pow10", "math/bits.deBruijn32tab", "math/bits.deBruijn64tab"], apart := false, laid := [("math/bits.deBruijn32tab", laid_math_bits_deBruijn32tab), ("math/bits.deBruijn64tab", laid_math_bits_deBruijn64tab), ("internal/strconv.uint64pow10", laid_internal_strconv_uint64pow10)] }
def BillWordsSaid : Prop := billWordsRow.holds Tryz.pinned (OpenSpec.ofChange billWordsSpec)

/-- ITS FALSE NEIGHBOUR: 'it returns false'. Refute it at one input. -/
def billWordsWrong : ChangeSpec := { name := "billWords", fn := fun _ => fun
  | [d1, d2] => { results := [.lit (.bool false)], args := [d1, d2] }
  | _ => none }
def BillWordsWrongFalsely : Prop := billWordsRow.holds Tryz.pinned (OpenSpec.ofChange billWordsWrong)

/- THE SECOND FORM. 'bulk': how many values and letters a reading holds, each counted each time it is reached (what is shared counts as often as it is met; a slice's spare places count too). A statement '..UptoSaid' is the law's where the arguments, and the package variables that the reading takes, are together of bulk at most 1048576: NARROWER than '..Said'. Prove '..Said' where nothing that the law and all that it calls make is longer than what came in: it says more and counts as full. Else prove '..UptoSaid'. A law counts once. -/
mutual
def uptoBulk {H : Type} : DataW H → Nat
  | .lit (.string bytes) => bytes.length + 1
  | .lit _ => 1
  | .nil => 1
  | .ptr d => uptoBulk d + 1
  | .slice elems spare => uptoBulkAll elems + uptoBulkAll spare + 1
  | .agg parts => uptoBulkAll parts + 1
  | .iface _ d => uptoBulk d + 1
  | .map entries => uptoBulkEntries entries + 1
  | .held _ => 1
def uptoBulkAll {H : Type} : List (DataW H) → Nat
  | [] => 0
  | d :: r => uptoBulk d + uptoBulkAll r
def uptoBulkEntries {H : Type} : List (Lit × DataW H) → Nat
  | [] => 0
  | x :: r => uptoBulkEntry x + uptoBulkEntries r
def uptoBulkEntry {H : Type} : Lit × DataW H → Nat
  | (.string bytes, d) => bytes.length + uptoBulk d + 1
  | (_, d) => uptoBulk d + 1
 end
def uptoSmall : (H : Type) → List (DataW H) → Bool := fun _ ds => decide (uptoBulkAll ds ≤ 1048576)
def OpenSpec.upto (s : _root_.Go.ChangeSpec) : _root_.Go.OpenSpec := { _root_.Go.OpenSpec.ofChange s with cond := some uptoSmall }

/-- 'recyclinglaw54.BillChecks', WHERE WHAT IT READS IS OF BULK AT MOST 1048576: true; the input reads as it did. -/
def billChecksUptoRow : OpenClaim := { program := "ytpbgfdmkebnjgaagreatdoor", sum := "497d629947dec8e412b8d65478dc3d979794f1e736c58d7fbd1243078ac4c4dc", func := "recycling/recyclinglaw54.BillChecks", spec := "billChecks", inPlace := ["internal/abi.NoEscape", "internal/bytealg.MakeNoZero"], unfollowed := true, recurses := true, named := ["internal/strconv.uint64pow10", "math/bits.deBruijn32tab", "math/bits.deBruijn64tab"], apart := false, laid := [("math/bits.deBruijn32tab", laid_math_bits_deBruijn32tab), ("math/bits.deBruijn64tab", laid_math_bits_deBruijn64tab), ("internal/strconv.uint64pow10", laid_internal_strconv_uint64pow10)], narrowed := true }
def BillChecksUptoSaid : Prop := billChecksUptoRow.holds Tryz.pinned (OpenSpec.upto billChecksSpec)

/-- 'recyclinglaw54.BillMakes', WHERE WHAT IT READS IS OF BULK AT MOST 1048576: true; the input reads as it did. -/
def billMakesUptoRow : OpenClaim := { program := "ytpbgfdmkebnjgaagreatdoor", sum := "497d629947dec8e412b8d65478dc3d979794f1e736c58d7fbd1243078ac4c4dc", func := "recycling/recyclinglaw54.BillMakes", spec := "billMakes", inPlace := ["internal/abi.NoEscape", "internal/bytealg.MakeNoZero"], unfollowed := true, recurses := true, named := ["internal/strconv.uint64pow10", "math/bits.deBruijn32tab", "math/bits.deBruijn64tab"], apart := false, laid := [("math/bits.deBruijn32tab", laid_math_bits_deBruijn32tab), ("math/bits.deBruijn64tab", laid_math_bits_deBruijn64tab), ("internal/strconv.uint64pow10", laid_internal_strconv_uint64pow10)], narrowed := true }
def BillMakesUptoSaid : Prop := billMakesUptoRow.holds Tryz.pinned (OpenSpec.upto billMakesSpec)

/-- 'recyclinglaw54.BillCredits', WHERE WHAT IT READS IS OF BULK AT MOST 1048576: true; the input reads as it did. -/
def billCreditsUptoRow : OpenClaim := { program := "ytpbgfdmkebnjgaagreatdoor", sum := "497d629947dec8e412b8d65478dc3d979794f1e736c58d7fbd1243078ac4c4dc", func := "recycling/recyclinglaw54.BillCredits", spec := "billCredits", inPlace := ["internal/abi.NoEscape", "internal/bytealg.MakeNoZero"], unfollowed := true, recurses := true, named := ["internal/strconv.uint64pow10", "math/bits.deBruijn32tab", "math/bits.deBruijn64tab"], apart := false, laid := [("math/bits.deBruijn32tab", laid_math_bits_deBruijn32tab), ("math/bits.deBruijn64tab", laid_math_bits_deBruijn64tab), ("internal/strconv.uint64pow10", laid_internal_strconv_uint64pow10)], narrowed := true }
def BillCreditsUptoSaid : Prop := billCreditsUptoRow.holds Tryz.pinned (OpenSpec.upto billCreditsSpec)

/-- 'recyclinglaw54.BillRights', WHERE WHAT IT READS IS OF BULK AT MOST 1048576: true; the input reads as it did. -/
def billRightsUptoRow : OpenClaim := { program := "ytpbgfdmkebnjgaagreatdoor", sum := "497d629947dec8e412b8d65478dc3d979794f1e736c58d7fbd1243078ac4c4dc", func := "recycling/recyclinglaw54.BillRights", spec := "billRights", inPlace := ["internal/abi.NoEscape", "internal/bytealg.MakeNoZero"], unfollowed := true, recurses := true, named := ["internal/strconv.uint64pow10", "math/bits.deBruijn32tab", "math/bits.deBruijn64tab"], apart := false, laid := [("math/bits.deBruijn32tab", laid_math_bits_deBruijn32tab), ("math/bits.deBruijn64tab", laid_math_bits_deBruijn64tab), ("internal/strconv.uint64pow10", laid_internal_strconv_uint64pow10)], narrowed := true }
def BillRightsUptoSaid : Prop := billRightsUptoRow.holds Tryz.pinned (OpenSpec.upto billRightsSpec)

/-- 'recyclinglaw54.BillExplains', WHERE WHAT IT READS IS OF BULK AT MOST 1048576: true; the input reads as it did. -/
def billExplainsUptoRow : OpenClaim := { program := "ytpbgfdmkebnjgaagreatdoor", sum := "497d629947dec8e412b8d65478dc3d979794f1e736c58d7fbd1243078ac4c4dc", func := "recycling/recyclinglaw54.BillExplains", spec := "billExplains", inPlace := ["internal/abi.NoEscape", "internal/bytealg.MakeNoZero"], unfollowed := true, recurses := true, named := ["internal/strconv.uint64pow10", "math/bits.deBruijn32tab", "math/bits.deBruijn64tab"], apart := false, laid := [("math/bits.deBruijn32tab", laid_math_bits_deBruijn32tab), ("math/bits.deBruijn64tab", laid_math_bits_deBruijn64tab), ("internal/strconv.uint64pow10", laid_internal_strconv_uint64pow10)], narrowed := true }
def BillExplainsUptoSaid : Prop := billExplainsUptoRow.holds Tryz.pinned (OpenSpec.upto billExplainsSpec)

/-- 'recyclinglaw54.BillComplete', WHERE WHAT IT READS IS OF BULK AT MOST 1048576: true; the input reads as it did. -/
def billCompleteUptoRow : OpenClaim := { program := "ytpbgfdmkebnjgaagreatdoor", sum := "497d629947dec8e412b8d65478dc3d979794f1e736c58d7fbd1243078ac4c4dc", func := "recycling/recyclinglaw54.BillComplete", spec := "billComplete", inPlace := ["internal/abi.NoEscape", "internal/bytealg.MakeNoZero"], unfollowed := true, recurses := true, named := ["internal/strconv.uint64pow10", "math/bits.deBruijn32tab", "math/bits.deBruijn64tab"], apart := false, laid := [("math/bits.deBruijn32tab", laid_math_bits_deBruijn32tab), ("math/bits.deBruijn64tab", laid_math_bits_deBruijn64tab), ("internal/strconv.uint64pow10", laid_internal_strconv_uint64pow10)], narrowed := true }
def BillCompleteUptoSaid : Prop := billCompleteUptoRow.holds Tryz.pinned (OpenSpec.upto billCompleteSpec)

/-- 'recyclinglaw54.BillSplits', WHERE WHAT IT READS IS OF BULK AT MOST 1048576: true; the input reads as it did. -/
def billSplitsUptoRow : OpenClaim := { program := "ytpbgfdmkebnjgaagreatdoor", sum := "497d629947dec8e412b8d65478dc3d979794f1e736c58d7fbd1243078ac4c4dc", func := "recycling/recyclinglaw54.BillSplits", spec := "billSplits", inPlace := ["internal/abi.NoEscape", "internal/bytealg.MakeNoZero"], unfollowed := true, recurses := true, named := ["internal/strconv.uint64pow10", "math/bits.deBruijn32tab", "math/bits.deBruijn64tab"], apart := false, laid := [("math/bits.deBruijn32tab", laid_math_bits_deBruijn32tab), ("math/bits.deBruijn64tab", laid_math_bits_deBruijn64tab), ("internal/strconv.uint64pow10", laid_internal_strconv_uint64pow10)], narrowed := true }
def BillSplitsUptoSaid : Prop := billSplitsUptoRow.holds Tryz.pinned (OpenSpec.upto billSplitsSpec)

/-- 'recyclinglaw54.BillCredited', WHERE WHAT IT READS IS OF BULK AT MOST 1048576: true; the input reads as it did. -/
def billCreditedUptoRow : OpenClaim := { program := "ytpbgfdmkebnjgaagreatdoor", sum := "497d629947dec8e412b8d65478dc3d979794f1e736c58d7fbd1243078ac4c4dc", func := "recycling/recyclinglaw54.BillCredited", spec := "billCredited", inPlace := ["internal/abi.NoEscape", "internal/bytealg.MakeNoZero"], unfollowed := true, recurses := true, named := ["internal/strconv.uint64pow10", "math/bits.deBruijn32tab", "math/bits.deBruijn64tab"], apart := false, laid := [("math/bits.deBruijn32tab", laid_math_bits_deBruijn32tab), ("math/bits.deBruijn64tab", laid_math_bits_deBruijn64tab), ("internal/strconv.uint64pow10", laid_internal_strconv_uint64pow10)], narrowed := true }
def BillCreditedUptoSaid : Prop := billCreditedUptoRow.holds Tryz.pinned (OpenSpec.upto billCreditedSpec)

/-- 'recyclinglaw54.BillWords', WHERE WHAT IT READS IS OF BULK AT MOST 1048576: true; the input reads as it did. -/
def billWordsUptoRow : OpenClaim := { program := "ytpbgfdmkebnjgaagreatdoor", sum := "497d629947dec8e412b8d65478dc3d979794f1e736c58d7fbd1243078ac4c4dc", func := "recycling/recyclinglaw54.BillWords", spec := "billWords", inPlace := ["internal/abi.NoEscape", "internal/bytealg.MakeNoZero"], unfollowed := true, recurses := true, named := ["internal/strconv.uint64pow10", "math/bits.deBruijn32tab", "math/bits.deBruijn64tab"], apart := false, laid := [("math/bits.deBruijn32tab", laid_math_bits_deBruijn32tab), ("math/bits.deBruijn64tab", laid_math_bits_deBruijn64tab), ("internal/strconv.uint64pow10", laid_internal_strconv_uint64pow10)], narrowed := true }
def BillWordsUptoSaid : Prop := billWordsUptoRow.holds Tryz.pinned (OpenSpec.upto billWordsSpec)

end Rows
end Go.Proofs.YtpbgfdmkebnjgaaGreatDoor
