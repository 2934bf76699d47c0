/- How the arguments of the laws are opened. Written by drow.py. -/
import Derived.Test.YtkepegnnkmmefaaDRow
import Derived.Test.YtkepegnnkmmefaaEmp1
namespace Go.Proofs.Ytkepegnnkmmefaa
open Go.ChangeShapes Go.WideShapes Go.RowKit Go.Deep

section
variable {H : Type} {enc : TypeId × Value → H} {w : World} {base : Nat} {spare : Nat → Bool} {held : Bool} {fuel : Nat} {cs : List Value} {x : DataW H × List MemPlace}
def wfApiEmptying (x : ApiEmptying) : Prop := I64 x.ID ∧ I64 x.Container ∧ I64 x.Vehicle ∧ I64 x.At ∧ I64 x.Mass.Lo ∧ I64 x.Mass.Hi
set_option maxRecDepth 100000 in
theorem el_ApiEmptying (h : DataW.trod enc Try.prog w base spare held fuel 47 cs = some x) : ∃ a : ApiEmptying, cs = encApiEmptying a ∧ wfApiEmptying a := by
  have hl : cs.length = 7 := (struct_len Try.underlying47 h).trans (by kernel_rfl)
  match cs, hl with
  | [c0, c1, c2, c3, c4, c5, c6], _ =>
    obtain ⟨_, _, g1⟩ := field_at (j := 0) (ty := 3) (off := 0) (k := 1) Try.underlying47 (by kernel_rfl) (by kernel_rfl) h
    obtain ⟨n0, rfl, w0⟩ := intK_of (v := c0) Try.underlying3 g1
    obtain ⟨_, _, g2⟩ := field_at (j := 1) (ty := 3) (off := 1) (k := 1) Try.underlying47 (by kernel_rfl) (by kernel_rfl) h
    obtain ⟨n1, rfl, w1⟩ := intK_of (v := c1) Try.underlying3 g2
    obtain ⟨_, _, g3⟩ := field_at (j := 2) (ty := 3) (off := 2) (k := 1) Try.underlying47 (by kernel_rfl) (by kernel_rfl) h
    obtain ⟨n2, rfl, w2⟩ := intK_of (v := c2) Try.underlying3 g3
    obtain ⟨_, _, g4⟩ := field_at (j := 3) (ty := 3) (off := 3) (k := 1) Try.underlying47 (by kernel_rfl) (by kernel_rfl) h
    obtain ⟨n3, rfl, w3⟩ := intK_of (v := c3) Try.underlying3 g4
    obtain ⟨_, _, g5⟩ := field_at (j := 4) (ty := 41) (off := 4) (k := 2) Try.underlying47 (by kernel_rfl) (by kernel_rfl) h
    obtain ⟨_, _, g6⟩ := field_at (j := 0) (ty := 3) (off := 0) (k := 1) Try.underlying41 (by kernel_rfl) (by kernel_rfl) g5
    obtain ⟨n4, rfl, w4⟩ := intK_of (v := c4) Try.underlying3 g6
    obtain ⟨_, _, g7⟩ := field_at (j := 1) (ty := 3) (off := 1) (k := 1) Try.underlying41 (by kernel_rfl) (by kernel_rfl) g5
    obtain ⟨n5, rfl, w5⟩ := intK_of (v := c5) Try.underlying3 g7
    obtain ⟨_, _, g8⟩ := field_at (j := 5) (ty := 4) (off := 6) (k := 1) Try.underlying47 (by kernel_rfl) (by kernel_rfl) h
    obtain ⟨n6, rfl⟩ := bool_of (v := c6) Try.underlying4 g8
    exact ⟨⟨n0, n1, n2, n3, ⟨n4, n5⟩, n6⟩, rfl, ⟨bounds_i64 w0, bounds_i64 w1, bounds_i64 w2, bounds_i64 w3, bounds_i64 w4, bounds_i64 w5⟩⟩
def wfApiAssign (x : ApiAssign) : Prop := I64 x.Container ∧ I64 x.Household ∧ I64 x.When.From ∧ I64 x.When.To
set_option maxRecDepth 100000 in
theorem el_ApiAssign (h : DataW.trod enc Try.prog w base spare held fuel 51 cs = some x) : ∃ a : ApiAssign, cs = encApiAssign a ∧ wfApiAssign a := by
  have hl : cs.length = 4 := (struct_len Try.underlying51 h).trans (by kernel_rfl)
  match cs, hl with
  | [c0, c1, c2, c3], _ =>
    obtain ⟨_, _, g1⟩ := field_at (j := 0) (ty := 3) (off := 0) (k := 1) Try.underlying51 (by kernel_rfl) (by kernel_rfl) h
    obtain ⟨n0, rfl, w0⟩ := intK_of (v := c0) Try.underlying3 g1
    obtain ⟨_, _, g2⟩ := field_at (j := 1) (ty := 3) (off := 1) (k := 1) Try.underlying51 (by kernel_rfl) (by kernel_rfl) h
    obtain ⟨n1, rfl, w1⟩ := intK_of (v := c1) Try.underlying3 g2
    obtain ⟨_, _, g3⟩ := field_at (j := 2) (ty := 35) (off := 2) (k := 2) Try.underlying51 (by kernel_rfl) (by kernel_rfl) h
    obtain ⟨_, _, g4⟩ := field_at (j := 0) (ty := 3) (off := 0) (k := 1) Try.underlying35 (by kernel_rfl) (by kernel_rfl) g3
    obtain ⟨n2, rfl, w2⟩ := intK_of (v := c2) Try.underlying3 g4
    obtain ⟨_, _, g5⟩ := field_at (j := 1) (ty := 3) (off := 1) (k := 1) Try.underlying35 (by kernel_rfl) (by kernel_rfl) g3
    obtain ⟨n3, rfl, w3⟩ := intK_of (v := c3) Try.underlying3 g5
    exact ⟨⟨n0, n1, ⟨n2, n3⟩⟩, rfl, ⟨bounds_i64 w0, bounds_i64 w1, bounds_i64 w2, bounds_i64 w3⟩⟩
def wfRecyclinglaw18Ask (x : Recyclinglaw18Ask) : Prop := I64 x.Household ∧ I64 x.When.From ∧ I64 x.When.To ∧ I64 x.Gap
set_option maxRecDepth 100000 in
theorem el_Recyclinglaw18Ask (h : DataW.trod enc Try.prog w base spare held fuel 37 cs = some x) : ∃ a : Recyclinglaw18Ask, cs = encRecyclinglaw18Ask a ∧ wfRecyclinglaw18Ask a := by
  have hl : cs.length = 4 := (struct_len Try.underlying37 h).trans (by kernel_rfl)
  match cs, hl with
  | [c0, c1, c2, c3], _ =>
    obtain ⟨_, _, g1⟩ := field_at (j := 0) (ty := 3) (off := 0) (k := 1) Try.underlying37 (by kernel_rfl) (by kernel_rfl) h
    obtain ⟨n0, rfl, w0⟩ := intK_of (v := c0) Try.underlying3 g1
    obtain ⟨_, _, g2⟩ := field_at (j := 1) (ty := 35) (off := 1) (k := 2) Try.underlying37 (by kernel_rfl) (by kernel_rfl) h
    obtain ⟨_, _, g3⟩ := field_at (j := 0) (ty := 3) (off := 0) (k := 1) Try.underlying35 (by kernel_rfl) (by kernel_rfl) g2
    obtain ⟨n1, rfl, w1⟩ := intK_of (v := c1) Try.underlying3 g3
    obtain ⟨_, _, g4⟩ := field_at (j := 1) (ty := 3) (off := 1) (k := 1) Try.underlying35 (by kernel_rfl) (by kernel_rfl) g2
    obtain ⟨n2, rfl, w2⟩ := intK_of (v := c2) Try.underlying3 g4
    obtain ⟨_, _, g5⟩ := field_at (j := 2) (ty := 3) (off := 3) (k := 1) Try.underlying37 (by kernel_rfl) (by kernel_rfl) h
    obtain ⟨n3, rfl, w3⟩ := intK_of (v := c3) Try.underlying3 g5
    exact ⟨⟨n0, ⟨n1, n2⟩, n3⟩, rfl, ⟨bounds_i64 w0, bounds_i64 w1, bounds_i64 w2, bounds_i64 w3⟩⟩
def wfApiWindow (x : ApiWindow) : Prop := I64 x.From ∧ I64 x.To
set_option maxRecDepth 100000 in
theorem el_ApiWindow (h : DataW.trod enc Try.prog w base spare held fuel 35 cs = some x) : ∃ a : ApiWindow, cs = encApiWindow a ∧ wfApiWindow a := by
  have hl : cs.length = 2 := (struct_len Try.underlying35 h).trans (by kernel_rfl)
  match cs, hl with
  | [c0, c1], _ =>
    obtain ⟨_, _, g1⟩ := field_at (j := 0) (ty := 3) (off := 0) (k := 1) Try.underlying35 (by kernel_rfl) (by kernel_rfl) h
    obtain ⟨n0, rfl, w0⟩ := intK_of (v := c0) Try.underlying3 g1
    obtain ⟨_, _, g2⟩ := field_at (j := 1) (ty := 3) (off := 1) (k := 1) Try.underlying35 (by kernel_rfl) (by kernel_rfl) h
    obtain ⟨n1, rfl, w1⟩ := intK_of (v := c1) Try.underlying3 g2
    exact ⟨⟨n0, n1⟩, rfl, ⟨bounds_i64 w0, bounds_i64 w1⟩⟩
end
end Go.Proofs.Ytkepegnnkmmefaa
