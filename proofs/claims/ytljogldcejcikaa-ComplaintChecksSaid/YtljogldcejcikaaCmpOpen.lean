/- How the arguments of the laws are opened. Written by drow.py. -/
import Derived.Test.YtljogldcejcikaaDRow
import Derived.Test.YtljogldcejcikaaCmpAwake
namespace Go.Proofs.Ytljogldcejcikaa
open Go.ChangeShapes Go.WideShapes Go.RowKit Go.Deep

section
variable {H : Type} {enc : TypeId × Value → H} {w : World} {base : Nat} {spare : Nat → Bool} {held : Bool} {fuel : Nat} {cs : List Value} {x : DataW H × List MemPlace}
def wfApiComplaint (x : ApiComplaint) : Prop := I64 x.Bill ∧ I64 x.Item ∧ I64 x.At ∧ I64 x.Kind
set_option maxRecDepth 100000 in
theorem el_ApiComplaint (h : DataW.trod enc Try.prog w base spare held fuel 23 cs = some x) : ∃ a : ApiComplaint, cs = encApiComplaint a ∧ wfApiComplaint a := by
  have hl : cs.length = 4 := (struct_len Try.underlying23 h).trans (by kernel_rfl)
  match cs, hl with
  | [c0, c1, c2, c3], _ =>
    obtain ⟨_, _, g1⟩ := field_at (j := 0) (ty := 3) (off := 0) (k := 1) Try.underlying23 (by kernel_rfl) (by kernel_rfl) h
    obtain ⟨n0, rfl, w0⟩ := intK_of (v := c0) Try.underlying3 g1
    obtain ⟨_, _, g2⟩ := field_at (j := 1) (ty := 3) (off := 1) (k := 1) Try.underlying23 (by kernel_rfl) (by kernel_rfl) h
    obtain ⟨n1, rfl, w1⟩ := intK_of (v := c1) Try.underlying3 g2
    obtain ⟨_, _, g3⟩ := field_at (j := 2) (ty := 3) (off := 2) (k := 1) Try.underlying23 (by kernel_rfl) (by kernel_rfl) h
    obtain ⟨n2, rfl, w2⟩ := intK_of (v := c2) Try.underlying3 g3
    obtain ⟨_, _, g4⟩ := field_at (j := 3) (ty := 3) (off := 3) (k := 1) Try.underlying23 (by kernel_rfl) (by kernel_rfl) h
    obtain ⟨n3, rfl, w3⟩ := intK_of (v := c3) Try.underlying3 g4
    exact ⟨⟨n0, n1, n2, n3⟩, rfl, ⟨bounds_i64 w0, bounds_i64 w1, bounds_i64 w2, bounds_i64 w3⟩⟩
def wfApiItem (x : ApiItem) : Prop := I64 x.Kind ∧ I64 x.Ref ∧ I64 x.Count ∧ I64 x.Price ∧ I64 x.Amount
set_option maxRecDepth 100000 in
theorem el_ApiItem (h : DataW.trod enc Try.prog w base spare held fuel 55 cs = some x) : ∃ a : ApiItem, cs = encApiItem a ∧ wfApiItem a := by
  have hl : cs.length = 5 := (struct_len Try.underlying55 h).trans (by kernel_rfl)
  match cs, hl with
  | [c0, c1, c2, c3, c4], _ =>
    obtain ⟨_, _, g1⟩ := field_at (j := 0) (ty := 3) (off := 0) (k := 1) Try.underlying55 (by kernel_rfl) (by kernel_rfl) h
    obtain ⟨n0, rfl, w0⟩ := intK_of (v := c0) Try.underlying3 g1
    obtain ⟨_, _, g2⟩ := field_at (j := 1) (ty := 3) (off := 1) (k := 1) Try.underlying55 (by kernel_rfl) (by kernel_rfl) h
    obtain ⟨n1, rfl, w1⟩ := intK_of (v := c1) Try.underlying3 g2
    obtain ⟨_, _, g3⟩ := field_at (j := 2) (ty := 3) (off := 2) (k := 1) Try.underlying55 (by kernel_rfl) (by kernel_rfl) h
    obtain ⟨n2, rfl, w2⟩ := intK_of (v := c2) Try.underlying3 g3
    obtain ⟨_, _, g4⟩ := field_at (j := 3) (ty := 3) (off := 3) (k := 1) Try.underlying55 (by kernel_rfl) (by kernel_rfl) h
    obtain ⟨n3, rfl, w3⟩ := intK_of (v := c3) Try.underlying3 g4
    obtain ⟨_, _, g5⟩ := field_at (j := 4) (ty := 3) (off := 4) (k := 1) Try.underlying55 (by kernel_rfl) (by kernel_rfl) h
    obtain ⟨n4, rfl, w4⟩ := intK_of (v := c4) Try.underlying3 g5
    exact ⟨⟨n0, n1, n2, n3, n4⟩, rfl, ⟨bounds_i64 w0, bounds_i64 w1, bounds_i64 w2, bounds_i64 w3, bounds_i64 w4⟩⟩
def wfApiRuling (x : ApiRuling) : Prop := I64 x.Credit ∧ I64 x.Err
set_option maxRecDepth 100000 in
theorem el_ApiRuling (h : DataW.trod enc Try.prog w base spare held fuel 37 cs = some x) : ∃ a : ApiRuling, cs = encApiRuling a ∧ wfApiRuling a := by
  have hl : cs.length = 2 := (struct_len Try.underlying37 h).trans (by kernel_rfl)
  match cs, hl with
  | [c0, c1], _ =>
    obtain ⟨_, _, g1⟩ := field_at (j := 0) (ty := 3) (off := 0) (k := 1) Try.underlying37 (by kernel_rfl) (by kernel_rfl) h
    obtain ⟨n0, rfl, w0⟩ := intK_of (v := c0) Try.underlying3 g1
    obtain ⟨_, _, g2⟩ := field_at (j := 1) (ty := 24) (off := 1) (k := 1) Try.underlying37 (by kernel_rfl) (by kernel_rfl) h
    obtain ⟨n1, rfl, w1⟩ := intK_of (v := c1) Try.underlying24 g2
    exact ⟨⟨n0, n1⟩, rfl, ⟨bounds_i64 w0, bounds_i64 w1⟩⟩
end
end Go.Proofs.Ytljogldcejcikaa
