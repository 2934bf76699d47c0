/- How the arguments of the laws are opened. Written by drow.py. -/
import Derived.Test.YtimmifkdocjljaaDRow
import Derived.Test.YtimmifkdocjljaaAuc1
namespace Go.Proofs.Ytimmifkdocjljaa
open Go.ChangeShapes Go.WideShapes Go.RowKit Go.Deep

section
variable {H : Type} {enc : TypeId × Value → H} {w : World} {base : Nat} {spare : Nat → Bool} {held : Bool} {fuel : Nat} {cs : List Value} {x : DataW H × List MemPlace}
def wfApiBid (x : ApiBid) : Prop := I64 x.Bidder ∧ I64 x.Price ∧ I64 x.Count
set_option maxRecDepth 100000 in
theorem el_ApiBid (h : DataW.trod enc Try.prog w base spare held fuel 44 cs = some x) : ∃ a : ApiBid, cs = encApiBid a ∧ wfApiBid a := by
  have hl : cs.length = 3 := (struct_len Try.underlying44 h).trans (by kernel_rfl)
  match cs, hl with
  | [c0, c1, c2], _ =>
    obtain ⟨_, _, g1⟩ := field_at (j := 0) (ty := 3) (off := 0) (k := 1) Try.underlying44 (by kernel_rfl) (by kernel_rfl) h
    obtain ⟨n0, rfl, w0⟩ := intK_of (v := c0) Try.underlying3 g1
    obtain ⟨_, _, g2⟩ := field_at (j := 1) (ty := 3) (off := 1) (k := 1) Try.underlying44 (by kernel_rfl) (by kernel_rfl) h
    obtain ⟨n1, rfl, w1⟩ := intK_of (v := c1) Try.underlying3 g2
    obtain ⟨_, _, g3⟩ := field_at (j := 2) (ty := 3) (off := 2) (k := 1) Try.underlying44 (by kernel_rfl) (by kernel_rfl) h
    obtain ⟨n2, rfl, w2⟩ := intK_of (v := c2) Try.underlying3 g3
    exact ⟨⟨n0, n1, n2⟩, rfl, ⟨bounds_i64 w0, bounds_i64 w1, bounds_i64 w2⟩⟩
theorem el_int3 (h : DataW.trod enc Try.prog w base spare held fuel 3 cs = some x) : ∃ a : Int, cs = encI a ∧ (fun x : Int => I64 x) a := by
  obtain ⟨n, rfl, _, hw⟩ := DataW.trod_int Try.underlying3 h
  exact ⟨n, rfl, bounds_i64 hw⟩
def wfArr4Int (x : Arr4Int) : Prop := I64 x.E0 ∧ I64 x.E1 ∧ I64 x.E2 ∧ I64 x.E3
set_option maxRecDepth 100000 in
theorem el_Arr4Int (h : DataW.trod enc Try.prog w base spare held fuel 42 cs = some x) : ∃ a : Arr4Int, cs = encArr4Int a ∧ wfArr4Int a := by
  have hl : cs.length = 4 := (array_len Try.underlying42 h).trans (by kernel_rfl)
  match cs, hl with
  | [c0, c1, c2, c3], _ =>
    obtain ⟨_, _, g1⟩ := elem_at (j := 0) (off := 0) (k := 1) Try.underlying42 (by kernel_rfl) (by kernel_rfl) (by rfl) h
    obtain ⟨n0, rfl, w0⟩ := intK_of (v := c0) Try.underlying3 g1
    obtain ⟨_, _, g2⟩ := elem_at (j := 1) (off := 1) (k := 1) Try.underlying42 (by kernel_rfl) (by kernel_rfl) (by rfl) h
    obtain ⟨n1, rfl, w1⟩ := intK_of (v := c1) Try.underlying3 g2
    obtain ⟨_, _, g3⟩ := elem_at (j := 2) (off := 2) (k := 1) Try.underlying42 (by kernel_rfl) (by kernel_rfl) (by rfl) h
    obtain ⟨n2, rfl, w2⟩ := intK_of (v := c2) Try.underlying3 g3
    obtain ⟨_, _, g4⟩ := elem_at (j := 3) (off := 3) (k := 1) Try.underlying42 (by kernel_rfl) (by kernel_rfl) (by rfl) h
    obtain ⟨n3, rfl, w3⟩ := intK_of (v := c3) Try.underlying3 g4
    exact ⟨⟨n0, n1, n2, n3⟩, rfl, ⟨bounds_i64 w0, bounds_i64 w1, bounds_i64 w2, bounds_i64 w3⟩⟩
def wfArr3Int (x : Arr3Int) : Prop := I64 x.E0 ∧ I64 x.E1 ∧ I64 x.E2
set_option maxRecDepth 100000 in
theorem el_Arr3Int (h : DataW.trod enc Try.prog w base spare held fuel 46 cs = some x) : ∃ a : Arr3Int, cs = encArr3Int a ∧ wfArr3Int a := by
  have hl : cs.length = 3 := (array_len Try.underlying46 h).trans (by kernel_rfl)
  match cs, hl with
  | [c0, c1, c2], _ =>
    obtain ⟨_, _, g1⟩ := elem_at (j := 0) (off := 0) (k := 1) Try.underlying46 (by kernel_rfl) (by kernel_rfl) (by rfl) h
    obtain ⟨n0, rfl, w0⟩ := intK_of (v := c0) Try.underlying3 g1
    obtain ⟨_, _, g2⟩ := elem_at (j := 1) (off := 1) (k := 1) Try.underlying46 (by kernel_rfl) (by kernel_rfl) (by rfl) h
    obtain ⟨n1, rfl, w1⟩ := intK_of (v := c1) Try.underlying3 g2
    obtain ⟨_, _, g3⟩ := elem_at (j := 2) (off := 2) (k := 1) Try.underlying46 (by kernel_rfl) (by kernel_rfl) (by rfl) h
    obtain ⟨n2, rfl, w2⟩ := intK_of (v := c2) Try.underlying3 g3
    exact ⟨⟨n0, n1, n2⟩, rfl, ⟨bounds_i64 w0, bounds_i64 w1, bounds_i64 w2⟩⟩
end
end Go.Proofs.Ytimmifkdocjljaa
