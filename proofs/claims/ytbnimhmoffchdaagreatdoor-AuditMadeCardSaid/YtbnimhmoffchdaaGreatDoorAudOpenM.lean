/- How the arguments of the laws are opened. Written by drow.py. -/
import Derived.Test.YtbnimhmoffchdaaGreatDoorDRowN
import Derived.Test.YtbnimhmoffchdaaGreatDoorZLMade
namespace Go.Proofs.YtbnimhmoffchdaaGreatDoor
open Go.ChangeShapes Go.WideShapes Go.RowKit Go.Deep

theorem strK_of {H : Type} {enc : TypeId × Value → H} {P : Program} {w : World} {base : Nat} {spare : Nat → Bool} {held : Bool} {fuel : Nat} {x : DataW H × List MemPlace} {t : TypeId} {v : Value} (ht : P.underlying t = some .string) (h : DataW.trod enc P w base spare held fuel t [v] = some x) : ∃ s : ByteArray, v = .string s := by
  obtain ⟨s, e, _⟩ := DataW.trod_string ht h
  simp only [List.cons.injEq, and_true] at e
  exact ⟨s, e⟩
section
variable {H : Type} {enc : TypeId × Value → H} {w : World} {base : Nat} {spare : Nat → Bool} {held : Bool} {fuel : Nat} {cs : List Value} {x : DataW H × List MemPlace}
def wfApiHousehold (x : ApiHousehold) : Prop := I64 x.Persons
set_option maxRecDepth 100000 in
theorem el_ApiHousehold (h : DataW.trod enc Tryz.prog w base spare held fuel 131 cs = some x) : ∃ a : ApiHousehold, cs = encApiHousehold a ∧ wfApiHousehold a := by
  have hl : cs.length = 2 := (struct_len Tryz.underlying131 h).trans (by kernel_rfl)
  match cs, hl with
  | [c0, c1], _ =>
    obtain ⟨_, _, g1⟩ := field_at (j := 0) (ty := 9) (off := 0) (k := 1) Tryz.underlying131 (by kernel_rfl) (by kernel_rfl) h
    obtain ⟨n0, rfl⟩ := strK_of (v := c0) Tryz.underlying9 g1
    obtain ⟨_, _, g2⟩ := field_at (j := 1) (ty := 3) (off := 1) (k := 1) Tryz.underlying131 (by kernel_rfl) (by kernel_rfl) h
    obtain ⟨n1, rfl, w1⟩ := intK_of (v := c1) Tryz.underlying3 g2
    exact ⟨⟨n0, n1⟩, rfl, bounds_i64 w1⟩
def wfApiContainer (x : ApiContainer) : Prop := I64 x.Kind ∧ I64 x.Litres ∧ I64 x.Grams ∧ I64 x.Node
set_option maxRecDepth 100000 in
theorem el_ApiContainer (h : DataW.trod enc Tryz.prog w base spare held fuel 128 cs = some x) : ∃ a : ApiContainer, cs = encApiContainer a ∧ wfApiContainer a := by
  have hl : cs.length = 5 := (struct_len Tryz.underlying128 h).trans (by kernel_rfl)
  match cs, hl with
  | [c0, c1, c2, c3, c4], _ =>
    obtain ⟨_, _, g1⟩ := field_at (j := 0) (ty := 9) (off := 0) (k := 1) Tryz.underlying128 (by kernel_rfl) (by kernel_rfl) h
    obtain ⟨n0, rfl⟩ := strK_of (v := c0) Tryz.underlying9 g1
    obtain ⟨_, _, g2⟩ := field_at (j := 1) (ty := 3) (off := 1) (k := 1) Tryz.underlying128 (by kernel_rfl) (by kernel_rfl) h
    obtain ⟨n1, rfl, w1⟩ := intK_of (v := c1) Tryz.underlying3 g2
    obtain ⟨_, _, g3⟩ := field_at (j := 2) (ty := 3) (off := 2) (k := 1) Tryz.underlying128 (by kernel_rfl) (by kernel_rfl) h
    obtain ⟨n2, rfl, w2⟩ := intK_of (v := c2) Tryz.underlying3 g3
    obtain ⟨_, _, g4⟩ := field_at (j := 3) (ty := 3) (off := 3) (k := 1) Tryz.underlying128 (by kernel_rfl) (by kernel_rfl) h
    obtain ⟨n3, rfl, w3⟩ := intK_of (v := c3) Tryz.underlying3 g4
    obtain ⟨_, _, g5⟩ := field_at (j := 4) (ty := 3) (off := 4) (k := 1) Tryz.underlying128 (by kernel_rfl) (by kernel_rfl) h
    obtain ⟨n4, rfl, w4⟩ := intK_of (v := c4) Tryz.underlying3 g5
    exact ⟨⟨n0, n1, n2, n3, n4⟩, rfl, ⟨bounds_i64 w1, bounds_i64 w2, bounds_i64 w3, bounds_i64 w4⟩⟩
def wfApiAssign (x : ApiAssign) : Prop := I64 x.Container ∧ I64 x.Household ∧ I64 x.When.From ∧ I64 x.When.To
set_option maxRecDepth 100000 in
theorem el_ApiAssign (h : DataW.trod enc Tryz.prog w base spare held fuel 133 cs = some x) : ∃ a : ApiAssign, cs = encApiAssign a ∧ wfApiAssign a := by
  have hl : cs.length = 4 := (struct_len Tryz.underlying133 h).trans (by kernel_rfl)
  match cs, hl with
  | [c0, c1, c2, c3], _ =>
    obtain ⟨_, _, g1⟩ := field_at (j := 0) (ty := 3) (off := 0) (k := 1) Tryz.underlying133 (by kernel_rfl) (by kernel_rfl) h
    obtain ⟨n0, rfl, w0⟩ := intK_of (v := c0) Tryz.underlying3 g1
    obtain ⟨_, _, g2⟩ := field_at (j := 1) (ty := 3) (off := 1) (k := 1) Tryz.underlying133 (by kernel_rfl) (by kernel_rfl) h
    obtain ⟨n1, rfl, w1⟩ := intK_of (v := c1) Tryz.underlying3 g2
    obtain ⟨_, _, g3⟩ := field_at (j := 2) (ty := 49) (off := 2) (k := 2) Tryz.underlying133 (by kernel_rfl) (by kernel_rfl) h
    obtain ⟨_, _, g4⟩ := field_at (j := 0) (ty := 3) (off := 0) (k := 1) Tryz.underlying49 (by kernel_rfl) (by kernel_rfl) g3
    obtain ⟨n2, rfl, w2⟩ := intK_of (v := c2) Tryz.underlying3 g4
    obtain ⟨_, _, g5⟩ := field_at (j := 1) (ty := 3) (off := 1) (k := 1) Tryz.underlying49 (by kernel_rfl) (by kernel_rfl) g3
    obtain ⟨n3, rfl, w3⟩ := intK_of (v := c3) Tryz.underlying3 g5
    exact ⟨⟨n0, n1, ⟨n2, n3⟩⟩, rfl, ⟨bounds_i64 w0, bounds_i64 w1, bounds_i64 w2, bounds_i64 w3⟩⟩
def wfApiEmptying (x : ApiEmptying) : Prop := I64 x.ID ∧ I64 x.Container ∧ I64 x.Vehicle ∧ I64 x.At ∧ I64 x.Mass.Lo ∧ I64 x.Mass.Hi
set_option maxRecDepth 100000 in
theorem el_ApiEmptying (h : DataW.trod enc Tryz.prog w base spare held fuel 117 cs = some x) : ∃ a : ApiEmptying, cs = encApiEmptying a ∧ wfApiEmptying a := by
  have hl : cs.length = 7 := (struct_len Tryz.underlying117 h).trans (by kernel_rfl)
  match cs, hl with
  | [c0, c1, c2, c3, c4, c5, c6], _ =>
    obtain ⟨_, _, g1⟩ := field_at (j := 0) (ty := 3) (off := 0) (k := 1) Tryz.underlying117 (by kernel_rfl) (by kernel_rfl) h
    obtain ⟨n0, rfl, w0⟩ := intK_of (v := c0) Tryz.underlying3 g1
    obtain ⟨_, _, g2⟩ := field_at (j := 1) (ty := 3) (off := 1) (k := 1) Tryz.underlying117 (by kernel_rfl) (by kernel_rfl) h
    obtain ⟨n1, rfl, w1⟩ := intK_of (v := c1) Tryz.underlying3 g2
    obtain ⟨_, _, g3⟩ := field_at (j := 2) (ty := 3) (off := 2) (k := 1) Tryz.underlying117 (by kernel_rfl) (by kernel_rfl) h
    obtain ⟨n2, rfl, w2⟩ := intK_of (v := c2) Tryz.underlying3 g3
    obtain ⟨_, _, g4⟩ := field_at (j := 3) (ty := 3) (off := 3) (k := 1) Tryz.underlying117 (by kernel_rfl) (by kernel_rfl) h
    obtain ⟨n3, rfl, w3⟩ := intK_of (v := c3) Tryz.underlying3 g4
    obtain ⟨_, _, g5⟩ := field_at (j := 4) (ty := 58) (off := 4) (k := 2) Tryz.underlying117 (by kernel_rfl) (by kernel_rfl) h
    obtain ⟨_, _, g6⟩ := field_at (j := 0) (ty := 3) (off := 0) (k := 1) Tryz.underlying58 (by kernel_rfl) (by kernel_rfl) g5
    obtain ⟨n4, rfl, w4⟩ := intK_of (v := c4) Tryz.underlying3 g6
    obtain ⟨_, _, g7⟩ := field_at (j := 1) (ty := 3) (off := 1) (k := 1) Tryz.underlying58 (by kernel_rfl) (by kernel_rfl) g5
    obtain ⟨n5, rfl, w5⟩ := intK_of (v := c5) Tryz.underlying3 g7
    obtain ⟨_, _, g8⟩ := field_at (j := 5) (ty := 4) (off := 6) (k := 1) Tryz.underlying117 (by kernel_rfl) (by kernel_rfl) h
    obtain ⟨n6, rfl⟩ := bool_of (v := c6) Tryz.underlying4 g8
    exact ⟨⟨n0, n1, n2, n3, ⟨n4, n5⟩, n6⟩, rfl, ⟨bounds_i64 w0, bounds_i64 w1, bounds_i64 w2, bounds_i64 w3, bounds_i64 w4, bounds_i64 w5⟩⟩
def wfApiTariff (x : ApiTariff) : Prop := I64 x.From ∧ I64 x.Base ∧ I64 x.Empty ∧ I64 x.Kilo ∧ I64 x.Free
set_option maxRecDepth 100000 in
theorem el_ApiTariff (h : DataW.trod enc Tryz.prog w base spare held fuel 108 cs = some x) : ∃ a : ApiTariff, cs = encApiTariff a ∧ wfApiTariff a := by
  have hl : cs.length = 5 := (struct_len Tryz.underlying108 h).trans (by kernel_rfl)
  match cs, hl with
  | [c0, c1, c2, c3, c4], _ =>
    obtain ⟨_, _, g1⟩ := field_at (j := 0) (ty := 3) (off := 0) (k := 1) Tryz.underlying108 (by kernel_rfl) (by kernel_rfl) h
    obtain ⟨n0, rfl, w0⟩ := intK_of (v := c0) Tryz.underlying3 g1
    obtain ⟨_, _, g2⟩ := field_at (j := 1) (ty := 3) (off := 1) (k := 1) Tryz.underlying108 (by kernel_rfl) (by kernel_rfl) h
    obtain ⟨n1, rfl, w1⟩ := intK_of (v := c1) Tryz.underlying3 g2
    obtain ⟨_, _, g3⟩ := field_at (j := 2) (ty := 3) (off := 2) (k := 1) Tryz.underlying108 (by kernel_rfl) (by kernel_rfl) h
    obtain ⟨n2, rfl, w2⟩ := intK_of (v := c2) Tryz.underlying3 g3
    obtain ⟨_, _, g4⟩ := field_at (j := 3) (ty := 3) (off := 3) (k := 1) Tryz.underlying108 (by kernel_rfl) (by kernel_rfl) h
    obtain ⟨n3, rfl, w3⟩ := intK_of (v := c3) Tryz.underlying3 g4
    obtain ⟨_, _, g5⟩ := field_at (j := 4) (ty := 3) (off := 4) (k := 1) Tryz.underlying108 (by kernel_rfl) (by kernel_rfl) h
    obtain ⟨n4, rfl, w4⟩ := intK_of (v := c4) Tryz.underlying3 g5
    exact ⟨⟨n0, n1, n2, n3, n4⟩, rfl, ⟨bounds_i64 w0, bounds_i64 w1, bounds_i64 w2, bounds_i64 w3, bounds_i64 w4⟩⟩
def wfApiWindow (x : ApiWindow) : Prop := I64 x.From ∧ I64 x.To
set_option maxRecDepth 100000 in
theorem el_ApiWindow (h : DataW.trod enc Tryz.prog w base spare held fuel 49 cs = some x) : ∃ a : ApiWindow, cs = encApiWindow a ∧ wfApiWindow a := by
  have hl : cs.length = 2 := (struct_len Tryz.underlying49 h).trans (by kernel_rfl)
  match cs, hl with
  | [c0, c1], _ =>
    obtain ⟨_, _, g1⟩ := field_at (j := 0) (ty := 3) (off := 0) (k := 1) Tryz.underlying49 (by kernel_rfl) (by kernel_rfl) h
    obtain ⟨n0, rfl, w0⟩ := intK_of (v := c0) Tryz.underlying3 g1
    obtain ⟨_, _, g2⟩ := field_at (j := 1) (ty := 3) (off := 1) (k := 1) Tryz.underlying49 (by kernel_rfl) (by kernel_rfl) h
    obtain ⟨n1, rfl, w1⟩ := intK_of (v := c1) Tryz.underlying3 g2
    exact ⟨⟨n0, n1⟩, rfl, ⟨bounds_i64 w0, bounds_i64 w1⟩⟩
end
end Go.Proofs.YtbnimhmoffchdaaGreatDoor
