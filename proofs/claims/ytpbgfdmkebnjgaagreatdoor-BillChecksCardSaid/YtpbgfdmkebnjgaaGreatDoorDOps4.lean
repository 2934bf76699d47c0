/- Deco: picks by a test that is not decided, parts of strings. -/
import Derived.Test.YtpbgfdmkebnjgaaGreatDoorSq
import Derived.Test.YtpbgfdmkebnjgaaGreatDoorDIf
namespace Go.Proofs.YtpbgfdmkebnjgaaGreatDoor
open Go.RowKit
set_option linter.unusedSectionVars false
variable [JF]
/-- Sums that may go round. -/
def wr64 (n : Int) : Int := if -9223372036854775808 ≤ n ∧ n ≤ 9223372036854775807 then n else IntKind.i64.wrap n
theorem wr64_in {n : Int} (h : I64 n) : wr64 n = n := if_pos h
theorem wr64_wrap (n : Int) : IntKind.i64.wrap n = wr64 n := by
  unfold wr64
  split
  · exact IntWalk.i64_in n ‹_›
  · rfl
section
variable {P : Program} {e : Env} {w : World} {d : Option Tmp} {ty : TypeId} {ps : String} {af : Array Edge} {g : Option (Nat × Bool)}
theorem op_pickB {c x y : Operand} {b p q : Bool} (hc : eev e c = .bool b) (hx : eev e x = .bool p) (hy : eev e y = .bool q) : OpV P e w ⟨d, .pick c x y, ty, ps, af, g⟩ (.bool (bif b then p else q)) := by
  cases b
  · exact op_pick_f hc hy
  · exact op_pick_t hc hx
theorem op_pickAnd {c x y : Operand} {b p : Bool} (hc : eev e c = .bool b) (hx : eev e x = .bool p) (hy : eev e y = .bool false) : OpV P e w ⟨d, .pick c x y, ty, ps, af, g⟩ (.bool (b && p)) := by
  cases b
  · exact op_pick_f hc hy
  · exact op_pick_t hc hx
theorem op_pickOr {c x y : Operand} {b q : Bool} (hc : eev e c = .bool b) (hx : eev e x = .bool true) (hy : eev e y = .bool q) : OpV P e w ⟨d, .pick c x y, ty, ps, af, g⟩ (.bool (b || q)) := by
  cases b
  · exact op_pick_f hc hy
  · exact op_pick_t hc hx
theorem op_pickI {c x y : Operand} {b : Bool} {k : IntKind} {p q : Int} (hc : eev e c = .bool b) (hx : eev e x = .int k p) (hy : eev e y = .int k q) : OpV P e w ⟨d, .pick c x y, ty, ps, af, g⟩ (.int k (bif b then p else q)) := by
  cases b
  · exact op_pick_f hc hy
  · exact op_pick_t hc hx
theorem op_addW {t t' : TypeId} {x y : Operand} {a b : Int} (hx : eev e x = .int .i64 a) (hy : eev e y = .int .i64 b) : OpV P e w ⟨d, .binOp .add t x y t', ty, ps, af, g⟩ (.int .i64 (wr64 (a + b))) := by
  simp [OpV, execOp, hx, hy, eqGuard, binOp, Op.intArith, wr64_wrap]
theorem op_subW {t t' : TypeId} {x y : Operand} {a b : Int} (hx : eev e x = .int .i64 a) (hy : eev e y = .int .i64 b) : OpV P e w ⟨d, .binOp .sub t x y t', ty, ps, af, g⟩ (.int .i64 (wr64 (a - b))) := by
  simp [OpV, execOp, hx, hy, eqGuard, binOp, Op.intArith, wr64_wrap]
theorem op_sliceSLH {t : TypeId} {x lo hi : Operand} {s : ByteArray} {i j : Int} (hx : eev e x = .string s) (hl : eev e lo = .int .i64 i) (hh : eev e hi = .int .i64 j) (ht : isStrT P t = true) (h : 0 ≤ i ∧ i ≤ j ∧ j ≤ (ByteArray.size s : Int)) :
    OpV P e w ⟨d, .slice t x (some lo) (some hi) none, ty, ps, af, g⟩ (.string (s.extract i.toNat j.toNat)) := by
  obtain ⟨h0, h1, h2⟩ := h
  unfold isStrT at ht
  split at ht
  · rename_i hu
    obtain ⟨k, rfl⟩ := Int.eq_ofNat_of_zero_le h0
    obtain ⟨l, rfl⟩ := Int.eq_ofNat_of_zero_le (Int.le_trans h0 h1)
    have a1 : k ≤ l := by omega
    have a2 : l ≤ s.size := by omega
    simp only [OpV, execOp, Instr.sliceAt, hx, Option.map_some, Option.map_none, hl, hh]
    simp [run_underlying hu, Instr.slice, Instr.sliceBounds, Instr.sliceBound, asIntOf, a1, a2]
  · cases ht
theorem op_sliceSH {t : TypeId} {x hi : Operand} {s : ByteArray} {j : Int} (hx : eev e x = .string s) (hh : eev e hi = .int .i64 j) (ht : isStrT P t = true) (h : 0 ≤ j ∧ j ≤ (ByteArray.size s : Int)) :
    OpV P e w ⟨d, .slice t x none (some hi) none, ty, ps, af, g⟩ (.string (s.extract 0 j.toNat)) := by
  obtain ⟨h1, h2⟩ := h
  unfold isStrT at ht
  split at ht
  · rename_i hu
    obtain ⟨l, rfl⟩ := Int.eq_ofNat_of_zero_le h1
    have a2 : l ≤ s.size := by omega
    simp only [OpV, execOp, Instr.sliceAt, hx, Option.map_some, Option.map_none, hh]
    simp [run_underlying hu, Instr.slice, Instr.sliceBounds, Instr.sliceBound, asIntOf, a2]
  · cases ht
theorem op_sliceSL {t : TypeId} {x lo : Operand} {s : ByteArray} {i : Int} (hx : eev e x = .string s) (hl : eev e lo = .int .i64 i) (ht : isStrT P t = true) (h : 0 ≤ i ∧ i ≤ (ByteArray.size s : Int)) :
    OpV P e w ⟨d, .slice t x (some lo) none none, ty, ps, af, g⟩ (.string (s.extract i.toNat s.size)) := by
  obtain ⟨h1, h2⟩ := h
  unfold isStrT at ht
  split at ht
  · rename_i hu
    obtain ⟨l, rfl⟩ := Int.eq_ofNat_of_zero_le h1
    have a2 : l ≤ s.size := by omega
    simp only [OpV, execOp, Instr.sliceAt, hx, Option.map_some, Option.map_none, hl]
    simp [run_underlying hu, Instr.slice, Instr.sliceBounds, Instr.sliceBound, asIntOf, a2]
  · cases ht
end
end Go.Proofs.YtpbgfdmkebnjgaaGreatDoor
