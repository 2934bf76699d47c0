/- Deco: values of interfaces: integers, strings, empty structs; type assertions; calls of methods. Over any program. -/
import Derived.Test.YtpbgfdmkebnjgaaGreatDoorDMore
namespace Go.Proofs.YtpbgfdmkebnjgaaGreatDoor
open Go.RowKit
set_option linter.unusedSectionVars false
variable [JF]

inductive IfV where
  | nil
  | int (t : Nat) (n : Int)
  | str (t : Nat) (s : ByteArray)
  | obj (t : Nat)
deriving DecidableEq, Inhabited
def valIf : IfV → Value
  | .nil => .nilIface
  | .int t n => .iface t (.int .i64 n)
  | .str t s => .iface t (.string s)
  | .obj t => .iface t (.agg #[])
def encIf (x : IfV) : List Value := [valIf x]
theorem encIf_len (x : IfV) : (encIf x).length = 1 := rfl
theorem encIf_one (x : IfV) : (encIf x).all Value.oneCell' = true := by cases x <;> rfl
/-- What an assertion to an integer's or a string's type gives. -/
def ifInt (a : Nat) : IfV → Int
  | .int t n => if t = a then n else 0
  | _ => 0
def ifStr (a : Nat) : IfV → ByteArray
  | .str t s => if t = a then s else ⟨#[]⟩
  | _ => ⟨#[]⟩
def ifIsInt (a : Nat) : IfV → Bool
  | .int t _ => decide (t = a)
  | _ => false
def ifIsStr (a : Nat) : IfV → Bool
  | .str t _ => decide (t = a)
  | _ => false
/-- The value's type says what it is. -/
def ifOkInt (a : Nat) : IfV → Bool
  | .str t _ => decide (t ≠ a)
  | .obj t => decide (t ≠ a)
  | _ => true
def ifOkStr (a : Nat) : IfV → Bool
  | .int t _ => decide (t ≠ a)
  | .obj t => decide (t ≠ a)
  | _ => true
section
variable {P : Program} {e : Env} {w : World} {d : Option Tmp} {ty : TypeId} {ps : String} {af : Array Edge} {g : Option (Nat × Bool)} {x : Operand}
def notIf (P : Program) (t : TypeId) : Bool := match P.underlying t with
  | some (.interface _) => false
  | some _ => true
  | none => false
theorem op_makeIf {t : TypeId} {v : Value} (hx : eev e x = v) (ht : notIf P t = true) : OpV P e w ⟨d, .makeInterface t x, ty, ps, af, g⟩ (.iface t v) := by
  unfold notIf at ht
  cases hu : P.underlying t with
  | none => rw [hu] at ht; cases ht
  | some ud =>
    cases ud <;> first | (rw [hu] at ht; cases ht; done) | simp [OpV, execOp, hx, Instr.makeInterface, run_underlying hu]
theorem op_assertInt {t a : TypeId} {z : IfV} (hx : eev e x = valIf z) (ha : P.underlying a = some (.int .i64)) (hz : zeroOf P a = some (.int .i64 0)) (hok : ifOkInt a z = true) : OpV P e w ⟨d, .typeAssert x t a true, ty, ps, af, g⟩ (.tuple #[.int .i64 (ifInt a z), .bool (ifIsInt a z)]) := by
  have hz' : (zeroValue a).run P w = .ok (.int .i64 0) w := by
    unfold zeroOf at hz
    cases hi : P.info? a with
    | none => rw [hi] at hz; cases hz
    | some i =>
      rw [hi] at hz
      have : i.zero = some (.int .i64 0) := by simpa using hz
      simp [zeroValue, typeInfo, hi, this]
  cases z with
  | nil => simp [OpV, execOp, hx, valIf, Instr.typeAssert, run_underlying ha, hz', ifInt, ifIsInt]
  | int t' n =>
    by_cases h : t' = a
    · subst h; simp [OpV, execOp, hx, valIf, Instr.typeAssert, run_underlying ha, ifInt, ifIsInt]
    · simp [OpV, execOp, hx, valIf, Instr.typeAssert, run_underlying ha, hz', ifInt, ifIsInt, h]
  | str t' s =>
    have h : t' ≠ a := by simpa [ifOkInt] using hok
    simp [OpV, execOp, hx, valIf, Instr.typeAssert, run_underlying ha, hz', ifInt, ifIsInt, h]
  | obj t' =>
    have h : t' ≠ a := by simpa [ifOkInt] using hok
    simp [OpV, execOp, hx, valIf, Instr.typeAssert, run_underlying ha, hz', ifInt, ifIsInt, h]
theorem op_assertStr {t a : TypeId} {z : IfV} (hx : eev e x = valIf z) (ha : P.underlying a = some .string) (hz : zeroOf P a = some (.string ⟨#[]⟩)) (hok : ifOkStr a z = true) : OpV P e w ⟨d, .typeAssert x t a true, ty, ps, af, g⟩ (.tuple #[.string (ifStr a z), .bool (ifIsStr a z)]) := by
  have hz' : (zeroValue a).run P w = .ok (.string ⟨#[]⟩) w := by
    unfold zeroOf at hz
    cases hi : P.info? a with
    | none => rw [hi] at hz; cases hz
    | some i =>
      rw [hi] at hz
      have : i.zero = some (.string ⟨#[]⟩) := by simpa using hz
      simp [zeroValue, typeInfo, hi, this]
  cases z with
  | nil => simp [OpV, execOp, hx, valIf, Instr.typeAssert, run_underlying ha, hz', ifStr, ifIsStr]
  | str t' n =>
    by_cases h : t' = a
    · subst h; simp [OpV, execOp, hx, valIf, Instr.typeAssert, run_underlying ha, ifStr, ifIsStr]
    · simp [OpV, execOp, hx, valIf, Instr.typeAssert, run_underlying ha, hz', ifStr, ifIsStr, h]
  | int t' s =>
    have h : t' ≠ a := by simpa [ifOkStr] using hok
    simp [OpV, execOp, hx, valIf, Instr.typeAssert, run_underlying ha, hz', ifStr, ifIsStr, h]
  | obj t' =>
    have h : t' ≠ a := by simpa [ifOkStr] using hok
    simp [OpV, execOp, hx, valIf, Instr.typeAssert, run_underlying ha, hz', ifStr, ifIsStr, h]
/-- A method of an empty struct, through an interface. -/
theorem op_invoke {t K : Nat} {name : String} {l : List Operand} {ats : Array TypeId} (hx : eev e x = valIf (.obj t)) (hm : ∀ w, (method (P.types.size + Made.depth) t (.agg #[]) name).run P w = .ok (K, .agg #[]) w) (h : callOk P K = true) :
    (execOp (eev e) ⟨d, .call ⟨.invoke x name, l.toArray, ats⟩, ty, ps, af, g⟩).run P w = .ok (.enter K (.agg #[] :: l.map (eev e)).toArray) w := by
  have e2 : (#[eev e x] ++ l.toArray.map (eev e)).extract 1 (#[eev e x] ++ l.toArray.map (eev e)).size = (l.map (eev e)).toArray := by
    apply Array.ext'
    simp [List.take_of_length_le]
  have e3 : (#[eev e x] ++ l.toArray.map (eev e))[0]? = some (eev e x) := by simp
  simp only [execOp, resolve, Sem.run_bind, Sem.run_pure, Result.andThen_ok, invoke, e3, e2]
  rw [hx]
  simp only [callMethod, valIf, Sem.run_bind, run_program, Result.andThen_ok, hm]
  rw [run_callFunc_ok h]
  simp
end
end Go.Proofs.YtpbgfdmkebnjgaaGreatDoor
