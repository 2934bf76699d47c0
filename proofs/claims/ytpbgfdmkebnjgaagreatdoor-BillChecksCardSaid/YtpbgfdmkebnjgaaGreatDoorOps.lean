/- The operations' laws, over any program: what each yields from operands that are known. -/
import Derived.Test.YtpbgfdmkebnjgaaGreatDoorCore
namespace Go.Proofs.YtpbgfdmkebnjgaaGreatDoor
open Go.RowKit

def fOff (P : Program) (t : TypeId) (k : Nat) : Option Nat :=
  match P.underlying t with
  | some (.struct fs) => match fs[k]? with
    | some f => match P.info? f.type with
      | some i => if i.size = 0 then none else some f.offset
      | none => none
    | none => none
  | _ => none
def oneCell (P : Program) (t : TypeId) : Bool :=
  match P.underlying t with
  | some (.struct _) => false
  | some (.array _ _) => false
  | some _ => true
  | none => false
def elemSz (P : Program) (t : TypeId) : Option Nat :=
  match P.underlying t with
  | some (.slice x) => (P.info? x).map (·.size)
  | _ => none
def isSliceT (P : Program) (t : TypeId) : Bool :=
  match P.underlying t with
  | some (.slice _) => true
  | _ => false
/-- A type of k cells, a struct or an array. -/
def aggSz (P : Program) (t : TypeId) : Option Nat :=
  match P.underlying t with
  | some (.struct _) => (P.info? t).map (·.size)
  | some (.array _ _) => (P.info? t).map (·.size)
  | _ => none
section
variable {P : Program} {e : Env} {w : World} {d : Option Tmp} {ty : TypeId} {ps : String} {af : Array Edge} {g : Option (Nat × Bool)}
theorem op_move {x : Operand} {v : Value} (h : eev e x = v) : OpV P e w ⟨d, .move x, ty, ps, af, g⟩ v := by simp [OpV, execOp, h]
theorem op_assign {x : Operand} {v : Value} (h : eev e x = v) : OpV P e w ⟨d, .assign x, ty, ps, af, g⟩ v := by simp [OpV, execOp, h]
theorem op_pick_t {c x y : Operand} {v : Value} (hc : eev e c = .bool true) (h : eev e x = v) : OpV P e w ⟨d, .pick c x y, ty, ps, af, g⟩ v := by simp [OpV, execOp, hc, h, asBool]
theorem op_pick_f {c x y : Operand} {v : Value} (hc : eev e c = .bool false) (h : eev e y = v) : OpV P e w ⟨d, .pick c x y, ty, ps, af, g⟩ v := by simp [OpV, execOp, hc, h, asBool]
theorem op_field {t : TypeId} {x : Operand} {k o m : Nat} {b : Nat} (hx : eev e x = .pointer (some ⟨b, o, none⟩)) (hf : fOff P t k = some m) : OpV P e w ⟨d, .fieldAddr t x k, ty, ps, af, g⟩ (.pointer (some ⟨b, o + m, none⟩)) := by
  unfold fOff at hf
  split at hf
  · rename_i fs hu
    split at hf
    · rename_i f hfs
      split at hf
      · rename_i i hi
        split at hf
        · cases hf
        · rename_i hz
          injection hf with hf
          subst hf
          simp only [OpV, execOp, Instr.fieldAt, hx]
          by_cases h0 : f.offset = 0
          · simp [run_underlying hu, hfs, Instr.sureAddr, fieldPlace, sizeOf, typeInfo, hi, hz, Addr.add, h0]
          · simp [run_underlying hu, hfs, Instr.sureAddr, fieldPlace, sizeOf, typeInfo, hi, hz, Addr.add, h0]
      · cases hf
    · cases hf
  · cases hf
theorem op_field0 {t : TypeId} {x : Operand} {k o : Nat} {b : Nat} (hx : eev e x = .pointer (some ⟨b, o, none⟩)) (hf : fOff P t k = some 0) : OpV P e w ⟨d, .fieldAddr t x k, ty, ps, af, g⟩ (.pointer (some ⟨b, o, none⟩)) := op_field hx hf
theorem op_fieldL {t : TypeId} {x : Operand} {f o m k : Nat} {b : Nat} (hx : eev e x = .pointer (some ⟨b, o, none⟩)) (hf : fOff P t f = some m) (hk : o + m = k) : OpV P e w ⟨d, .fieldAddr t x f, ty, ps, af, g⟩ (.pointer (some ⟨b, k, none⟩)) := by
  subst hk; exact op_field hx hf
theorem op_load {t : TypeId} {x : Operand} {p : Addr} {v : Value} (hx : eev e x = .pointer (some p)) (h1 : oneCell P t = true) (hc : w.cell? p = some v) : OpV P e w ⟨d, .load t x, ty, ps, af, g⟩ v := by
  unfold oneCell at h1
  split at h1
  · cases h1
  · cases h1
  · rename_i dd n1 n2 hu
    simp only [OpV, execOp, Instr.loadAt, hx]
    have : (isAgg t).run P w = .ok false w := by
      unfold isAgg
      simp only [Sem.run_bind, run_underlying hu, Result.andThen]
      rfl
    simp [Instr.sureAddr, loadVar, this, hc]
  · cases h1
theorem op_loadA {t : TypeId} {x : Operand} {p : Addr} {cs : List Value} (hx : eev e x = .pointer (some p)) (hs : aggSz P t = some cs.length) (hc : ∀ j v, cs[j]? = some v → w.cell? (p.add j) = some v) : OpV P e w ⟨d, .load t x, ty, ps, af, g⟩ (.agg cs.toArray) := by
  have h2 : (isAgg t).run P w = .ok true w ∧ (P.info? t).map (·.size) = some cs.length := by
    unfold aggSz at hs
    split at hs
    · rename_i fs hu
      exact ⟨by unfold isAgg; simp [run_underlying hu], hs⟩
    · rename_i a b hu
      exact ⟨by unfold isAgg; simp [run_underlying hu], hs⟩
    · cases hs
  cases hi : P.info? t with
  | none => rw [hi] at h2; cases h2.2
  | some i =>
    have hi2 : i.size = cs.length := by have := h2.2; rw [hi] at this; simpa using this
    simp only [OpV, execOp, Instr.loadAt, hx]
    simp [Instr.sureAddr, loadVar, h2.1, sizeOf, typeInfo, hi, hi2, run_loadCells_list w p cs hc]
theorem op_loadR {t : TypeId} {x : Operand} {b o : Nat} (cs : List Value) (hx : eev e x = .pointer (some ⟨b, o, none⟩)) (hs : aggSz P t = some cs.length) (hc : ∀ j v, cs[j]? = some v → w.cell? ⟨b, o + j, none⟩ = some v) : OpV P e w ⟨d, .load t x, ty, ps, af, g⟩ (.agg cs.toArray) :=
  op_loadA hx hs fun j v hv => by
    have : (⟨b, o, none⟩ : Addr).add j = ⟨b, o + j, none⟩ := by unfold Addr.add; split <;> simp_all
    rw [this]; exact hc j v hv
theorem op_len {t : TypeId} {x : Operand} {A : Option Addr} {l c : Nat} (hx : eev e x = .slice A l c) (ht : isSliceT P t = true) : OpV P e w ⟨d, .call ⟨.builtin .len, #[x], #[t]⟩, ty, ps, af, g⟩ (.int .i64 l) := by
  unfold isSliceT at ht
  split at ht
  · rename_i E hu
    simp [OpV, execOp, resolve, invoke, builtin, Builtin.len_, hx, run_underlying hu, goInt]
  · cases ht
theorem op_index {t : TypeId} {x ix : Operand} {b o l c sz i : Nat} (hx : eev e x = .slice (some ⟨b, o, none⟩) l c) (hi : eev e ix = .int .i64 (i : Int)) (hs : elemSz P t = some sz) (hl : i < l) : OpV P e w ⟨d, .indexAddr t x ix, ty, ps, af, g⟩ (.pointer (some ⟨b, o + i * sz, none⟩)) := by
  unfold elemSz at hs
  split at hs
  · rename_i E hu
    cases hE : P.info? E with
    | none => rw [hE] at hs; cases hs
    | some inf =>
      have hsz : inf.size = sz := by rw [hE] at hs; simpa using hs
      simp only [OpV, execOp, Instr.indexAt, hx, hi]
      by_cases h0 : i * sz = 0
      · simp [asIntOf, run_underlying hu, sizeOf, typeInfo, hE, hsz, hl, Addr.add, h0]
      · simp [asIntOf, run_underlying hu, sizeOf, typeInfo, hE, hsz, hl, Addr.add, h0]
  · cases hs
theorem op_index1 {t : TypeId} {x ix : Operand} {b o l c i : Nat} (hx : eev e x = .slice (some ⟨b, o, none⟩) l c) (hi : eev e ix = .int .i64 (i : Int)) (hs : elemSz P t = some 1) (hl : i < l) : OpV P e w ⟨d, .indexAddr t x ix, ty, ps, af, g⟩ (.pointer (some ⟨b, o + i, none⟩)) := by
  have := op_index (P := P) (w := w) (d := d) (ty := ty) (ps := ps) (af := af) (g := g) hx hi hs hl
  rwa [Nat.mul_one] at this
theorem op_indexz {t : TypeId} {x ix : Operand} {b l c sz i : Nat} (hx : eev e x = .slice (some ⟨b, 0, none⟩) l c) (hi : eev e ix = .int .i64 (i : Int)) (hs : elemSz P t = some sz) (hl : i < l) : OpV P e w ⟨d, .indexAddr t x ix, ty, ps, af, g⟩ (.pointer (some ⟨b, i * sz, none⟩)) := by
  have := op_index (P := P) (w := w) (d := d) (ty := ty) (ps := ps) (af := af) (g := g) hx hi hs hl
  rwa [Nat.zero_add] at this
theorem op_index1z {t : TypeId} {x ix : Operand} {b l c i : Nat} (hx : eev e x = .slice (some ⟨b, 0, none⟩) l c) (hi : eev e ix = .int .i64 (i : Int)) (hs : elemSz P t = some 1) (hl : i < l) : OpV P e w ⟨d, .indexAddr t x ix, ty, ps, af, g⟩ (.pointer (some ⟨b, i, none⟩)) := by
  have := op_indexz (P := P) (w := w) (d := d) (ty := ty) (ps := ps) (af := af) (g := g) hx hi hs hl
  rwa [Nat.mul_one] at this
theorem op_indexI {t : TypeId} {x ix : Operand} {b o l c sz : Nat} {i : Int} (hx : eev e x = .slice (some ⟨b, o, none⟩) l c) (hi : eev e ix = .int .i64 i) (hs : elemSz P t = some sz) (h0 : 0 ≤ i) (hl : i < l) : OpV P e w ⟨d, .indexAddr t x ix, ty, ps, af, g⟩ (.pointer (some ⟨b, o + i.toNat * sz, none⟩)) := by
  obtain ⟨k, rfl⟩ := Int.eq_ofNat_of_zero_le h0
  exact op_index hx hi hs (by omega)
/-- An index that is a literal. -/
theorem op_indexK {t : TypeId} {x ix : Operand} {b o l c sz : Nat} (i : Nat) {j : Int} {r : Nat} (hx : eev e x = .slice (some ⟨b, o, none⟩) l c) (hi : eev e ix = .int .i64 j) (hj : (i : Int) = j) (hs : elemSz P t = some sz) (hl : i < l) (hr : o + i * sz = r) : OpV P e w ⟨d, .indexAddr t x ix, ty, ps, af, g⟩ (.pointer (some ⟨b, r, none⟩)) := by
  subst hj hr; exact op_index hx hi hs hl
section
variable {t t' : TypeId} {x y : Operand} {a b : Int}
theorem op_lss (hx : eev e x = .int .i64 a) (hy : eev e y = .int .i64 b) : OpV P e w ⟨d, .binOp .lss t x y t', ty, ps, af, g⟩ (.bool (decide (a < b))) := by simp [OpV, execOp, hx, hy, eqGuard, binOp, Op.intCmp]
theorem op_leq (hx : eev e x = .int .i64 a) (hy : eev e y = .int .i64 b) : OpV P e w ⟨d, .binOp .leq t x y t', ty, ps, af, g⟩ (.bool (decide (a ≤ b))) := by simp [OpV, execOp, hx, hy, eqGuard, binOp, Op.intCmp]
theorem op_gtr (hx : eev e x = .int .i64 a) (hy : eev e y = .int .i64 b) : OpV P e w ⟨d, .binOp .gtr t x y t', ty, ps, af, g⟩ (.bool (decide (b < a))) := by simp [OpV, execOp, hx, hy, eqGuard, binOp, Op.intCmp]
theorem op_geq (hx : eev e x = .int .i64 a) (hy : eev e y = .int .i64 b) : OpV P e w ⟨d, .binOp .geq t x y t', ty, ps, af, g⟩ (.bool (decide (b ≤ a))) := by simp [OpV, execOp, hx, hy, eqGuard, binOp, Op.intCmp]
theorem op_eql (hx : eev e x = .int .i64 a) (hy : eev e y = .int .i64 b) : OpV P e w ⟨d, .binOp .eql t x y t', ty, ps, af, g⟩ (.bool (decide (a = b))) := by
  have : (a == b) = decide (a = b) := by rw [Bool.eq_iff_iff]; simp
  simp [OpV, execOp, hx, hy, eqGuard, binOp, Op.intCmp, this]
theorem op_neq (hx : eev e x = .int .i64 a) (hy : eev e y = .int .i64 b) : OpV P e w ⟨d, .binOp .neq t x y t', ty, ps, af, g⟩ (.bool (decide (a ≠ b))) := by
  have : (a != b) = decide (a ≠ b) := by rw [Bool.eq_iff_iff]; simp
  simp only [OpV, execOp, hx, hy, eqGuard, binOp, Op.intCmp]
  simp [this]
/-- The same, decided. -/
theorem op_t {o : Oper} {φ : Prop} [Decidable φ] (h : OpV P e w o (.bool (decide φ))) (hp : φ) : OpV P e w o (.bool true) := by rwa [decide_eq_true hp] at h
theorem op_f {o : Oper} {φ : Prop} [Decidable φ] (h : OpV P e w o (.bool (decide φ))) (hp : ¬ φ) : OpV P e w o (.bool false) := by rwa [decide_eq_false hp] at h
theorem op_not {v : Bool} (hx : eev e x = .bool v) : OpV P e w ⟨d, .unOp .not t x, ty, ps, af, g⟩ (.bool (!v)) := by simp [OpV, execOp, hx, Op.unary]
theorem op_nott (hx : eev e x = .bool true) : OpV P e w ⟨d, .unOp .not t x, ty, ps, af, g⟩ (.bool false) := op_not hx
theorem op_notf (hx : eev e x = .bool false) : OpV P e w ⟨d, .unOp .not t x, ty, ps, af, g⟩ (.bool true) := op_not hx
theorem op_add (hx : eev e x = .int .i64 a) (hy : eev e y = .int .i64 b) (h : -9223372036854775808 ≤ a + b ∧ a + b ≤ 9223372036854775807) : OpV P e w ⟨d, .binOp .add t x y t', ty, ps, af, g⟩ (.int .i64 (a + b)) := by
  have := IntWalk.i64_in (a + b) (by omega)
  simp [OpV, execOp, hx, hy, eqGuard, binOp, Op.intArith, this]
theorem op_sub (hx : eev e x = .int .i64 a) (hy : eev e y = .int .i64 b) (h : -9223372036854775808 ≤ a - b ∧ a - b ≤ 9223372036854775807) : OpV P e w ⟨d, .binOp .sub t x y t', ty, ps, af, g⟩ (.int .i64 (a - b)) := by
  have := IntWalk.i64_in (a - b) (by omega)
  simp [OpV, execOp, hx, hy, eqGuard, binOp, Op.intArith, this]
theorem op_mul (hx : eev e x = .int .i64 a) (hy : eev e y = .int .i64 b) (h : -9223372036854775808 ≤ a * b ∧ a * b ≤ 9223372036854775807) : OpV P e w ⟨d, .binOp .mul t x y t', ty, ps, af, g⟩ (.int .i64 (a * b)) := by
  have := IntWalk.i64_in (a * b) (by omega)
  simp [OpV, execOp, hx, hy, eqGuard, binOp, Op.intArith, this]
theorem op_addw (hx : eev e x = .int .i64 a) (hy : eev e y = .int .i64 b) : OpV P e w ⟨d, .binOp .add t x y t', ty, ps, af, g⟩ (.int .i64 (IntKind.i64.wrap (a + b))) := by
  simp [OpV, execOp, hx, hy, eqGuard, binOp, Op.intArith]
end
theorem op_extract {x : Operand} {k : Nat} {vs : Array Value} {v : Value} (hx : eev e x = .tuple vs) (hv : vs[k]? = some v) : OpV P e w ⟨d, .extract x k, ty, ps, af, g⟩ v := by simp [OpV, execOp, hx, Instr.extract, hv]
/-- Boxes and literal slices make a block. -/
theorem op_box {t : TypeId} {x : Operand} {v : Value} (hx : eev e x = v) : (execOp (eev e) ⟨d, .box t x, ty, ps, af, g⟩).run P w = .ok (.value (.pointer (some ⟨w.heap.size, 0, none⟩))) (w.alloc (.cells v.cells t)) := by
  subst hx
  simp [execOp, Instr.box, newVar, newRow]
theorem op_boxA {t : TypeId} {x : Operand} {cs : List Value} (hx : eev e x = .agg cs.toArray) : (execOp (eev e) ⟨d, .box t x, ty, ps, af, g⟩).run P w = .ok (.value (.pointer (some ⟨w.heap.size, 0, none⟩))) (w.alloc (.cells cs.toArray t)) := op_box hx
def callOk (P : Program) (f : FuncId) : Bool :=
  match P.funcs[f]? with
  | some fn => !(fn.name == "runtime.NumGoroutine") && !fn.body.isNone
  | none => false
theorem run_callFunc_ok {f : FuncId} (h : callOk P f = true) (args : Array Value) : (callFunc f args).run P w = .ok (.enter f args) w := by
  unfold callOk at h
  split at h
  · rename_i fn hf
    simp only [Bool.and_eq_true, Bool.not_eq_true'] at h
    have h1 : ¬ fn.name = "runtime.NumGoroutine" := by simpa using h.1
    have h2 : ¬ fn.body = none := fun hn => by rw [hn] at h; cases h.2
    unfold callFunc
    simp [hf, h1, h2]
  · cases h
theorem op_call {f : FuncId} {l : List Operand} {ats : Array TypeId} (h : callOk P f = true) : (execOp (eev e) ⟨d, .call ⟨.value (.func f), l.toArray, ats⟩, ty, ps, af, g⟩).run P w = .ok (.enter f (l.map (eev e)).toArray) w := by
  have e1 : execOp (eev e) ⟨d, .call ⟨.value (.func f), l.toArray, ats⟩, ty, ps, af, g⟩ = callFunc f (#[] ++ l.toArray.map (eev e) ++ #[]) := rfl
  rw [e1, run_callFunc_ok h]
  simp
/-- A call of a function value. -/
theorem op_callv {f : FuncId} {x : Operand} {l : List Operand} {ats : Array TypeId} {cap : List Value} (hx : eev e x = .func (.func f) #[] cap.toArray) (h : callOk P f = true) : (execOp (eev e) ⟨d, .call ⟨.value x, l.toArray, ats⟩, ty, ps, af, g⟩).run P w = .ok (.enter f (l.map (eev e) ++ cap).toArray) w := by
  have e1 : execOp (eev e) ⟨d, .call ⟨.value x, l.toArray, ats⟩, ty, ps, af, g⟩ = (do let d ← Deferred.ofValue (eev e x) (l.toArray.map (eev e)); invoke d.target d.args) := rfl
  rw [e1, hx]
  simp [Deferred.ofValue, invoke, run_callFunc_ok h]
end
end Go.Proofs.YtpbgfdmkebnjgaaGreatDoor
