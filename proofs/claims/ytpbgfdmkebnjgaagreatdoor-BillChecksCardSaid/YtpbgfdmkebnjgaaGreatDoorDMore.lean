/- Deco, more operations: strings (equality, bytes, concatenation), '!=' of structs. Over any program. -/
import Derived.Test.YtpbgfdmkebnjgaaGreatDoorDFull
import Derived.Laws.StructEq
namespace Go.Proofs.YtpbgfdmkebnjgaaGreatDoor
open Go.RowKit
set_option linter.unusedSectionVars false
variable [JF]

def bget (s : ByteArray) (i : Int) : Int := ((s.data[i.toNat]?.getD 0).toNat : Int)
section
variable {P : Program} {e : Env} {w : World} {d : Option Tmp} {ty : TypeId} {ps : String} {af : Array Edge} {g : Option (Nat × Bool)} {t t' : TypeId} {x y : Operand}
theorem beq_bytes (a b : ByteArray) : (a.toList == b.toList) = decide (a = b) := by
  rw [← beq_toListBytes, Bool.eq_iff_iff, decide_eq_true_eq]
  exact MapKept.bytes_beq a b
theorem op_eqlS {a b : ByteArray} (hx : eev e x = .string a) (hy : eev e y = .string b) : OpV P e w ⟨d, .binOp .eql t x y t', ty, ps, af, g⟩ (.bool (decide (a = b))) := by
  rw [← beq_bytes]
  simp [OpV, execOp, hx, hy, eqGuard, binOp, Op.stringOp]
theorem op_neqS {a b : ByteArray} (hx : eev e x = .string a) (hy : eev e y = .string b) : OpV P e w ⟨d, .binOp .neq t x y t', ty, ps, af, g⟩ (.bool (decide (a ≠ b))) := by
  have : (!(a.toList == b.toList)) = decide (a ≠ b) := by rw [beq_bytes]; simp
  rw [← this]
  simp [OpV, execOp, hx, hy, eqGuard, binOp, Op.stringOp]
theorem op_addS {a b : ByteArray} (hx : eev e x = .string a) (hy : eev e y = .string b) (h : ByteArray.size a + ByteArray.size b ≤ 9223372036854775807) : OpV P e w ⟨d, .binOp .add t x y t', ty, ps, af, g⟩ (.string (a ++ b)) := by
  have hm : IntKind.i64.max = 9223372036854775807 := by decide
  have h2 : ¬ ((9223372036854775807 : Int) < (a.size : Int) + (b.size : Int)) := by omega
  simp [OpV, execOp, hx, hy, eqGuard, binOp, Op.stringOp, hm, h2]
def isStrT (P : Program) (t : TypeId) : Bool := match P.underlying t with
  | some .string => true
  | _ => false
theorem op_indexS {s : ByteArray} {i : Int} (hx : eev e x = .string s) (hi : eev e y = .int .i64 i) (ht : isStrT P t = true) (h0 : 0 ≤ i) (h1 : i < (ByteArray.size s : Int)) : OpV P e w ⟨d, .index t x y, ty, ps, af, g⟩ (.int .u8 (bget s i)) := by
  unfold isStrT at ht
  split at ht
  · rename_i hu
    obtain ⟨k, rfl⟩ := Int.eq_ofNat_of_zero_le h0
    have hk : k < s.size := by omega
    have hk2 : k < s.data.size := hk
    have e1 : s[k]? = some s[k] := by simp [hk]
    have e2 : bget s (k : Int) = (s[k].toNat : Int) := by
      unfold bget
      rw [Int.toNat_natCast, Array.getElem?_eq_getElem hk2]
      rfl
    rw [e2]
    simp [OpV, execOp, hx, hi, Instr.index, asIntOf, run_underlying hu, e1]
  · cases ht
/-- make([]T, n, c). -/
theorem lm_makeCap {P : Program} {n : Nat} {w0 : World} {ρ : Type} {Q : ρ → Exit → Act → World → Prop} {m : Option ρ} {e : Env} {H : List HE} {ops : Array Oper} {rest : List Oper} {dst : Option Tmp} {ty : TypeId} {ps : String} {af : Array Edge} {g : Option (Nat × Bool)} {α : Type}
    (d : Nat) {t el sz bytes : Nat} {x y : Operand} {enc : α → List Value} (z : α) {zv : Value} {i j : Int} (hc : chk ops e n ⟨dst, .makeSlice t x y, ty, ps, af, g⟩ d true = true) (hT : rowOk P t el sz bytes = true) (hzv : zeroOf P el = some zv) (hzc : zv.cells = (enc z).toArray) (hz : ∀ x, (enc x).length = sz)
    (hx : eev e x = .int .i64 i) (hy : eev e y = .int .i64 j) (h0 : 0 ≤ i) (hij : i ≤ j) (hb : j.toNat * bytes ≤ 140737488355328) (hbp : Nat.blt 0 bytes = true)
    (next : ∀ A n' c, A ≠ none → Lm P n w0 ops Q rest m ((d, .slice A n' c) :: e) (ownE el sz enc A n' c (List.replicate i.toNat z) :: H)) : Lm P n w0 ops Q (⟨dst, .makeSlice t x y, ty, ps, af, g⟩ :: rest) m e H := fun r hr w hw => by
  obtain ⟨hu, inf, z', hi, hzz, q1, q2, q3, q4⟩ := rowOk_spec hT
  have hbp' : 0 < bytes := by simpa using hbp
  have hzv' : z' = zv := by
    unfold zeroOf at hzv
    rw [hi] at hzv
    simp [hzz] at hzv
    exact hzv
  subst hzv'
  have h63 : j.toNat ≤ 140737488355328 := Nat.le_trans (Nat.le_mul_of_pos_right _ hbp') hb
  have hb' : (inf.bytes : Int) * j ≤ 281474976710656 := by
    have h : ((inf.bytes * j.toNat : Nat) : Int) ≤ 281474976710656 := by rw [q2, Nat.mul_comm]; omega
    rw [Int.natCast_mul, Int.toNat_of_nonneg (by omega)] at h
    exact h
  have hr2 := run_make (P := P) w t el inf z' hu hi hzz .i64 .i64 i j h0 hij hb' (by omega)
  have hrun : (execOp (eev e) ⟨dst, .makeSlice t x y, ty, ps, af, g⟩).run P w = .ok (.value (.slice (some ⟨w.heap.size, 0, none⟩) i.toNat j.toNat)) (w.alloc (.cells (madeCells z'.cells (j.toNat * inf.size)) el)) := by
    simp [execOp, hx, hy, hr2]
  refine wl_run d hc hrun (next (some ⟨w.heap.size, 0, none⟩) i.toNat j.toNat (by simp) r hr _ ?_)
  have hlr : (List.replicate i.toNat z).length = i.toNat := List.length_replicate
  have hfl := made_flat (hz z) (q4) j.toNat
  refine hw.push ((Below.refl _ _).alloc (Nat.le_refl _) _) (Nat.le_refl _) ⟨hlr.symm, by rw [flat_len hz, hlr], .inr ⟨w.heap.size, j.toNat, _, rfl, Nat.zero_le _, heap_alloc_new w _, by omega, by unfold maxLen; omega, by simp [madeCells, q1], ?_⟩⟩ (fun b hb2 => ?_)
  · rw [q1, hzc, hfl, ← flat_take hz, List.take_replicate]
    congr 2
    omega
  · have e1 : b = w.heap.size := by simpa [ownE, Value.ownBlock] using hb2.symm
    subst e1
    exact ⟨Nat.le_refl _, by simp⟩
theorem ws_append {σ : Type} {P : Program} {n : Nat} {ops : Array Oper} {E : σ → Env} {HQ : σ → World → Prop} {S : World → Prop} {fuel : Nat} {listed : Array Bool} {e : Env} {w w0 : World} {H : List HE} {dst : Option Tmp} {ty : TypeId} {ps : String} {af : Array Edge} {g : Option (Nat × Bool)} {α : Type} {i : Nat}
    (d k : Nat) {s x : Operand} {t el sz bytes : Nat} {enc : α → List Value} {A A2 : Option Addr} {n1 c n2 c2 : Nat} {l l2 : List α} (hi : ops[i]? = some ⟨dst, .call ⟨.builtin .append, #[s, x], #[t, t]⟩, ty, ps, af, g⟩)
    (hc : chk ops e n ⟨dst, .call ⟨.builtin .append, #[s, x], #[t, t]⟩, ty, ps, af, g⟩ d true = true) (hT : rowOk P t el sz bytes = true) (hz : ∀ x, (enc x).length = sz) (h1 : ∀ x, (enc x).all Value.oneCell' = true) (hk : H[k]? = some (ownE el sz enc A n1 c l)) (hs : eev e s = .slice A n1 c)
    (hx : eev e x = .slice A2 n2 c2) (hA2 : SW A2 n2 c2 l2.length) (rd : RdE w sz enc A2 l2) (hlen : (l.length + l2.length) * bytes ≤ 140737488355328) (hby : Nat.blt 0 bytes = true) (hw : Hs w0 H w)
    (next : ∀ A' n' c' w', Hs w0 (H.set k (ownE el sz enc A' n' c' (l ++ l2))) w' → S w' ∧ wh P n ops E HQ S fuel (done listed i) ((d, .slice A' n' c') :: e) w') : ws P n ops E HQ S fuel listed e w i := by
  have hb : 0 < bytes := by simpa using hby
  have h63 : l.length + l2.length ≤ 9223372036854775807 := Nat.le_trans (Nat.le_mul_of_pos_right _ hb) (Nat.le_trans hlen (by decide))
  obtain ⟨A', n', c', w', hrun, hw'⟩ := run_appendE (dst := dst) (ty := ty) (ps := ps) (af := af) (g := g) k hT hz h1 hk hs hx hA2 rd hlen h63 hw
  obtain ⟨q1, q2⟩ := next A' n' c' w' hw'
  exact ws_run d hi hc hrun q1 q2
theorem wx_retCC {P : Program} {n : Nat} {e : Env} {w : World} {fn : Func} {R : Ending → World → Prop} {a t a' t' b b' : Nat} (cs cs' : List Value) (hr : fn.results = #[.cell a t, .cell a' t']) (hk : ehas e a = true) (hv : eget e a = .pointer (some ⟨b, 0, none⟩)) (hs : aggSz P t = some cs.length) (hc : ∀ j v, cs[j]? = some v → w.cell? ⟨b, 0 + j, none⟩ = some v)
    (hk' : ehas e a' = true) (hv' : eget e a' = .pointer (some ⟨b', 0, none⟩)) (hs' : aggSz P t' = some cs'.length) (hc' : ∀ j v, cs'[j]? = some v → w.cell? ⟨b', 0 + j, none⟩ = some v) (h : R (.returned (.tuple #[.agg cs.toArray, .agg cs'.toArray])) w) : wx n (bodyPost P fn R) .ret e w := fun x hf => by
  have hl := run_resultVar (P := P) (w := w) (t := t) (p := ⟨b, 0, none⟩) (cs := cs) hs fun j v hj => by
    have : (⟨b, 0, none⟩ : Addr).add j = ⟨b, 0 + j, none⟩ := by unfold Addr.add; split <;> simp_all
    rw [this]; exact hc j v hj
  have hl' := run_resultVar (P := P) (w := w) (t := t') (p := ⟨b', 0, none⟩) (cs := cs') hs' fun j v hj => by
    have : (⟨b', 0, none⟩ : Addr).add j = ⟨b', 0 + j, none⟩ := by unfold Addr.add; split <;> simp_all
    rw [this]; exact hc' j v hj
  refine bodyPost_ret (v := .tuple #[.agg cs.toArray, .agg cs'.toArray]) ?_ hf.defers h
  have h1 := hf.at_ a hk
  have h2 := hf.at_ a' hk'
  rw [hv, Array.getD_eq_getD_getElem?] at h1
  rw [hv', Array.getD_eq_getD_getElem?] at h2
  simp [results, hr, h1, h2, asAddr, hl, hl']
theorem xm_retCC {P : Program} {n : Nat} {w0 : World} {ρ : Type} {R : ρ → Ending → World → Prop} {r : ρ} {e : Env} {H : List HE} {fn : Func} {a t b a' t' b' : Nat} {cs cs' : List Value} (hr : fn.results = #[.cell a t, .cell a' t']) (hk : ehas e a = true) (hv : eget e a = .pointer (some ⟨b, 0, none⟩)) (hs : aggSz P t = some cs.length) (hc : ∀ w, Hs w0 H w → ∀ j v, cs[j]? = some v → w.cell? ⟨b, 0 + j, none⟩ = some v)
    (hk' : ehas e a' = true) (hv' : eget e a' = .pointer (some ⟨b', 0, none⟩)) (hs' : aggSz P t' = some cs'.length) (hc' : ∀ w, Hs w0 H w → ∀ j v, cs'[j]? = some v → w.cell? ⟨b', 0 + j, none⟩ = some v)
    (h : ∀ w, Hs w0 H w → R r (.returned (.tuple #[.agg cs.toArray, .agg cs'.toArray])) w) : Xm n w0 (fun r => bodyPost P fn (R r)) .ret (some r) e H := fun r' hr' w hw => by
  injection hr' with hr'; subst hr'
  exact wx_retCC cs cs' hr hk hv hs (hc w hw) hk' hv' hs' (hc' w hw) (h w hw)
/-- A way that leaves through joints and goes on behind them. -/
theorem xm_lexitM {n : Nat} {w0 : World} {ρ σ ξ : Type} {Q : ρ → Exit → Act → World → Prop} {E : σ → ξ → Env} {HH : σ → ξ → List HE} {e : Env} {H : List HE} {i : Nat} {m : Option ρ} (h : Xm n w0 Q (.exit i) m e H) : Xm n w0 (QL n w0 E HH Q) (.exit i) (Option.map Step.done m) e H := fun r hr w hw a hf => by
  cases m with
  | none => cases hr
  | some r' =>
    injection hr with hr
    subst hr
    exact ⟨by simp, h r' rfl w hw a hf⟩
theorem op_neg {a : Int} (hx : eev e x = .int .i64 a) (h : I64 (-a)) : OpV P e w ⟨d, .unOp .neg t x, ty, ps, af, g⟩ (.int .i64 (-a)) := by
  have hw : IntKind.i64.wrap (-a) = -a := IntWalk.i64_in _ h
  simp [OpV, execOp, hx, Op.unary, Op.intArith, hw]
theorem op_neqK {a b : Int} {k : IntKind} (hx : eev e x = .int k a) (hy : eev e y = .int k b) : OpV P e w ⟨d, .binOp .neq t x y t', ty, ps, af, g⟩ (.bool (decide (a ≠ b))) := by
  have : (a != b) = decide (a ≠ b) := by rw [Bool.eq_iff_iff]; simp
  simp only [OpV, execOp, hx, hy, eqGuard, binOp, Op.intCmp]
  simp [this]
theorem op_eqlK {a b : Int} {k : IntKind} (hx : eev e x = .int k a) (hy : eev e y = .int k b) : OpV P e w ⟨d, .binOp .eql t x y t', ty, ps, af, g⟩ (.bool (decide (a = b))) := by
  have : (a == b) = decide (a = b) := by rw [Bool.eq_iff_iff]; simp
  simp only [OpV, execOp, hx, hy, eqGuard, binOp, Op.intCmp]
  simp [this]
theorem op_lenS {s : ByteArray} (hx : eev e x = .string s) (ht : isStrT P t = true) : OpV P e w ⟨d, .call ⟨.builtin .len, #[x], #[t]⟩, ty, ps, af, g⟩ (.int .i64 (ByteArray.size s : Int)) := by
  unfold isStrT at ht
  split at ht
  · rename_i hu
    simp [OpV, execOp, resolve, invoke, builtin, Builtin.len_, hx, run_underlying hu, goInt]
  · cases ht
/-- '!=' on structs of ints and bools. -/
theorem op_neqFlat {cs ds : List Value} {fs : Array Field} {b : Bool} (hx : eev e x = .agg cs.toArray) (hy : eev e y = .agg ds.toArray)
    (hu : P.underlying t = some (.struct fs)) (hst : P.stoodInHeld t = false) (hgt : P.eqGuardType P.depth t = false) (hf : flatL P 0 (P.fieldsOf t).toList cs ds = true) (hb : celsEq cs ds = b) : OpV P e w ⟨d, .binOp .neq t x y t', ty, ps, af, g⟩ (.bool (!b)) := by
  have hfs : P.fieldsOf t = fs := by unfold Program.fieldsOf; rw [hu]
  have h1 : (Op.equal t (.agg cs.toArray) (.agg ds.toArray)).run P w = .ok b w := by
    unfold Op.equal Op.maxDepth
    rw [run_equalIn_struct w 9999 t _ _ (by rw [hfs]; exact hu) hst]
    have := run_eqFields_flat (P := P) (w := w) 9998 (P.fieldsOf t).toList cs ds [] [] hf rfl
    simp only [List.nil_append] at this
    rw [this, hb]
  simp only [OpV, execOp, hx, hy]
  simp [eqGuard, hgt, binOp, h1]
end
end Go.Proofs.YtpbgfdmkebnjgaaGreatDoor
