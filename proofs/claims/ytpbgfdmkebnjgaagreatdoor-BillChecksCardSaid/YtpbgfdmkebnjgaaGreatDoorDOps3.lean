/- Deco, more operations: literals of rows of several elements, integers of other kinds, equality, conversions. Over any program. -/
import Derived.Test.YtpbgfdmkebnjgaaGreatDoorDHeld
namespace Go.Proofs.YtpbgfdmkebnjgaaGreatDoor
open Go.RowKit
set_option linter.unusedSectionVars false
variable [JF]

theorem putL_mid (cs pre L M : List Value) (h : L.length = cs.length) : putL (pre ++ (L ++ M)) pre.length cs = pre ++ (cs ++ M) := by
  have gen : ∀ (cs pre L : List Value), L.length = cs.length → putL (pre ++ (L ++ M)) pre.length cs = pre ++ (cs ++ M) := by
    intro cs
    induction cs with
    | nil => intro pre L hL; have : L = [] := List.eq_nil_of_length_eq_zero (by simpa using hL); subst this; rfl
    | cons c cs ih =>
      intro pre L hL
      cases L with
      | nil => simp at hL
      | cons l L =>
        unfold putL
        have h1 : (pre ++ (l :: L ++ M)).set pre.length c = (pre ++ [c]) ++ (L ++ M) := by simp
        rw [h1]
        have := ih (pre ++ [c]) L (by simpa using hL)
        simp only [List.length_append, List.length_cons, List.length_nil, Nat.zero_add] at this
        rw [this]; simp
  exact gen cs pre L h
def rowsQ {α : Type} (enc : α → List Value) (sz : Nat) : Nat → List α → List (Nat × List Value)
  | _, [] => []
  | k, v :: vs => (k * sz, enc v) :: rowsQ enc sz (k + 1) vs
theorem fillL_rows {α : Type} {enc : α → List Value} {sz : Nat} (hz : ∀ x, (enc x).length = sz) : ∀ (vs : List α) (pre L : List Value) (k : Nat), pre.length = k * sz → L.length = vs.length * sz → fillL (pre ++ L) (rowsQ enc sz k vs) = pre ++ vs.flatMap enc
  | [], pre, L, k, _, hL => by
    have : L = [] := List.eq_nil_of_length_eq_zero (by simpa using hL)
    subst this; simp [rowsQ, fillL]
  | v :: vs, pre, L, k, hp, hL => by
    have hsz : sz ≤ L.length := by rw [hL, List.length_cons, Nat.succ_mul]; omega
    have e1 : L = L.take sz ++ L.drop sz := (List.take_append_drop sz L).symm
    have h1 := putL_mid (enc v) pre (L.take sz) (L.drop sz) (by rw [hz, List.length_take]; omega)
    rw [← e1] at h1
    unfold rowsQ fillL
    rw [← hp, h1, ← List.append_assoc]
    rw [fillL_rows hz vs (pre ++ enc v) (L.drop sz) (k + 1) (by rw [List.length_append, hp, hz, Nat.succ_mul]) (by rw [List.length_drop, hL, List.length_cons, Nat.succ_mul]; omega)]
    simp
def partsOk {α : Type} (e : Env) (enc : α → List Value) : Nat → List (Nat × Operand) → List α → Prop
  | _, [], [] => True
  | k, (i, x) :: ps, v :: vs => i = k ∧ (eev e x).cells = (enc v).toArray ∧ partsOk e enc (k + 1) ps vs
  | _, _, _ => False
theorem partsOk_fill {α : Type} {e : Env} {enc : α → List Value} {sz N : Nat} (hz : ∀ x, (enc x).length = sz) : ∀ (ps : List (Nat × Operand)) (vs : List α) (k : Nat), partsOk e enc k ps vs → k + vs.length ≤ N → fillOk ((List.range N).map fun i => (i * sz, sz)) (N * sz) (ps.map fun p => (p.1, eev e p.2)) (rowsQ enc sz k vs)
  | [], [], _, _, _ => trivial
  | (i, x) :: ps, v :: vs, k, h, hN => by
    obtain ⟨rfl, h2, h3⟩ := h
    simp only [List.length_cons] at hN
    refine ⟨?_, h2, ?_, partsOk_fill hz ps vs (i + 1) h3 (by omega)⟩
    · rw [hz, List.getElem?_map, List.getElem?_range (by omega)]; rfl
    · rw [hz, ← Nat.succ_mul]; exact Nat.mul_le_mul_right _ (by omega)
  | [], _ :: _, _, h, _ => by cases h
  | _ :: _, [], _, h, _ => by cases h
section
variable {P : Program} {w0 w : World} {e : Env} {H H' : List HE} {dst : Option Tmp} {ty : TypeId} {ps : String} {af : Array Edge} {g : Option (Nat × Bool)} {α : Type}
theorem rn_sliceN {t el sz bytes N : Nat} {parts : List (Nat × Operand)} {enc : α → List Value} (vs : List α) (hT : rowOk P t el sz bytes = true) (hz : ∀ x, (enc x).length = sz) (hN : N = vs.length) (hp : partsOk e enc 0 parts vs) (hs : Nat.ble (N * sz) 16777216 = true) (h0 : Nat.blt 0 N = true) (hw : Hs w0 H w) :
    ∃ A n' c w', A ≠ none ∧ (execOp (eev e) ⟨dst, .buildSlice t N parts.toArray, ty, ps, af, g⟩).run P w = .ok (.value (.slice A n' c)) w' ∧ Hs w0 (ownE el sz enc A n' c vs :: H) w' := by
  subst hN
  obtain ⟨hu, i, z, hi, hzz, h1, h2, h3, h4⟩ := rowOk_spec hT
  have hs' : ¬ 2 ^ 24 < vs.length * sz := by have := Nat.le_of_ble_eq_true hs; omega
  have hN0 : 0 < vs.length := by simpa using h0
  have hne : ¬ vs.length * sz = 0 := Nat.ne_of_gt (Nat.mul_pos hN0 h4)
  have hfill : Instr.fill (fun i => some (i * sz, sz)) ((Array.range (vs.length * sz)).map (z.cells[· % z.cells.size]!)) (parts.map fun p => (p.1, eev e p.2)) = some (vs.flatMap enc).toArray := by
    have e0 : (Array.range (vs.length * sz)).map (z.cells[· % z.cells.size]!) = (((Array.range (vs.length * sz)).map (z.cells[· % z.cells.size]!)).toList).toArray := by rw [Array.toArray_toList]
    rw [e0]
    generalize hL : ((Array.range (vs.length * sz)).map (z.cells[· % z.cells.size]!)).toList = L
    have hLl : L.length = vs.length * sz := by rw [← hL]; simp
    have := fill_fillL (fun i => some (i * sz, sz)) ((List.range vs.length).map fun i => (i * sz, sz)) (fun i p hp => by
      rw [List.getElem?_map] at hp
      cases hq : (List.range vs.length)[i]? with
      | none => rw [hq] at hp; cases hp
      | some q =>
        rw [hq] at hp
        obtain ⟨hl, rfl⟩ := List.getElem?_eq_some_iff.1 hq
        simp at hp ⊢; exact hp) (parts.map fun p => (p.1, eev e p.2)) (rowsQ enc sz 0 vs) L (by rw [hLl]; exact partsOk_fill hz parts vs 0 hp (by omega))
    rw [this]
    have hf := fillL_rows hz vs [] L 0 (by simp) hLl
    simp only [List.nil_append] at hf
    rw [hf]
  refine ⟨some ⟨w.heap.size, 0, none⟩, vs.length, vs.length, w.alloc (.cells (vs.flatMap enc).toArray el), by simp, ?_, ?_⟩
  · simp only [execOp, Instr.buildSlice]
    simp only [Sem.run_bind, run_underlying hu, sizeOf, typeInfo]
    simp [hi, h1, hs', hne, zeroValue, typeInfo, hzz]
    simp [hfill, newRow]
  · refine hw.push ((Below.refl _ _).alloc (Nat.le_refl _) _) (Nat.le_refl _) ?_ (fun b hb => ?_)
    · have hfl := flat_len hz vs
      refine ⟨rfl, hfl, .inr ⟨w.heap.size, vs.length, (vs.flatMap enc).toArray, rfl, Nat.zero_le _, heap_alloc_new w _, Nat.le_refl _, ?_, by simpa using hfl, ?_⟩⟩
      · have := Nat.le_mul_of_pos_right vs.length h4
        unfold maxLen; omega
      · simp only; rw [← hfl]; exact List.take_length
    · have e1 : b = w.heap.size := by simpa [ownE, Value.ownBlock] using hb.symm
      subst e1; exact ⟨Nat.le_refl _, by simp⟩
end
section
variable {P : Program} {n : Nat} {w0 : World} {ρ : Type} {Q : ρ → Exit → Act → World → Prop} {m : Option ρ} {e : Env} {H : List HE} {ops : Array Oper} {rest : List Oper} {dst : Option Tmp} {ty : TypeId} {ps : String} {af : Array Edge} {g : Option (Nat × Bool)} {α : Type}
theorem lm_sliceN (d : Nat) {t el sz bytes N : Nat} {parts : List (Nat × Operand)} {enc : α → List Value} (vs : List α) (hc : chk ops e n ⟨dst, .buildSlice t N parts.toArray, ty, ps, af, g⟩ d true = true) (hT : rowOk P t el sz bytes = true) (hz : ∀ x, (enc x).length = sz) (hN : N = vs.length) (hp : partsOk e enc 0 parts vs) (hs : Nat.ble (N * sz) 16777216 = true) (h0 : Nat.blt 0 N = true)
    (next : ∀ A n' c, A ≠ none → Lm P n w0 ops Q rest m ((d, .slice A n' c) :: e) (ownE el sz enc A n' c vs :: H)) : Lm P n w0 ops Q (⟨dst, .buildSlice t N parts.toArray, ty, ps, af, g⟩ :: rest) m e H := fun r hr w hw => by
  obtain ⟨A, n', c, w', hA, hrun, hw'⟩ := rn_sliceN (dst := dst) (ty := ty) (ps := ps) (af := af) (g := g) vs hT hz hN hp hs h0 hw
  exact wl_run d hc hrun (next A n' c hA r hr w' hw')
/-- A call of a function value. -/
theorem lm_callv (d : Nat) {α' ξ : Type} {f : FuncId} {args : Array Value} {mf : Option α'} {k : α' → Option ρ} {V : α' → ξ → Value} {HR : α' → ξ → List HE} {o : Oper} (hc : chk ops e n o d true = true)
    (hv : ∀ w, (execOp (eev e) o).run P w = .ok (.enter f args) w)
    (hR : ∀ r, mf = some r → ∀ w, Hs w0 H w → Calls P f args w fun x w' => ∃ u, x = .returned (V r u) ∧ Hs w (HR r u) w')
    (next : ∀ r u, Lm P n w0 ops Q rest (k r) ((d, V r u) :: e) (HR r u ++ H)) : Lm P n w0 ops Q (o :: rest) (mf.bind k) e H := lm_call d hc hv hR next
end
section
variable {σ : Type} {P : Program} {n : Nat} {ops : Array Oper} {E : σ → Env} {HQ : σ → World → Prop} {S : World → Prop} {fuel : Nat} {listed : Array Bool} {e : Env} {w w0 : World} {H : List HE} {dst : Option Tmp} {ty : TypeId} {ps : String} {af : Array Edge} {g : Option (Nat × Bool)} {α : Type}
theorem ws_sliceN {i : Nat} (d : Nat) {t el sz bytes N : Nat} {parts : List (Nat × Operand)} {enc : α → List Value} (vs : List α) (hi : ops[i]? = some ⟨dst, .buildSlice t N parts.toArray, ty, ps, af, g⟩) (hc : chk ops e n ⟨dst, .buildSlice t N parts.toArray, ty, ps, af, g⟩ d true = true) (hT : rowOk P t el sz bytes = true) (hz : ∀ x, (enc x).length = sz) (hN : N = vs.length) (hp : partsOk e enc 0 parts vs) (hs : Nat.ble (N * sz) 16777216 = true) (h0 : Nat.blt 0 N = true) (hw : Hs w0 H w)
    (next : ∀ A n' c w', Hs w0 (ownE el sz enc A n' c vs :: H) w' → S w' ∧ wh P n ops E HQ S fuel (done listed i) ((d, .slice A n' c) :: e) w') : ws P n ops E HQ S fuel listed e w i := by
  obtain ⟨A, n', c, w', hA, hrun, hw'⟩ := rn_sliceN (dst := dst) (ty := ty) (ps := ps) (af := af) (g := g) vs hT hz hN hp hs h0 hw
  obtain ⟨h1, h2⟩ := next A n' c w' hw'
  exact ws_run d hi hc hrun h1 h2
end
end Go.Proofs.YtpbgfdmkebnjgaaGreatDoor
