/- Deco: slices cut to their own capacity ('x[:k:k]'), and what is appended to them: always a new row. Over any program. -/
import Derived.Test.YtpbgfdmkebnjgaaGreatDoorDFrame
namespace Go.Proofs.YtpbgfdmkebnjgaaGreatDoor
open Go.RowKit
set_option linter.unusedSectionVars false
variable [JF]

section
variable {α : Type}
theorem RdE.take3 {w : World} {sz : Nat} {enc : α → List Value} {A : Option Addr} {l : List α} {i : Int} (h : RdE w sz enc A l) (h0 : 0 ≤ i) (h1 : i ≤ l.length) : RdE w sz enc A (l.take i.toNat) := h.take h0 h1
theorem SW.take3 {A : Option Addr} {n c : Nat} {l : List α} {i : Int} (h : SW A n c l.length) (h0 : 0 ≤ i) (h1 : i ≤ l.length) : SW A i.toNat i.toNat (l.take i.toNat).length := by
  obtain ⟨a1, a2, a3⟩ := h
  exact ⟨fun hA => by have := a1 hA; omega, Nat.le_refl _, by simp; omega⟩
end
section
variable {P : Program} {e : Env} {w w0 : World} {d : Option Tmp} {ty : TypeId} {ps : String} {af : Array Edge} {g : Option (Nat × Bool)} {α : Type} {H : List HE}
theorem op_slice3 {t : TypeId} {x hi mx : Operand} {A : Option Addr} {n c : Nat} {l : List α} {i : Int} (hx : eev e x = .slice A n c) (hh : eev e hi = .int .i64 i) (hm : eev e mx = .int .i64 i) (ht : isSliceT P t = true) (hs : (elemSz P t).isSome = true) (hA : 0 < n → A = some ⟨ab A, ao A, none⟩) (hw : SW A n c l.length) (h0 : 0 ≤ i) (h1 : i ≤ l.length) :
    OpV P e w ⟨d, .slice t x none (some hi) (some mx), ty, ps, af, g⟩ (.slice A i.toNat i.toNat) := by
  obtain ⟨a1, a2, a3⟩ := hw
  obtain ⟨k, rfl⟩ := Int.eq_ofNat_of_zero_le h0
  unfold isSliceT at ht
  split at ht
  · rename_i E hu
    cases hE : P.info? E with
    | none => rw [elemSz, hu] at hs; simp [hE] at hs
    | some inf =>
      have hkc : k ≤ c := by omega
      simp only [OpV, execOp, Instr.sliceAt, hx, Option.map_some, Option.map_none, hh, hm]
      simp [run_underlying hu, Instr.slice, Instr.sliceBounds, Instr.sliceBound, asIntOf, hkc, sizeOf, typeInfo, hE]
      intro hk
      have := hA (by omega)
      rw [this]
      simp [add_lit]
  · cases ht
theorem RdE.some_ {sz : Nat} {enc : α → List Value} {A : Option Addr} {l : List α} {n c : Nat} (h : RdE w sz enc A l) (hz : SW A n c l.length) : 0 < n → A = some ⟨ab A, ao A, none⟩ := fun hp => by
  obtain ⟨b, off, rfl, _⟩ := h.2 (by have := hz.2.2; omega)
  rfl
end
section
variable {P : Program} {n : Nat} {w0 : World} {ρ : Type} {Q : ρ → Exit → Act → World → Prop} {m : Option ρ} {e : Env} {H H' : List HE} {ops : Array Oper} {rest : List Oper} {α : Type}
variable {dst : Option Tmp} {ty : TypeId} {ps : String} {af : Array Edge} {g : Option (Nat × Bool)}
theorem new_row {w : World} {el sz : Nat} {enc : α → List Value} {k cap : Nat} {l : List α} {z : Value} (hz : ∀ x, (enc x).length = sz) (hzs : z.cells.size = sz) (hk : k = l.length) (hge : k ≤ cap) (hcm : cap ≤ maxLen) (hw : Hs w0 H w) :
    Hs w0 (ownE el sz enc (some ⟨w.heap.size, 0, none⟩) k cap l :: H) (w.drew.alloc (.cells ((l.flatMap enc).toArray ++ Builtin.zeroCells z.cells (cap - k)) el)) := by
  have hfl := flat_len hz l
  refine hw.drew.push ((Below.refl _ _).alloc (Nat.le_refl _) _) (Nat.le_refl _) ⟨hk, by rw [hfl, hk], .inr ⟨w.heap.size, cap, _, rfl, Nat.zero_le _, heap_alloc_new w.drew _, hge, hcm, ?_, ?_⟩⟩ (fun b hb => ?_)
  · simp only [Array.size_append, List.size_toArray, size_zeroCells, hzs, hfl, ← hk, ← Nat.add_mul]
    congr 1
    omega
  · have : k * sz = (l.flatMap enc).length := by rw [hfl, hk]
    rw [this]
    simp
  · have e1 : b = w.heap.size := by simpa [ownE, Value.ownBlock] using hb.symm
    subst e1
    exact ⟨Nat.le_refl _, by simp⟩
theorem rn_appendF {w : World} {s x : Operand} {t el sz bytes : Nat} {enc : α → List Value} {A A2 : Option Addr} {n1 n2 c2 : Nat} {l l2 : List α} (hT : rowOk P t el sz bytes = true) (hz : ∀ x, (enc x).length = sz)
    (hs : eev e s = .slice A n1 n1) (hA1 : SW A n1 n1 l.length) (rd1 : RdE w sz enc A l) (hx : eev e x = .slice A2 n2 c2) (hA2 : SW A2 n2 c2 l2.length) (rd : RdE w sz enc A2 l2) (hp : 0 < l2.length) (hlen : (l.length + l2.length) * bytes ≤ 140737488355328) (hl63 : l.length + l2.length ≤ 9223372036854775807) (hw : Hs w0 H w) :
    ∃ A' n' c' w', (execOp (eev e) ⟨dst, .call ⟨.builtin .append, #[s, x], #[t, t]⟩, ty, ps, af, g⟩).run P w = .ok (.value (.slice A' n' c')) w' ∧ Hs w0 (ownE el sz enc A' n' c' (l ++ l2) :: H) w' := by
  obtain ⟨hu, i, z, hi, hzz, q1, q2, q3, q4⟩ := rowOk_spec hT
  obtain ⟨_, _, hn1⟩ := hA1
  obtain ⟨_, _, hn2⟩ := hA2
  subst hn1 hn2
  obtain ⟨b2, o2, rfl, _⟩ := rd.2 hp
  have hc2 := rd.flat hz
  subst q1 q2
  have hge := grownCap_ge w (l.length + l2.length) l.length el
  have hcm : grownCap w (l.length + l2.length) l.length el ≤ maxLen := grownCap_le_maxLen w (l.length + l2.length) l.length el (by unfold maxLen; exact hl63)
  cases A with
  | none =>
    have h2 : l = [] := by
      cases l with
      | nil => rfl
      | cons y ys => obtain ⟨b, off, e1, _⟩ := rd1.2 (by simp); cases e1
    subst h2
    simp only [List.length_nil, Nat.zero_add, List.nil_append] at hs hlen hl63 hge hcm ⊢
    have hr := run_append_nil (P := P) w t ty el i z hu hi hzz ⟨b2, o2, none⟩ l2.length c2 (l2.flatMap enc) (flat_len hz l2) hc2 hp (by omega) (by omega)
    refine ⟨_, _, _, _, ?_, new_row hz q3 rfl hge hcm hw⟩
    simp only [execOp, resolve, invoke, builtin, Sem.run_bind, Sem.run_pure, Result.andThen_ok, List.map_toArray, List.map_cons, List.map_nil, hs, hx, hr]
  | some ad =>
    have hr := run_append_grow (P := P) w t ty el i z hu hi hzz ad l.length l.length (l.flatMap enc) (flat_len hz l) (rd1.flat hz) ⟨b2, o2, none⟩ l2.length c2 (l2.flatMap enc) (flat_len hz l2) hc2 (by omega) (by omega) (growslice_fits (by omega) hlen)
    have hnew := new_row (el := el) (l := l ++ l2) hz q3 (List.length_append).symm hge hcm hw
    refine ⟨_, _, _, _, ?_, hnew⟩
    simp only [execOp, resolve, invoke, builtin, Sem.run_bind, Sem.run_pure, Result.andThen_ok, List.map_toArray, List.map_cons, List.map_nil, hs, hx, hr]
    simp [List.flatMap_append]
theorem lm_appendF (d : Nat) {s x : Operand} {t el sz bytes : Nat} {enc : α → List Value} {A A2 : Option Addr} {n1 n2 c2 : Nat} {l l2 : List α}
    (hc : chk ops e n ⟨dst, .call ⟨.builtin .append, #[s, x], #[t, t]⟩, ty, ps, af, g⟩ d true = true) (hT : rowOk P t el sz bytes = true) (hz : ∀ x, (enc x).length = sz) (hs : eev e s = .slice A n1 n1) (hA1 : ∀ w, Hs w0 H w → SW A n1 n1 l.length) (rd1 : ∀ w, Hs w0 H w → RdE w sz enc A l)
    (hx : eev e x = .slice A2 n2 c2) (hA2 : ∀ w, Hs w0 H w → SW A2 n2 c2 l2.length) (rd : ∀ w, Hs w0 H w → RdE w sz enc A2 l2) (hp : 0 < l2.length) (hlen : (l.length + l2.length) * bytes ≤ 140737488355328) (hby : Nat.blt 0 bytes = true)
    (next : ∀ A' n' c', Lm P n w0 ops Q rest m ((d, .slice A' n' c') :: e) (ownE el sz enc A' n' c' (l ++ l2) :: H)) :
    Lm P n w0 ops Q (⟨dst, .call ⟨.builtin .append, #[s, x], #[t, t]⟩, ty, ps, af, g⟩ :: rest) m e H := fun r hr w hw => by
  have hb : 0 < bytes := by simpa using hby
  have h63 : l.length + l2.length ≤ 9223372036854775807 := Nat.le_trans (Nat.le_mul_of_pos_right _ hb) (Nat.le_trans hlen (by decide))
  obtain ⟨A', n', c', w', hrun, hw'⟩ := rn_appendF (dst := dst) (ty := ty) (ps := ps) (af := af) (g := g) hT hz hs (hA1 w hw) (rd1 w hw) hx (hA2 w hw) (rd w hw) hp hlen h63 hw
  exact wl_run d hc hrun (next A' n' c' r hr w' hw')
end
end Go.Proofs.YtpbgfdmkebnjgaaGreatDoor
