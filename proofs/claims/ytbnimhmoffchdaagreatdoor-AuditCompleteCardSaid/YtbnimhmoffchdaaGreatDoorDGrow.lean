/- Deco: slices of slices as they are handed on; slices.Grow of a nil slice. -/
import Derived.Test.YtbnimhmoffchdaaGreatDoorDN
import Derived.Test.YtbnimhmoffchdaaGreatDoorSq2
namespace Go.Proofs.YtbnimhmoffchdaaGreatDoor
open Go.RowKit
set_option linter.unusedSectionVars false
variable [JF]

def encHdr (h : Hdr) : List Value := [.slice h.1 h.2.1 h.2.2]
theorem RdI.hdrs {β : Type} {w : World} {A : Option Addr} {hs : List Hdr} {ls : List β} (hl : hs.length = ls.length) (h : RdE w 1 encHdr A hs) : RdI w 1 (fun (i : Int) (_ : β) => encHdr (ix hs i)) A ls := by
 refine ⟨by rw [List.length_zipIdx, ← hl]; exact h.1, fun hp => ?_⟩
 rw [List.length_zipIdx, ← hl] at hp
 obtain ⟨b, off, hA, hb, hx⟩ := h.2 hp
 refine ⟨b, off, hA, hb, fun i p hi => ?_⟩
 rw [List.getElem?_zipIdx] at hi
 have hil : i < ls.length := by
  cases hq : ls[i]? with
  | none => rw [hq] at hi; cases hi
  | some y => exact (List.getElem?_eq_some_iff.1 hq).1
 have hih : i < hs.length := by omega
 have hp2 : p.2 = i := by
  rw [List.getElem?_eq_getElem hil] at hi
  simp at hi
  rw [← hi]
 obtain ⟨cs, h1, h2, h3⟩ := hx i _ (List.getElem?_eq_getElem hih)
 refine ⟨cs, h1, ?_, h3⟩
 rw [h2]
 dsimp only
 rw [hp2]
 unfold ix
 rw [Int.toNat_natCast, List.getD_eq_getElem?_getD, List.getElem?_eq_getElem hih]
 rfl
def all2 {α β : Type} (P : α → β → Prop) : List α → List β → Prop
 | [], [] => True
 | a :: xs, b :: ys => P a b ∧ all2 P xs ys
 | _, _ => False
theorem all2_ix {α β : Type} [Inhabited α] [Inhabited β] {P : α → β → Prop} : ∀ {xs : List α} {ys : List β}, all2 P xs ys → ∀ i : Nat, i < ys.length → P (ix xs (i : Int)) (ix ys (i : Int))
 | [], [], _, i, hi => absurd hi (Nat.not_lt_zero _)
 | a :: xs, b :: ys, h, 0, _ => h.1
 | a :: xs, b :: ys, h, i + 1, hi => by
  have := all2_ix h.2 i (by simpa using hi)
  have e1 : ∀ {γ : Type} [Inhabited γ] (x : γ) (l : List γ), ix (x :: l) ((i + 1 : Nat) : Int) = ix l (i : Int) := fun x l => by unfold ix; rw [Int.toNat_natCast, Int.toNat_natCast]; rfl
  rw [e1, e1]
  exact this
 | [], _ :: _, h, _, _ => h.elim
 | _ :: _, [], h, _, _ => h.elim
theorem nst_all {α β : Type} [Inhabited α] [Inhabited β] {P : α → β → Prop} {xs : List α} {ys : List β} (h : all2 P xs ys) : ∀ i : Int, 0 ≤ i ∧ i < (List.length ys : Int) → P (ix xs i) (ix ys i) := fun i hi => by
 obtain ⟨k, rfl⟩ := Int.eq_ofNat_of_zero_le hi.1
 exact all2_ix h k (by omega)
section
variable {P : Program} {n : Nat} {w0 : World} {ρ : Type} {Z : ρ → Exit → Act → World → Prop} {m : Option ρ} {e : Env} {H : List HE} {ops : Array Oper} {rest : List Oper} {dst : Option Tmp} {ty : TypeId} {ps : String} {af : Array Edge} {g : Option (Nat × Bool)} {α : Type}
theorem lm_grow (d : Nat) {el sz : Nat} {enc : α → List Value} {o : Oper} {f : FuncId} {args : Array Value} (hc : chk ops e n o d true = true) (hv : ∀ w, (execOp (eev e) o).run P w = .ok (.enter f args) w)
  (hR : ∀ w, Calls P f args w fun x w' => ∃ u : Option Addr × Nat, x = .returned (.slice u.1 0 u.2) ∧ Hs w [ownE el sz enc u.1 0 u.2 ([] : List α)] w') (next : ∀ A c, Lm P n w0 ops Z rest m ((d, .slice A 0 c) :: e) (ownE el sz enc A 0 c ([] : List α) :: H)) : Lm P n w0 ops Z (o :: rest) m e H := fun r hr w hw =>
 wl_call d hc (hv w) (hR w) fun _ w' ⟨u, hx, hh⟩ => ⟨_, hx, next u.1 u.2 r hr w' (hw.call hh)⟩
theorem op_cap {w : World} {t : TypeId} {x : Operand} {A : Option Addr} {l c : Nat} (hx : eev e x = .slice A l c) (ht : isSliceT P t = true) : OpV P e w ⟨dst, .call ⟨.builtin .cap, #[x], #[t]⟩, ty, ps, af, g⟩ (.int .i64 c) := by
 unfold isSliceT at ht
 split at ht
 ·rename_i E hu
  simp [OpV, execOp, resolve, invoke, builtin, Builtin.cap_, hx, run_underlying hu, goInt]
 ·cases ht
theorem zeroCells_size (z : Array Value) (k : Nat) : (Builtin.zeroCells z k).size = k * z.size := by simp [Builtin.zeroCells]
/-- append of so many zeros to a nil slice. -/
theorem lm_appendZ (d : Nat) {t ti el sz bytes : Nat} {enc : α → List Value} {s x : Operand} {i : Int} (hc : chk ops e n ⟨dst, .call ⟨.builtin .append, #[s, x], #[t, ti]⟩, ty, ps, af, g⟩ d true = true) (hT : rowOk P t el sz bytes = true) (hti : P.underlying ti = some (.int .i64)) (hs : eev e s = .slice none 0 0) (hx : eev e x = .int .i64 i) (h0 : 0 < i) (hb : i * bytes ≤ 140737488355328) (hbp : Nat.blt 0 bytes = true)
  (next : ∀ b c, Lm P n w0 ops Z rest m ((d, .slice (some ⟨b, 0, none⟩) i.toNat c) :: e) (ownE el sz enc (some ⟨b, 0, none⟩) 0 c ([] : List α) :: H)) : Lm P n w0 ops Z (⟨dst, .call ⟨.builtin .append, #[s, x], #[t, ti]⟩, ty, ps, af, g⟩ :: rest) m e H := fun r hr w hw => by
 obtain ⟨hu, inf, z, hi, hzz, q1, q2, q3, q4⟩ := rowOk_spec hT
 have hbp' : 0 < bytes := by simpa using hbp
 obtain ⟨k, rfl⟩ := Int.eq_ofNat_of_zero_le (Int.le_of_lt h0)
 have hk : 0 < k := by omega
 have hbk : k * bytes ≤ 140737488355328 := by
  have : ((k * bytes : Nat) : Int) ≤ 140737488355328 := by rw [Int.natCast_mul]; exact hb
  omega
 have hk48 : k ≤ 140737488355328 := Nat.le_trans (Nat.le_mul_of_pos_right _ hbp') hbk
 have hrun : (execOp (eev e) ⟨dst, .call ⟨.builtin .append, #[s, x], #[t, ti]⟩, ty, ps, af, g⟩).run P w = .ok (.value (.slice (some ⟨w.heap.size, 0, none⟩) k (grownCap w k 0 el))) (w.drew.alloc (.cells (Builtin.zeroCells z.cells k ++ Builtin.zeroCells z.cells (grownCap w k 0 el - k)) el)) := by
  have h63 : ¬ (9223372036854775807 < (k : Int)) := by omega
  have hneg : ¬ ((k : Int) < 0) := by omega
  have hwr : IntKind.i64.wrap (k : Int) = (k : Int) := IntWalk.i64_in _ (by omega)
  have hbi : ¬ (281474976710656 < (k : Int) * (inf.bytes : Int)) := by rw [q2]; omega
  have hn0 : ¬ (k * inf.size = 0) := by
   rw [q1]; intro h; rcases Nat.mul_eq_zero.1 h with h | h <;> omega
  have hnk : ¬ k = 0 := by omega
  have hfit : ¬ (281474976710656 < Builtin.nextslicecap k 0 * inf.bytes) := by
   have : Builtin.nextslicecap k 0 = k := by unfold Builtin.nextslicecap; rw [if_pos (by omega)]
   rw [this, q2]; omega
  simp [execOp, resolve, invoke, builtin, Builtin.append_, hs, hx, run_underlying hu, run_underlying hti, sizeOf, typeInfo, hi, asInt, asIntOf, hwr, hneg, hbi, zeroValue, hzz, hnk, h63, hfit, Question.forced, newRow, grownCap, Builtin.firstCells, hn0]
 have hc0 := grownCap_ge w k 0 el
 refine wl_run d hc hrun (next w.heap.size (grownCap w k 0 el) r hr _ ?_)
 refine hw.push (((Below.refl _ w).drew).alloc (Nat.le_refl _) _) (Nat.le_succ _) ⟨rfl, (Nat.zero_mul _).symm, .inr ⟨w.heap.size, grownCap w k 0 el, _, rfl, Nat.zero_le _, heap_alloc_new w.drew _, Nat.zero_le _, grownCap_le_maxLen w k 0 el (by unfold maxLen; omega), ?_, by simp⟩⟩ (fun b hb2 => ?_)
 ·rw [Array.size_append, zeroCells_size, zeroCells_size, q3, ← Nat.add_mul]
  congr 1
  omega
 ·have e1 : b = w.heap.size := by simpa [ownE, Value.ownBlock] using hb2.symm
  subst e1
  exact ⟨Nat.le_refl _, by simp⟩
end
end Go.Proofs.YtbnimhmoffchdaaGreatDoor
