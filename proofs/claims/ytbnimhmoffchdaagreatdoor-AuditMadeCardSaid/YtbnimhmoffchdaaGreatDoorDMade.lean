/- Deco: a slice of one element that itself holds slices, owned by the call, handed on. -/
import Derived.Test.YtbnimhmoffchdaaGreatDoorDHeldIx
namespace Go.Proofs.YtbnimhmoffchdaaGreatDoor
open Go.RowKit
set_option linter.unusedSectionVars false
variable [JF]
theorem RdI.one {α : Type} {w : World} {sz : Nat} {f : α → List Value} {g : Int → α → List Value} {A : Option Addr} {x : α} (hg : g 0 x = f x) (h : RdE w sz f A [x]) : RdI w sz g A [x] := by
  refine ⟨by simp, fun _ => ?_⟩
  obtain ⟨b, off, hA, hb, hx⟩ := h.2 (by simp)
  refine ⟨b, off, hA, hb, fun i p hp => ?_⟩
  cases i with
  | zero =>
    simp only [List.zipIdx_cons, List.zipIdx_nil, List.getElem?_cons_zero, Option.some.injEq] at hp
    obtain ⟨cs, hl, hc, hj⟩ := hx 0 x rfl
    exact ⟨cs, hl, by rw [← hp]; exact hc.trans hg.symm, hj⟩
  | succ i => simp at hp
theorem nst_one {α : Type} [Inhabited α] {P : α → Int → Prop} {x : α} (h : ∀ i, P x i) : ∀ i : Int, 0 ≤ i ∧ i < (List.length [x] : Int) → P (ix [x] i) i := fun i hi => by
  have : i = 0 := by have := hi.2; simp at this; omega
  subst this
  exact h 0
end Go.Proofs.YtbnimhmoffchdaaGreatDoor
