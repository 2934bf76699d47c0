/- Deco: a reading of slices whose elements hold slices. -/
import Derived.Test.YtbnimhmoffchdaaGreatDoorDRow
import Derived.Test.YtbnimhmoffchdaaGreatDoorDNest
namespace Go.Proofs.YtbnimhmoffchdaaGreatDoor
open Go.ChangeShapes Go.WideShapes Go.ChangeAt Go.RowKit Go.Deep

theorem ix_nat' {α : Type} [Inhabited α] {l : List α} {i : Nat} (h : i < l.length) : ix l (i : Int) = l[i] := by
  unfold ix
  rw [List.getD_eq_getElem?_getD, Int.toNat_natCast, List.getElem?_eq_getElem h]
  rfl
section
variable {H : Type} {enc : TypeId × Value → H} {P : Program} {w : World} {base : Nat} {spare : Nat → Bool} {held : Bool} {fuel : Nat} {t : TypeId} {cs : List Value} {x : DataW H × List MemPlace}
/-- A slice whose elements hold slices reads as a list, and where each element's slice lies. -/
theorem open_slN {α : Type} [Inhabited α] {ec : α → Hdr → List Value} {wf : α → Hdr → Prop} {e : TypeId} {k : Nat} (ht : P.underlying t = some (.slice e)) (hk : P.cellsOf e = k) (hk0 : Nat.blt 0 k = true)
    (hel : ∀ n cs y, DataW.trod enc P w base spare held n e cs = some y → ∃ a h, cs = ec a h ∧ wf a h) (h : DataW.trod enc P w base spare held fuel t cs = some x) :
    ∃ (A : Option Addr) (n c : Nat) (xs : List α) (d : Int → Hdr), cs = [.slice A n c] ∧ SW A n c xs.length ∧ RdI w k (fun i x => ec x (d i)) A xs ∧ ∀ i : Int, 0 ≤ i ∧ i < xs.length → wf (ix xs i) (d i) := by
  obtain ⟨A, n, c, xs, h1, h2, h3, h4⟩ := open_sl (ec := fun p : α × Hdr => ec p.1 p.2) (wf := fun p => wf p.1 p.2) ht hk hk0 (fun n cs y hh => by
    obtain ⟨a, h, e1, e2⟩ := hel n cs y hh
    exact ⟨(a, h), e1, e2⟩) h
  refine ⟨A, n, c, xs.map (·.1), fun i => (ix xs i).2, h1, by simpa using h2, ⟨by simpa using h3.1, fun hp => ?_⟩, fun i hi => ?_⟩
  · obtain ⟨b, off, hA, hb, hx⟩ := h3.2 (by simpa using hp)
    refine ⟨b, off, hA, hb, fun i p hp => ?_⟩
    have hil : i < xs.length := by
      have := (List.getElem?_eq_some_iff.1 hp).1
      simpa using this
    have hpe : p = (xs[i].1, i) := by
      rw [List.getElem?_zipIdx, List.getElem?_map, List.getElem?_eq_getElem hil] at hp
      simpa using hp.symm
    subst hpe
    obtain ⟨cs', hl, he, hc⟩ := hx i xs[i] (List.getElem?_eq_getElem hil)
    refine ⟨cs', hl, ?_, hc⟩
    rw [he]
    dsimp only
    rw [ix_nat' hil]
  · have hil : i.toNat < xs.length := by have := hi.2; simp at this; omega
    have e0 : i = ((i.toNat : Nat) : Int) := by omega
    have := h4 xs[i.toNat] (List.getElem_mem hil)
    rw [e0]
    dsimp only
    rw [ix_nat' hil, ix_nat' (by simpa using hil)]
    simpa using this
end
end Go.Proofs.YtbnimhmoffchdaaGreatDoor
