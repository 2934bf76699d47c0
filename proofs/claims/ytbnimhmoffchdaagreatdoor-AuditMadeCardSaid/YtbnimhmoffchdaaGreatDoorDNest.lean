/- Deco: slices, in memory that was there, of elements that hold slices themselves. -/
import Derived.Test.YtbnimhmoffchdaaGreatDoorKC
namespace Go.Proofs.YtbnimhmoffchdaaGreatDoor
open Go.RowKit
set_option linter.unusedSectionVars false
variable [JF]

/-- Where a slice lies: its address, its length, its capacity. -/
abbrev Hdr := Option Addr × Nat × Nat
instance : Inhabited Hdr := ⟨(none, 0, 0)⟩
/-- The elements' cells may hang on the place. -/
def RdI {α : Type} (w : World) (sz : Nat) (enc : Int → α → List Value) (A : Option Addr) (l : List α) : Prop := RdE w sz (fun p : α × Nat => enc (p.2 : Int) p.1) A l.zipIdx
section
variable {α : Type} {w w0 : World} {sz : Nat} {enc : Int → α → List Value} {A : Option Addr} {l : List α} {H : List HE}
theorem ix_zipIdx [Inhabited α] {i : Int} (h0 : 0 ≤ i) (h1 : i < l.length) : ix l.zipIdx i = (ix l i, i.toNat) := by
  have hl : i.toNat < l.length := by omega
  have hz : i.toNat < l.zipIdx.length := by rw [List.length_zipIdx]; exact hl
  unfold ix
  rw [List.getD_eq_getElem?_getD, List.getElem?_eq_getElem hz, List.getD_eq_getElem?_getD, List.getElem?_eq_getElem hl]
  simp
theorem RdI.len1 {i : Int} (h1 : i < l.length) : i < l.zipIdx.length := by rw [List.length_zipIdx]; exact h1
theorem RdI.addr (h : RdI w sz enc A l) {i : Int} (h0 : 0 ≤ i) (h1 : i < l.length) : A = some ⟨ab A, ao A, none⟩ := RdE.addr h h0 (RdI.len1 h1)
theorem RdI.nil : RdI w sz enc A ([] : List α) := RdE.nil
theorem RdI.old (h : RdI w0 sz enc A l) (hs : Hs w0 H w) : RdI w sz enc A l := RdE.old h hs
theorem RdI.row [Inhabited α] (h : RdI w sz enc A l) {i : Int} (h0 : 0 ≤ i) (h1 : i < l.length) : ∀ j u, (enc i (ix l i))[j]? = some u → w.cell? ⟨ab A, ao A + i.toNat * sz + j, none⟩ = some u := fun j u hu => by
  refine RdE.row h h0 (RdI.len1 h1) j u ?_
  rw [ix_zipIdx h0 h1]
  simp only
  rwa [Int.toNat_of_nonneg h0]
theorem RdI.cell [Inhabited α] (h : RdI w sz enc A l) {i : Int} (h0 : 0 ≤ i) (h1 : i < l.length) {j : Nat} {u : Value} (hu : (enc i (ix l i))[j]? = some u) : w.cell? ⟨ab A, ao A + i.toNat * sz + j, none⟩ = some u := h.row h0 h1 j u hu
theorem RdI.cell0 [Inhabited α] (h : RdI w sz enc A l) {i : Int} (h0 : 0 ≤ i) (h1 : i < l.length) {u : Value} (hu : (enc i (ix l i))[0]? = some u) : w.cell? ⟨ab A, ao A + i.toNat * sz, none⟩ = some u := h.row h0 h1 0 u hu
theorem RdI.part [Inhabited α] (h : RdI w sz enc A l) {i : Int} (h0 : 0 ≤ i) (h1 : i < l.length) {o : Nat} {ds : List Value} (hd : ((enc i (ix l i)).drop o).take ds.length = ds) : ∀ j v, ds[j]? = some v → w.cell? ⟨ab A, ao A + i.toNat * sz + o + j, none⟩ = some v := by
  refine RdE.part h h0 (RdI.len1 h1) ?_
  rw [ix_zipIdx h0 h1]
  simp only
  rwa [Int.toNat_of_nonneg h0]
theorem zipIdx_take (l : List α) (k : Nat) : (l.take k).zipIdx = l.zipIdx.take k := by
  apply List.ext_getElem?
  intro i
  rw [List.getElem?_zipIdx, List.getElem?_take, List.getElem?_take, List.getElem?_zipIdx]
  split <;> simp
theorem RdI.take (h : RdI w sz enc A l) {i : Int} (h0 : 0 ≤ i) (h1 : i ≤ l.length) : RdI w sz enc A (l.take i.toNat) := by
  unfold RdI
  rw [zipIdx_take]
  exact RdE.take h h0 (by rw [List.length_zipIdx]; exact h1)
theorem ix_take [Inhabited α] {k : Nat} {i : Int} (h0 : 0 ≤ i) (h1 : i < (l.take k).length) : ix (l.take k) i = ix l i := by
  have h2 := List.length_take (i := k) (l := l)
  have a1 : i.toNat < (l.take k).length := by omega
  have a2 : i.toNat < l.length := by omega
  unfold ix
  rw [List.getD_eq_getElem?_getD, List.getElem?_eq_getElem a1, List.getD_eq_getElem?_getD, List.getElem?_eq_getElem a2]
  simp
/-- What holds of all elements holds of the first ones. -/
theorem nst_take [Inhabited α] (P : α → Int → Prop) (h : ∀ i : Int, 0 ≤ i ∧ i < l.length → P (ix l i) i) {k : Int} : ∀ i : Int, 0 ≤ i ∧ i < (l.take k.toNat).length → P (ix (l.take k.toNat) i) i := fun i hi => by
  have h2 := List.length_take (i := k.toNat) (l := l)
  rw [ix_take hi.1 hi.2]
  exact h i ⟨hi.1, by omega⟩
end
section
variable {P : Program} {e : Env} {w : World} {d : Option Tmp} {ty : TypeId} {ps : String} {af : Array Edge} {g : Option (Nat × Bool)}
theorem op_nilCheck {x : Operand} {p : Addr} (hx : eev e x = .pointer (some p)) : OpV P e w ⟨d, .nilCheck x, ty, ps, af, g⟩ (.pointer (some p)) := by simp [OpV, execOp, hx]
end
end Go.Proofs.YtbnimhmoffchdaaGreatDoor
