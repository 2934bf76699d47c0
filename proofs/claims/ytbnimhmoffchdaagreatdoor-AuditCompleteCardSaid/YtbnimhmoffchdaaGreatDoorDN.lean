/- Deco: slices, in memory that was there, of elements that hold slices themselves. -/
import Derived.Test.YtbnimhmoffchdaaGreatDoorKC
import Derived.Lib.SliceRun
namespace Go.Proofs.YtbnimhmoffchdaaGreatDoor
open Go.RowKit
set_option linter.unusedSectionVars false
variable [JF]

/-- Where a slice lies: its address, its length, its capacity. -/
abbrev Hdr := Option Addr × Nat × Nat
instance : Inhabited Hdr := ⟨(none, 0, 0)⟩
/-- The elements' cells may hang on the place. -/
def RdI {α : Type} (w : World) (sz : Nat) (enc : Int → α → List Value) (A : Option Addr) (l : List α) : Prop := RdE w sz (fun p : α × Nat => enc (p.2 : Int) p.1) A l.zipIdx
section
variable {α : Type} {w w0 : World} {sz : Nat} {enc : Int → α → List Value} {A : Option Addr} {l : List α} {H : List HE}
theorem ix_zipIdx [Inhabited α] {i : Int} (h0 : 0 ≤ i) (h1 : i < l.length) : ix l.zipIdx i = (ix l i, i.toNat) := by
 have hl : i.toNat < l.length := by omega
 have hz : i.toNat < l.zipIdx.length := by rw [List.length_zipIdx]; exact hl
 unfold ix
 rw [List.getD_eq_getElem?_getD, List.getElem?_eq_getElem hz, List.getD_eq_getElem?_getD, List.getElem?_eq_getElem hl]
 simp
theorem RdI.len1 {i : Int} (h1 : i < l.length) : i < l.zipIdx.length := by rw [List.length_zipIdx]; exact h1
theorem RdI.addr (h : RdI w sz enc A l) {i : Int} (h0 : 0 ≤ i) (h1 : i < l.length) : A = some ⟨ab A, ao A, none⟩ := RdE.addr h h0 (RdI.len1 h1)
theorem RdI.nil : RdI w sz enc A ([] : List α) := RdE.nil
theorem RdI.old (h : RdI w0 sz enc A l) (hs : Hs w0 H w) : RdI w sz enc A l := RdE.old h hs
theorem RdI.row [Inhabited α] (h : RdI w sz enc A l) {i : Int} (h0 : 0 ≤ i) (h1 : i < l.length) : ∀ j u, (enc i (ix l i))[j]? = some u → w.cell? ⟨ab A, ao A + i.toNat * sz + j, none⟩ = some u := fun j u hu => by
 refine RdE.row h h0 (RdI.len1 h1) j u ?_
 rw [ix_zipIdx h0 h1]
 simp only
 rwa [Int.toNat_of_nonneg h0]
theorem RdI.cell [Inhabited α] (h : RdI w sz enc A l) {i : Int} (h0 : 0 ≤ i) (h1 : i < l.length) {j : Nat} {u : Value} (hu : (enc i (ix l i))[j]? = some u) : w.cell? ⟨ab A, ao A + i.toNat * sz + j, none⟩ = some u := h.row h0 h1 j u hu
theorem RdI.cell0 [Inhabited α] (h : RdI w sz enc A l) {i : Int} (h0 : 0 ≤ i) (h1 : i < l.length) {u : Value} (hu : (enc i (ix l i))[0]? = some u) : w.cell? ⟨ab A, ao A + i.toNat * sz, none⟩ = some u := h.row h0 h1 0 u hu
theorem RdI.part [Inhabited α] (h : RdI w sz enc A l) {i : Int} (h0 : 0 ≤ i) (h1 : i < l.length) {o : Nat} {ds : List Value} (hd : ((enc i (ix l i)).drop o).take ds.length = ds) : ∀ j v, ds[j]? = some v → w.cell? ⟨ab A, ao A + i.toNat * sz + o + j, none⟩ = some v := by
 refine RdE.part h h0 (RdI.len1 h1) ?_
 rw [ix_zipIdx h0 h1]
 simp only
 rwa [Int.toNat_of_nonneg h0]
theorem zipIdx_take (l : List α) (k : Nat) : (l.take k).zipIdx = l.zipIdx.take k := by
 apply List.ext_getElem?
 intro i
 rw [List.getElem?_zipIdx, List.getElem?_take, List.getElem?_take, List.getElem?_zipIdx]
 split <;> simp
theorem RdI.take (h : RdI w sz enc A l) {i : Int} (h0 : 0 ≤ i) (h1 : i ≤ l.length) : RdI w sz enc A (l.take i.toNat) := by
 unfold RdI
 rw [zipIdx_take]
 exact RdE.take h h0 (by rw [List.length_zipIdx]; exact h1)
end
section
variable {P : Program} {e : Env} {w : World} {d : Option Tmp} {ty : TypeId} {ps : String} {af : Array Edge} {g : Option (Nat × Bool)}
theorem op_nilCheck {x : Operand} {p : Addr} (hx : eev e x = .pointer (some p)) : OpV P e w ⟨d, .nilCheck x, ty, ps, af, g⟩ (.pointer (some p)) := by simp [OpV, execOp, hx]
end
end Go.Proofs.YtbnimhmoffchdaaGreatDoor
namespace Go.Proofs.YtbnimhmoffchdaaGreatDoor
open Go.RowKit
set_option linter.unusedSectionVars false
variable [JF]

section
variable {σ : Type} {P : Program} {n : Nat} {ops : Array Oper} {E : σ → Env} {HQ : σ → World → Prop} {S : World → Prop} {fuel : Nat} {listed : Array Bool} {e : Env} {w w0 : World} {o : Oper} {H : List HE} {dst : Option Tmp} {ty : TypeId} {ps : String} {af : Array Edge} {g : Option (Nat × Bool)} {α : Type}
end
/-- A body that ends without a return. -/
theorem xm_normR {P : Program} {fn : Func} {n : Nat} {w0 : World} {ρ : Type} {R : ρ → Ending → World → Prop} {m : Option ρ} {e : Env} {H : List HE} (h : Xm n w0 (fun r => bodyPost P fn (R r)) .ret m e H) : Xm n w0 (fun r => bodyPost P fn (R r)) .normal m e H := fun r hr w hw a hf => h r hr w hw a hf
end Go.Proofs.YtbnimhmoffchdaaGreatDoor
namespace Go.Proofs.YtbnimhmoffchdaaGreatDoor
open Go.RowKit
set_option linter.unusedSectionVars false
variable [JF]
theorem RdI.one {α : Type} {w : World} {sz : Nat} {f : α → List Value} {g : Int → α → List Value} {A : Option Addr} {x : α} (hg : g 0 x = f x) (h : RdE w sz f A [x]) : RdI w sz g A [x] := by
 refine ⟨by simp, fun _ => ?_⟩
 obtain ⟨b, off, hA, hb, hx⟩ := h.2 (by simp)
 refine ⟨b, off, hA, hb, fun i p hp => ?_⟩
 cases i with
 | zero =>
  simp only [List.zipIdx_cons, List.zipIdx_nil, List.getElem?_cons_zero, Option.some.injEq] at hp
  obtain ⟨cs, hl, hc, hj⟩ := hx 0 x rfl
  exact ⟨cs, hl, by rw [← hp]; exact hc.trans hg.symm, hj⟩
 | succ i => simp at hp
end Go.Proofs.YtbnimhmoffchdaaGreatDoor
