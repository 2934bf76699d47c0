/- From a reading of an argument to cells: fields of structs, slices that read as lists. -/
import Derived.Test.YtahnplemladjeaaDoorMassCells
import Derived.Test.YtahnplemladjeaaDoorRowKit
namespace Go.Proofs.YtahnplemladjeaaDoor
open Go.ChangeShapes Go.WideShapes Go.RowKit Go.Deep

section
variable {H : Type} {enc : TypeId × Value → H} {P : Program} {w : World} {base : Nat} {spare : Nat → Bool} {held : Bool} {fuel : Nat} {t : TypeId} {cs : List Value} {x : DataW H × List MemPlace}
/-- Field number j of a struct, its type and offset as closed facts. -/
theorem field_at {fs : Array Field} (hs : P.underlying t = some (.struct fs)) {j : Nat} {ty : TypeId} {off k : Nat} (hj : (fs[j]?).map (fun f => (f.type, f.offset)) = some (ty, off)) (hk : P.cellsOf ty = k)
    (h : DataW.trod enc P w base spare held fuel t cs = some x) : ∃ n y, DataW.trod enc P w base spare held n ty ((cs.drop off).take k) = some y := by
  obtain ⟨xs, n, _, _, _, hxl, hf⟩ := DataW.trod_struct hs h
  cases hf0 : fs[j]? with
  | none => rw [hf0] at hj; cases hj
  | some f =>
    rw [hf0] at hj
    simp only [Option.map_some, Option.some.injEq, Prod.mk.injEq] at hj
    obtain ⟨rfl, rfl⟩ := hj
    have h1 := hf j f hf0
    have hjl : j < xs.length := by rw [hxl]; exact (Array.getElem?_eq_some_iff.1 hf0).1
    rw [List.getElem?_eq_getElem hjl, hk] at h1
    exact ⟨n, _, h1⟩
theorem struct_len {fs : Array Field} (hs : P.underlying t = some (.struct fs)) (h : DataW.trod enc P w base spare held fuel t cs = some x) : cs.length = P.cellsOf t := by
  obtain ⟨_, _, _, _, hl, _⟩ := DataW.trod_struct hs h
  exact hl
theorem int_of {v : Value} (ht : P.underlying t = some (.int .i64)) (h : DataW.trod enc P w base spare held fuel t [v] = some x) : ∃ n, v = .int .i64 n ∧ I64 n := by
  obtain ⟨n, e, _, hw⟩ := DataW.trod_int ht h
  simp only [List.cons.injEq, and_true] at e
  exact ⟨n, e, i64_of_wf hw⟩
/-- A slice whose elements can be opened reads as a list. -/
theorem open_rd {α : Type} {R : α → List Value → Prop} {e : TypeId} {k : Nat} (ht : P.underlying t = some (.slice e)) (hk : P.cellsOf e = k) (hk0 : 0 < k)
    (hel : ∀ n cs y, DataW.trod enc P w base spare held n e cs = some y → ∃ a, R a cs) (h : DataW.trod enc P w base spare held fuel t cs = some x) :
    ∃ A c xs, cs = [.slice A (List.length xs) c] ∧ xs.length ≤ c ∧ Rd w w.heap.size k R A xs := by
  rcases open_slice ht h with ⟨rfl, _⟩ | ⟨a, len, cap, m, n, D, Pl, rfl, hb, hl, hm, hmm, _, hi⟩
  · exact ⟨none, 0, [], rfl, Nat.le_refl _, Rd.nil⟩
  · have hlm : len ≤ m := by rw [hmm]; split <;> omega
    rw [hk] at hi
    have hx : ∀ i : Fin len, ∃ a' : α, ∃ cs, R a' cs ∧ cs.length = k ∧ ∀ j, j < k → w.cell? ((a.add (i.1 * k)).add j) = cs[j]? := fun i => by
      obtain ⟨cs', hc, ht'⟩ := hi i.1 (by omega)
      obtain ⟨a', ha⟩ := hel _ _ _ ht'
      obtain ⟨_, hcl, hat⟩ := World.cells?_some hc
      exact ⟨a', cs', ha, hcl, hat⟩
    refine ⟨some a, cap, List.ofFn fun i : Fin len => Classical.choose (hx i), by simp, by simpa using hl, by simp; unfold maxLen at hm; omega, fun hp => ?_⟩
    have hp' : 0 < len := by simpa using hp
    obtain ⟨cs0, _, hcl0, hat0⟩ := Classical.choose_spec (hx ⟨0, hp'⟩)
    have h00 := hat0 0 hk0
    obtain ⟨b, off, spot⟩ := a
    have hc0 : w.cell? ⟨b, off, spot⟩ = some (cs0[0]'(by omega)) := by
      have e0 : ((⟨b, off, spot⟩ : Addr).add (0 * k)).add 0 = ⟨b, off, spot⟩ := by simp [Addr.add]
      rw [← e0]; rw [h00]; exact List.getElem?_eq_getElem (by omega)
    have hspot : spot = none := by simpa using World.cell?_spot hc0
    subst hspot
    refine ⟨b, off, rfl, World.block_lt_of_cell? _ _ hc0, fun i x hx' => ?_⟩
    obtain ⟨hil, rfl⟩ := List.getElem?_eq_some_iff.1 hx'
    have hil' : i < len := by simpa using hil
    obtain ⟨cs1, hR, hcl1, hat1⟩ := Classical.choose_spec (hx ⟨i, hil'⟩)
    refine ⟨cs1, hcl1, by simpa using hR, fun j u hu => ?_⟩
    have hj : j < k := by rw [← hcl1]; exact (List.getElem?_eq_some_iff.1 hu).1
    have h1 := hat1 j hj
    have e1 : ((⟨b, off, none⟩ : Addr).add (i * k)).add j = ⟨b, off + i * k + j, none⟩ := by
      unfold Addr.add
      by_cases hz : i * k = 0 <;> by_cases hj0 : j = 0 <;> simp [hz, hj0, Nat.add_assoc]
    rw [e1] at h1
    rw [h1, hu]
end
section
variable {H : Type} {enc : TypeId × Value → H} {w : World} {base : Nat} {spare : Nat → Bool} {held : Bool} {fuel : Nat} {cs : List Value} {x : DataW H × List MemPlace}
set_option maxRecDepth 100000 in
theorem tr_open (h : DataW.trod enc Tryd.prog w base spare held fuel 67 cs = some x) : ∃ a : Tr, TrR a cs := by
  have hl : cs.length = 4 := (struct_len Tryd.underlying67 h).trans (by kernel_rfl)
  match cs, hl with
  | [c0, c1, c2, c3], _ =>
    obtain ⟨_, _, h0⟩ := field_at (j := 0) (ty := 3) (off := 0) (k := 1) Tryd.underlying67 (by kernel_rfl) (by kernel_rfl) h
    obtain ⟨_, _, h1⟩ := field_at (j := 1) (ty := 3) (off := 1) (k := 1) Tryd.underlying67 (by kernel_rfl) (by kernel_rfl) h
    obtain ⟨_, _, h2⟩ := field_at (j := 2) (ty := 56) (off := 2) (k := 2) Tryd.underlying67 (by kernel_rfl) (by kernel_rfl) h
    obtain ⟨_, _, h3⟩ := field_at (j := 0) (ty := 3) (off := 0) (k := 1) Tryd.underlying56 (by kernel_rfl) (by kernel_rfl) h2
    obtain ⟨_, _, h4⟩ := field_at (j := 1) (ty := 3) (off := 1) (k := 1) Tryd.underlying56 (by kernel_rfl) (by kernel_rfl) h2
    obtain ⟨n0, rfl, _⟩ := int_of (v := c0) Tryd.underlying3 h0
    obtain ⟨n1, rfl, _⟩ := int_of (v := c1) Tryd.underlying3 h1
    obtain ⟨n2, rfl, _⟩ := int_of (v := c2) Tryd.underlying3 h3
    obtain ⟨n3, rfl, _⟩ := int_of (v := c3) Tryd.underlying3 h4
    exact ⟨⟨n0, n1, n2, n3⟩, rfl⟩
theorem int_open (h : DataW.trod enc Tryd.prog w base spare held fuel 3 cs = some x) : ∃ a : Int, IntR a cs := by
  obtain ⟨n, rfl, _, _⟩ := DataW.trod_int Tryd.underlying3 h
  exact ⟨n, rfl⟩
set_option maxRecDepth 100000 in
theorem ba_open (h : DataW.trod enc Tryd.prog w base spare held fuel 82 cs = some x) : ∃ a : Bale, BaR w w.heap.size a cs := by
  have hl : cs.length = 4 := (struct_len Tryd.underlying82 h).trans (by kernel_rfl)
  match cs, hl with
  | [c0, c1, c2, c3], _ =>
    obtain ⟨_, _, h0⟩ := field_at (j := 0) (ty := 3) (off := 0) (k := 1) Tryd.underlying82 (by kernel_rfl) (by kernel_rfl) h
    obtain ⟨_, _, h1⟩ := field_at (j := 1) (ty := 3) (off := 1) (k := 1) Tryd.underlying82 (by kernel_rfl) (by kernel_rfl) h
    obtain ⟨_, _, h2⟩ := field_at (j := 2) (ty := 3) (off := 2) (k := 1) Tryd.underlying82 (by kernel_rfl) (by kernel_rfl) h
    obtain ⟨_, _, h3⟩ := field_at (j := 3) (ty := 80) (off := 3) (k := 1) Tryd.underlying82 (by kernel_rfl) (by kernel_rfl) h
    obtain ⟨n0, rfl, _⟩ := int_of (v := c0) Tryd.underlying3 h0
    obtain ⟨n1, rfl, _⟩ := int_of (v := c1) Tryd.underlying3 h1
    obtain ⟨n2, rfl, _⟩ := int_of (v := c2) Tryd.underlying3 h2
    obtain ⟨A, c, xs, e, _, hr⟩ := open_rd (k := 1) Tryd.underlying80 (by kernel_rfl) (by omega) (fun _ _ _ hh => int_open hh) h3
    have e3 : c3 = .slice A xs.length c := by simpa using e
    subst e3
    exact ⟨⟨n0, n1, n2, xs⟩, A, c, rfl, hr⟩
end
end Go.Proofs.YtahnplemladjeaaDoor
