/- Deco: slices.SortFunc on a row of structs that is owned, by the shelf's contract. Over any program. -/
import Derived.Test.YtimmifkdocjljaaBitsMul
import Derived.Shelf.SlSortCmp.NoneTotal
namespace Go.Proofs.Ytimmifkdocjljaa
open Go.RowKit Go.Shelf Go.Sort

theorem hs_grow {w w' : World} (h : Hs w [] w') : ∃ q os', w' = grow (w.drewN q) os' := by
  refine ⟨w'.drawn - w.drawn, w'.heap.extract w.heap.size w'.heap.size, ?_⟩
  obtain ⟨⟨h1, h2, h3, h4, h5⟩, hd, _⟩ := h
  obtain ⟨heap, tape, drawn, os, output⟩ := w
  obtain ⟨heap', tape', drawn', os', output'⟩ := w'
  simp only at h1 h2 h3 h4 h5 hd
  subst h1 h2 h3
  simp only [grow, World.drewN]
  congr 1
  · refine Array.ext_getElem? fun i => ?_
    rw [Array.getElem?_append]
    split
    · exact h5 i ‹_›
    · rename_i hi
      rw [Array.getElem?_extract]
      split
      · congr 1; omega
      · rw [Array.getElem?_eq_none (by omega)]
  · omega
section
variable {α : Type} [Inhabited α]
theorem flatK_flat {enc : α → List Value} {k : Nat} (hk : ∀ x, (enc x).length = k) (l : List α) : (flatK enc k l.toArray).toList = l.flatMap enc := by
  refine List.ext_getElem? fun j => ?_
  by_cases hj : j < l.length * k
  · have h0 : 0 < k := by
      rcases Nat.eq_zero_or_pos k with h | h
      · subst h; simp at hj
      · exact h
    have hi : j / k < l.length := Nat.div_lt_of_lt_mul (by rw [Nat.mul_comm]; exact hj)
    have hm : j % k < k := Nat.mod_lt _ h0
    have hjj : j / k * k + j % k = j := by rw [Nat.mul_comm]; exact Nat.div_add_mod j k
    have hf := flat_at hk l (j / k) _ (List.getElem?_eq_getElem hi) (j % k) hm
    rw [hjj] at hf
    rw [hf]
    have hlen : j % k < (enc l[j / k]).length := by rw [hk]; exact hm
    simp [flatK, hj, hi, List.getElem?_eq_getElem hlen]
  · rw [List.getElem?_eq_none (by simp; omega), List.getElem?_eq_none (by rw [flat_len hk]; omega)]
theorem sort_own {P : Program} {ρ : Ren} (L : SlLaysF0.n6 P ρ) (k : Nat) (aE : ∀ w, (isAgg (ρ.t 24)).run P w = .ok true w) (zE : ∀ w, (Go.sizeOf (ρ.t 24)).run P w = .ok k w) (enc : α → List Value) (hk : ∀ x, (enc x).length = k) (h1 : ∀ x, (enc x).all Value.oneCell' = true) (cf : α → α → Int) (hO : SWO (ltOf cf)) (hT : ∀ x y, (ltOf cf) x y = false → (ltOf cf) y x = false → x = y) (g el : Nat)
    (eg : ∀ args w, (callFunc g args).run P w = .ok (.enter g args) w) (hcmp : ∀ (x y : α) (w : World), Calls P g [.agg (enc x).toArray, .agg (enc y).toArray].toArray w fun e w' => e = .returned (.int .i64 (cf x y)) ∧ Hs w [] w')
    {w0 w : World} {H : List HE} (kk : Nat) {A : Option Addr} {n c : Nat} {l : List α} (hkk : H[kk]? = some (ownE el k enc A n c l)) (hlen : l.length < 4611686018427387904) (hw : Hs w0 H w) :
    Calls P (ρ.f 6) [.slice A n c, .func (.func g) #[] #[]].toArray w fun x w' => x = .returned (.tuple #[]) ∧ Hs w0 (H.set kk (ownE el k enc A n c (l.mergeSort fun x y => !(ltOf cf) y x))) w' := by
  obtain ⟨hn, hown⟩ := hw.get kk hkk
  rcases hown.2 with ⟨hv, h0⟩ | ⟨gg, cap, cur, hv, _, hh, hnc, hm, hsz, htk⟩
  · injection hv with a1 a2 a3
    subst a1 a3
    have hl : l = [] := List.eq_nil_of_length_eq_zero (by omega)
    subst hl h0
    refine (AnyF.slices_SortFunc_none L none 0 (.func (.func g) #[] #[]) w).mono fun x w' ⟨hx, hw'⟩ => ⟨hx, ?_⟩
    subst hw'
    rw [List.mergeSort_nil, set_same hkk]
    exact hw
  · injection hv with a1 a2 a3
    subst a1 a3
    have hflat := flatK_flat hk l
    have hfs : (flatK enc k l.toArray).size = l.length * k := by simp
    have hH : HoldsK enc k w gg 0 l.toArray := fun j hj => by
      have hj2 : j < l.length * k := by simpa using hj
      refine ⟨?_, by simp [World.frozen?, hh]⟩
      rw [Nat.zero_add, cell_of_row w gg j cur el (0, 0) hh]
      have e1 : (l.flatMap enc)[j]? = some ((flatK enc k l.toArray)[j]!) := by
        rw [← hflat]
        simp [hj2]
      rw [← htk, List.getElem?_take, if_pos (by rw [hn]; exact hj2)] at e1
      simpa using e1
    have hsort := AnyQ.slices_SortFunc_total L k aE zE enc hk (fun x v hv => List.all_eq_true.1 (h1 x) v hv) cf hO g #[] gg 0 c l.toArray w eg (fun m os dk _ x y => (hcmp x y _).mono fun e w' ⟨he, hw'⟩ => ⟨he, hs_grow hw'⟩) hH (Array.getElem?_eq_some_iff.1 hh).1 (by simpa using hlen) hT
    have hsz2 : l.toArray.size = n := by simp [hn]
    rw [hsz2] at hsort
    refine hsort.mono fun x w' ⟨hx, q, os, hw'⟩ => ⟨hx, ?_⟩
    subst hw'
    generalize hs : (l.mergeSort fun x y => !(ltOf cf) y x) = s
    have hsl : s.length = l.length := by rw [← hs]; exact List.length_mergeSort _
    have hflat2 := flatK_flat hk s
    have hgl : gg < w.heap.size := (Array.getElem?_eq_some_iff.1 hh).1
    have hother : ∀ b, b < w.heap.size → b ≠ gg → (sortWorldK enc k w gg 0 q s.toArray os).heap[b]? = w.heap[b]? := fun b hb hne => by
      unfold sortWorldK grow putRowK putRow mapBlock Sort.ahead
      simp only
      rw [Array.getElem?_append_left (by simpa using hb), Array.getElem?_modify, if_neg (fun h => hne h.symm)]
    have hself : (sortWorldK enc k w gg 0 q s.toArray os).heap[gg]? = some (.cells (putCells id 0 (flatK enc k s.toArray) cur) el (0, 0)) := by
      unfold sortWorldK grow putRowK putRow mapBlock Sort.ahead
      simp only
      rw [Array.getElem?_append_left (by simpa using hgl), Array.getElem?_modify, if_pos rfl, hh]
      rfl
    have hsize : w.heap.size ≤ (sortWorldK enc k w gg 0 q s.toArray os).heap.size := by
      unfold sortWorldK grow putRowK putRow mapBlock Sort.ahead
      simp
    refine hw.set_ kk hkk ⟨rfl, rfl, rfl, hsize, fun b hb => absurd hb (Nat.not_lt_zero _)⟩ (by unfold sortWorldK grow putRowK putRow mapBlock Sort.ahead; simp) (fun b hb hne => hother b hb (fun h => hne (by rw [h]; rfl))) ⟨by rw [hsl]; exact hn, by rw [flat_len hk, hsl, hn], .inr ⟨gg, c, _, rfl, Nat.zero_le _, hself, hnc, hm, by simp [putCells, hsz], ?_⟩⟩ (fun b hb => ?_)
    · refine List.ext_getElem? fun j => ?_
      rw [List.getElem?_take]
      have hcapk : n * k ≤ c * k := Nat.mul_le_mul_right _ hnc
      by_cases hj : j < n * k
      · rw [if_pos hj]
        have hjs : j < s.length * k := by rw [hsl, ← hn]; exact hj
        have hjc : j < cur.size := by omega
        have hjf : j < (flatK enc k s.toArray).size := by simpa using hjs
        have e2 : (s.flatMap enc)[j]? = some ((flatK enc k s.toArray)[j]!) := by
          rw [← hflat2]
          simp [hjs]
        rw [e2]
        simp [putCells, hjc, hjs]
      · rw [if_neg hj, List.getElem?_eq_none (by rw [flat_len hk, hsl, ← hn]; omega)]
    · have e1 : b = gg := by simpa [ownE, Value.ownBlock] using hb.symm
      subst e1
      exact ⟨.inl rfl, Nat.lt_of_lt_of_le hgl hsize⟩
end
end Go.Proofs.Ytimmifkdocjljaa
