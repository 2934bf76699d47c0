/- Deco: slices.SortFunc on a row that is owned, of elements of one cell, by a closure that may read what it has captured; by the shelf's contract. Over any program. -/
import Derived.Test.YtpbgfdmkebnjgaaGreatDoorDFrame
import Derived.Shelf.SlSortCmp.NoneTotal
namespace Go.Proofs.YtpbgfdmkebnjgaaGreatDoor
open Go.RowKit Go.Shelf Go.Sort
set_option linter.unusedSectionVars false
variable [JF]

theorem hs_grow1 {w w' : World} (h : @Hs ⟨false⟩ w [] w') : ∃ q os', w' = grow (w.drewN q) os' := by
  refine ⟨w'.drawn - w.drawn, w'.heap.extract w.heap.size w'.heap.size, ?_⟩
  obtain ⟨⟨h1, h2, h3, h4, h5⟩, hd, _⟩ := h
  have hd := hd rfl
  obtain ⟨heap, tape, drawn, os, output⟩ := w
  obtain ⟨heap', tape', drawn', os', output'⟩ := w'
  simp only at h1 h2 h3 h4 h5 hd
  subst h1 h2 h3
  simp only [grow, World.drewN]
  congr 1
  · refine Array.ext_getElem? fun i => ?_
    rw [Array.getElem?_append]
    split
    · exact h5 i ‹_›
    · rename_i hi
      rw [Array.getElem?_extract]
      split
      · congr 1; omega
      · rw [Array.getElem?_eq_none (by omega)]
  · omega
section
variable {α : Type}
def ltO (f : α → α → Option Int) (x y : α) : Bool := decide ((f x y).getD 0 < 0)
/-- The comparison answers on the row's elements, orders them, and parts whatever two that are not one. -/
def sortOk (f : α → α → Option Int) (l : List α) : Prop :=
  (∀ x ∈ l, ∀ y ∈ l, (f x y).isSome = true) ∧ (∀ x ∈ l, ltO f x x = false) ∧ (∀ x ∈ l, ∀ y ∈ l, ∀ z ∈ l, ltO f x y = true → ltO f y z = true → ltO f x z = true) ∧
    (∀ x ∈ l, ∀ y ∈ l, ∀ z ∈ l, ltO f x y = false → ltO f y z = false → ltO f x z = false) ∧ ∀ x ∈ l, ∀ y ∈ l, ltO f x y = false → ltO f y x = false → x = y
instance [DecidableEq α] (f : α → α → Option Int) (l : List α) : Decidable (sortOk f l) := by unfold sortOk; infer_instance
def sortO (f : α → α → Option Int) (l : List α) : List α := l.mergeSort fun x y => !(ltO f y x)
theorem sortO_len (f : α → α → Option Int) (l : List α) : (sortO f l).length = l.length := List.length_mergeSort _
theorem sortO_perm (f : α → α → Option Int) (l : List α) : (sortO f l).Perm l := List.mergeSort_perm _ _
theorem flat_one {enc : α → List Value} {e1 : α → Value} (h : ∀ x, enc x = [e1 x]) (l : List α) : l.flatMap enc = l.map e1 := by
  induction l with
  | nil => rfl
  | cons x l ih => rw [List.flatMap_cons, ih, h]; rfl
theorem sort1_own {P : Program} {ρ : Ren} (L : SlLaysF.n6 P ρ) (enc : α → List Value) (e1 : α → Value) (henc : ∀ x, enc x = [e1 x]) (h1 : ∀ x, (e1 x).oneCell' = true) (f : α → α → Option Int) (g el : Nat) (cb : List Value)
    (eg : ∀ args w, (callFunc g args).run P w = .ok (.enter g args) w) {w0 w : World} {H : List HE} (kk : Nat) {A : Option Addr} {n c : Nat} {l : List α} (hkk : H[kk]? = some (ownE el 1 enc A n c l)) (hok : sortOk f l) (hlen : l.length < 4611686018427387904) (hw : Hs w0 H w)
    (hcmp : ∀ (s : List α) (w1 : World), Hs w0 (H.set kk (ownE el 1 enc A n c s)) w1 → ∀ x y r, f x y = some r → Calls P g ([e1 x, e1 y] ++ cb).toArray w1 fun e w2 => e = .returned (.int .i64 r) ∧ @Hs ⟨false⟩ w1 [] w2) :
    Calls P (ρ.f 6) [.slice A n c, .func (.func g) #[] cb.toArray].toArray w fun x w' => x = .returned (.tuple #[]) ∧ Hs w0 (H.set kk (ownE el 1 enc A n c (sortO f l))) w' := by
  obtain ⟨hn, hown⟩ := hw.get kk hkk
  cases hl : l with
  | nil =>
    subst hl
    have hn0 : n = 0 := hn
    subst hn0
    refine (AnyF.slices_SortFunc_none { L with } A c (.func (.func g) #[] cb.toArray) w).mono fun x w' ⟨hx, hw'⟩ => ⟨hx, ?_⟩
    subst hw'
    rw [show sortO f ([] : List α) = [] from List.mergeSort_nil, set_same hkk]
    exact hw
  | cons a0 l0 =>
    rw [← hl]
    have hpos : 0 < l.length := by rw [hl]; simp
    rcases hown.2 with ⟨_, h00⟩ | ⟨gg, cap, cur, hv, _, hh, hnc, hm, hsz, htk⟩
    · omega
    · injection hv with a1 a2 a3
      subst a1 a3
      haveI : Inhabited {x // x ∈ l} := ⟨⟨a0, by rw [hl]; exact List.mem_cons_self ..⟩⟩
      obtain ⟨o1, o2, o3, o4, o5⟩ := hok
      have hl2 : (l.attach.map fun x => x.1) = l := List.attach_map_subtype_val l
      have hds : l.attach.toArray.size = l.length := by simp
      have hgl : gg < w.heap.size := (Array.getElem?_eq_some_iff.1 hh).1
      rw [Nat.mul_one] at hsz htk
      have hfl : l.flatMap enc = l.map e1 := flat_one henc l
      rw [hfl] at htk
      have hother : ∀ q (dk : Array {x // x ∈ l}) os b, b < w.heap.size → b ≠ gg → (sortWorld (fun x => e1 x.1) w gg 0 q dk os).heap[b]? = w.heap[b]? := fun q dk os b hb hne => by
        unfold sortWorld grow putRow mapBlock Sort.ahead
        simp only
        rw [Array.getElem?_append_left (by simpa using hb), Array.getElem?_modify, if_neg (fun h => hne h.symm)]
      have hself : ∀ q (dk : Array {x // x ∈ l}) os, (sortWorld (fun x => e1 x.1) w gg 0 q dk os).heap[gg]? = some (.cells (putCells (fun x : {x // x ∈ l} => e1 x.1) 0 dk cur) el (0, 0)) := fun q dk os => by
        unfold sortWorld grow putRow mapBlock Sort.ahead
        simp only
        rw [Array.getElem?_append_left (by simpa using hgl), Array.getElem?_modify, if_pos rfl, hh]
        rfl
      have world : ∀ q (dk : Array {x // x ∈ l}) os, dk.size = l.length → Hs w0 (H.set kk (ownE el 1 enc (some ⟨gg, 0, none⟩) n c (dk.toList.map fun x => x.1))) (sortWorld (fun x => e1 x.1) w gg 0 q dk os) := fun q dk os hdk => by
        have hsize : w.heap.size ≤ (sortWorld (fun x : {x // x ∈ l} => e1 x.1) w gg 0 q dk os).heap.size := by
          unfold sortWorld grow putRow mapBlock Sort.ahead
          simp
        refine hw.set_ kk hkk ⟨rfl, rfl, rfl, hsize, fun b hb => absurd hb (Nat.not_lt_zero _)⟩ (by unfold sortWorld grow putRow mapBlock Sort.ahead; simp) (fun b hb hne => hother q dk os b hb (fun h => hne (by rw [h]; rfl))) ⟨by simp [hdk, hn], ?_, .inr ⟨gg, c, _, rfl, Nat.zero_le _, hself q dk os, hnc, hm, by simp [putCells, hsz], ?_⟩⟩ (fun b hb => ?_)
        · rw [flat_one henc]; simp [hdk, hn]
        · rw [flat_one henc, Nat.mul_one]
          refine List.ext_getElem? fun j => ?_
          rw [List.getElem?_take]
          by_cases hj : j < n
          · rw [if_pos hj]
            have hjc : j < cur.size := by omega
            have hjd : j < dk.size := by omega
            simp [putCells, hjc, hjd]
          · rw [if_neg hj, List.getElem?_eq_none (by simp; omega)]
        · have e1 : b = gg := by simpa [ownE, Value.ownBlock] using hb.symm
          subst e1
          exact ⟨.inl rfl, Nat.lt_of_lt_of_le hgl hsize⟩
      have hH : Holds (fun x : {x // x ∈ l} => e1 x.1) w gg 0 l.attach.toArray := fun j hj => by
        have hj2 : j < l.length := by rw [hds] at hj; exact hj
        refine ⟨?_, by simp [World.frozen?, hh]⟩
        rw [Nat.zero_add, cell_of_row w gg j cur el (0, 0) hh]
        have e2 : (l.map e1)[j]? = some (e1 l[j]) := by simp [hj2]
        rw [← htk, List.getElem?_take, if_pos (by omega)] at e2
        have e3 : (l.attach.toArray[j]!) = ⟨l[j], List.getElem_mem hj2⟩ := by
          rw [getElem!_pos l.attach.toArray j hj]
          simp
        rw [e3]
        simpa using e2
      have hO : SWO (ltOf fun x y : {x // x ∈ l} => (f x.1 y.1).getD 0) := ⟨fun x => o2 x.1 x.2, fun x y z => o3 x.1 x.2 y.1 y.2 z.1 z.2, fun x y z => o4 x.1 x.2 y.1 y.2 z.1 z.2⟩
      have hsort := Any.slices_SortFunc_total L (fun x : {x // x ∈ l} => e1 x.1) (fun x => h1 x.1) (fun x y => (f x.1 y.1).getD 0) hO g cb.toArray gg 0 c l.attach.toArray w eg (fun m os dk hdk x y => by
        obtain ⟨r, hr⟩ := Option.isSome_iff_exists.1 (o1 x.1 x.2 y.1 y.2)
        have hc := hcmp _ _ (world m dk os (by rw [hdk, hds])) x.1 y.1 r hr
        show Calls P g (#[e1 x.1, e1 y.1] ++ cb.toArray) _ fun e w' => e = .returned (.int .i64 ((f x.1 y.1).getD 0)) ∧ _
        rw [hr]
        have e0 : (#[e1 x.1, e1 y.1] ++ cb.toArray : Array Value) = ([e1 x.1, e1 y.1] ++ cb).toArray := by simp
        rw [e0]
        exact hc.mono fun e w' ⟨he, hw'⟩ => ⟨he, hs_grow1 hw'⟩) hH hgl (by rw [hds]; exact hlen) (fun x y h1 h2 => Subtype.ext (o5 x.1 x.2 y.1 y.2 h1 h2))
      rw [hds, ← hn] at hsort
      refine hsort.mono fun x w' ⟨hx, q, os, hw'⟩ => ⟨hx, ?_⟩
      subst hw'
      have hm2 := List.map_mergeSort (r := fun x y : {x // x ∈ l} => !(ltOf fun x y : {x // x ∈ l} => (f x.1 y.1).getD 0) y x) (s := fun x y => !(ltO f y x)) (f := fun x : {x // x ∈ l} => x.1) (l := l.attach) (fun _ _ _ _ => rfl)
      rw [hl2] at hm2
      have hres := world q ((l.attach.toArray.toList.mergeSort fun x y => !(ltOf fun x y : {x // x ∈ l} => (f x.1 y.1).getD 0) y x).toArray) os (by simp)
      have e5 : (((l.attach.toArray.toList.mergeSort fun x y => !(ltOf fun x y : {x // x ∈ l} => (f x.1 y.1).getD 0) y x).toArray).toList.map fun x => x.1) = sortO f l := by
        rw [List.toList_toArray, List.toList_toArray]
        exact hm2
      rw [e5] at hres
      exact hres
end
section
variable {P : Program} {n : Nat} {w0 : World} {ρ : Type} {Q : ρ → Exit → Act → World → Prop} {m : Option ρ} {e : Env} {H H' : List HE} {ops : Array Oper} {rest : List Oper} {o : Oper}
/-- A call that turns entry kk, and hands nothing back. -/
theorem lm_callS (d : Nat) {f : FuncId} {args : Array Value} (hc : chk ops e n o d true = true) (hv : ∀ w, (execOp (eev e) o).run P w = .ok (.enter f args) w)
    (hR : ∀ w, Hs w0 H w → Calls P f args w fun x w' => x = .returned (.tuple #[]) ∧ Hs w0 H' w') (next : Lm P n w0 ops Q rest m ((d, .tuple #[]) :: e) H') : Lm P n w0 ops Q (o :: rest) m e H := fun r hr w hw => by
  refine wl_call d hc (hv w) (hR w hw) ?_
  rintro x w' ⟨rfl, hu⟩
  exact ⟨_, rfl, next r hr w' hu⟩
end
end Go.Proofs.YtpbgfdmkebnjgaaGreatDoor
