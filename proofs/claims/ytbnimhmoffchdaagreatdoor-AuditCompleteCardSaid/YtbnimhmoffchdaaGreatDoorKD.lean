/- Deco: slices.SortFunc on a row that is owned, of elements of one cell, by a closure that may read what it has captured; by the shelf's contract. Over any program. -/
import Derived.Test.YtbnimhmoffchdaaGreatDoorKC
import Derived.Shelf.SlSortCmp.NoneTotal
import Derived.Test.YtbnimhmoffchdaaGreatDoorKB
namespace Go.Proofs.YtbnimhmoffchdaaGreatDoor
open Go.RowKit Go.Shelf Go.Sort
set_option linter.unusedSectionVars false
variable [JF]

theorem hs_grow1 {w w' : World} (h : @Hs ⟨false⟩ w [] w') : ∃ q os', w' = grow (w.drewN q) os' := by
 refine ⟨w'.drawn - w.drawn, w'.heap.extract w.heap.size w'.heap.size, ?_⟩
 obtain ⟨⟨h1, h2, h3, h4, h5⟩, hd, _⟩ := h
 have hd := hd rfl
 obtain ⟨heap, tape, drawn, os, output⟩ := w
 obtain ⟨heap', tape', drawn', os', output'⟩ := w'
 simp only at h1 h2 h3 h4 h5 hd
 subst h1 h2 h3
 simp only [grow, World.drewN]
 congr 1
 ·refine Array.ext_getElem? fun i => ?_
  rw [Array.getElem?_append]
  split
  ·exact h5 i ‹_›
  ·rename_i hi
   rw [Array.getElem?_extract]
   split
   ·congr 1; omega
   ·rw [Array.getElem?_eq_none (by omega)]
 ·omega
section
variable {α : Type}
def ltO (f : α → α → Option Int) (x y : α) : Bool := decide ((f x y).getD 0 < 0)
/-- The comparison answers on the row's elements, orders them, and parts whatever two that are not one. -/
def sortOk (f : α → α → Option Int) (l : List α) : Prop :=
 (∀ x ∈ l, ∀ y ∈ l, (f x y).isSome = true) ∧ (∀ x ∈ l, ltO f x x = false) ∧ (∀ x ∈ l, ∀ y ∈ l, ∀ z ∈ l, ltO f x y = true → ltO f y z = true → ltO f x z = true) ∧
  (∀ x ∈ l, ∀ y ∈ l, ∀ z ∈ l, ltO f x y = false → ltO f y z = false → ltO f x z = false) ∧ ∀ x ∈ l, ∀ y ∈ l, ltO f x y = false → ltO f y x = false → x = y
instance [DecidableEq α] (f : α → α → Option Int) (l : List α) : Decidable (sortOk f l) := by unfold sortOk; infer_instance
def sortO (f : α → α → Option Int) (l : List α) : List α := l.mergeSort fun x y => !(ltO f y x)
theorem sortO_perm (f : α → α → Option Int) (l : List α) : (sortO f l).Perm l := List.mergeSort_perm _ _
theorem flat_one {enc : α → List Value} {e1 : α → Value} (h : ∀ x, enc x = [e1 x]) (l : List α) : l.flatMap enc = l.map e1 := by
 induction l with
 | nil => rfl
 | cons x l ih => rw [List.flatMap_cons, ih, h]; rfl
theorem sort1_own {P : Program} {ρ : Ren} (L : SlLaysF.n6 P ρ) (enc : α → List Value) (e1 : α → Value) (henc : ∀ x, enc x = [e1 x]) (h1 : ∀ x, (e1 x).oneCell' = true) (f : α → α → Option Int) (g el : Nat) (cb : List Value)
  (eg : ∀ args w, (callFunc g args).run P w = .ok (.enter g args) w) {w0 w : World} {H : List HE} (kk : Nat) {A : Option Addr} {n c : Nat} {l : List α} (hkk : H[kk]? = some (ownE el 1 enc A n c l)) (hok : sortOk f l) (hlen : l.length < 4611686018427387904) (hw : Hs w0 H w)
  (hcmp : ∀ (s : List α) (w1 : World), Hs w0 (H.set kk (ownE el 1 enc A n c s)) w1 → ∀ x y r, f x y = some r → Calls P g ([e1 x, e1 y] ++ cb).toArray w1 fun e w2 => e = .returned (.int .i64 r) ∧ @Hs ⟨false⟩ w1 [] w2) :
  Calls P (ρ.f 6) [.slice A n c, .func (.func g) #[] cb.toArray].toArray w fun x w' => x = .returned (.tuple #[]) ∧ Hs w0 (H.set kk (ownE el 1 enc A n c (sortO f l))) w' := by
 obtain ⟨hn, hown⟩ := hw.get kk hkk
 cases hl : l with
 | nil =>
  subst hl
  have hn0 : n = 0 := hn
  subst hn0
  refine (AnyF.slices_SortFunc_none { L with } A c (.func (.func g) #[] cb.toArray) w).mono fun x w' ⟨hx, hw'⟩ => ⟨hx, ?_⟩
  subst hw'
  rw [show sortO f ([] : List α) = [] from List.mergeSort_nil, set_same hkk]
  exact hw
 | cons a0 l0 =>
  rw [← hl]
  have hpos : 0 < l.length := by rw [hl]; simp
  rcases hown.2 with ⟨_, h00⟩ | ⟨gg, cap, cur, hv, _, hh, hnc, hm, hsz, htk⟩
  ·omega
  ·injection hv with a1 a2 a3
   subst a1 a3
   haveI : Inhabited {x // x ∈ l} := ⟨⟨a0, by rw [hl]; exact List.mem_cons_self ..⟩⟩
   obtain ⟨o1, o2, o3, o4, o5⟩ := hok
   have hl2 : (l.attach.map fun x => x.1) = l := List.attach_map_subtype_val l
   have hds : l.attach.toArray.size = l.length := by simp
   have hgl : gg < w.heap.size := (Array.getElem?_eq_some_iff.1 hh).1
   rw [Nat.mul_one] at hsz htk
   have hfl : l.flatMap enc = l.map e1 := flat_one henc l
   rw [hfl] at htk
   have hother : ∀ q (dk : Array {x // x ∈ l}) os b, b < w.heap.size → b ≠ gg → (sortWorld (fun x => e1 x.1) w gg 0 q dk os).heap[b]? = w.heap[b]? := fun q dk os b hb hne => by
    unfold sortWorld grow putRow mapBlock Sort.ahead
    simp only
    rw [Array.getElem?_append_left (by simpa using hb), Array.getElem?_modify, if_neg (fun h => hne h.symm)]
   have hself : ∀ q (dk : Array {x // x ∈ l}) os, (sortWorld (fun x => e1 x.1) w gg 0 q dk os).heap[gg]? = some (.cells (putCells (fun x : {x // x ∈ l} => e1 x.1) 0 dk cur) el (0, 0)) := fun q dk os => by
    unfold sortWorld grow putRow mapBlock Sort.ahead
    simp only
    rw [Array.getElem?_append_left (by simpa using hgl), Array.getElem?_modify, if_pos rfl, hh]
    rfl
   have world : ∀ q (dk : Array {x // x ∈ l}) os, dk.size = l.length → Hs w0 (H.set kk (ownE el 1 enc (some ⟨gg, 0, none⟩) n c (dk.toList.map fun x => x.1))) (sortWorld (fun x => e1 x.1) w gg 0 q dk os) := fun q dk os hdk => by
    have hsize : w.heap.size ≤ (sortWorld (fun x : {x // x ∈ l} => e1 x.1) w gg 0 q dk os).heap.size := by
     unfold sortWorld grow putRow mapBlock Sort.ahead
     simp
    refine hw.set_ kk hkk ⟨rfl, rfl, rfl, hsize, fun b hb => absurd hb (Nat.not_lt_zero _)⟩ (by unfold sortWorld grow putRow mapBlock Sort.ahead; simp) (fun b hb hne => hother q dk os b hb (fun h => hne (by rw [h]; rfl))) ⟨by simp [hdk, hn], ?_, .inr ⟨gg, c, _, rfl, Nat.zero_le _, hself q dk os, hnc, hm, by simp [putCells, hsz], ?_⟩⟩ (fun b hb => ?_)
    ·rw [flat_one henc]; simp [hdk, hn]
    ·rw [flat_one henc, Nat.mul_one]
     refine List.ext_getElem? fun j => ?_
     rw [List.getElem?_take]
     by_cases hj : j < n
     ·rw [if_pos hj]
      have hjc : j < cur.size := by omega
      have hjd : j < dk.size := by omega
      simp [putCells, hjc, hjd]
     ·rw [if_neg hj, List.getElem?_eq_none (by simp; omega)]
    ·have e1 : b = gg := by simpa [ownE, Value.ownBlock] using hb.symm
     subst e1
     exact ⟨.inl rfl, Nat.lt_of_lt_of_le hgl hsize⟩
   have hH : Holds (fun x : {x // x ∈ l} => e1 x.1) w gg 0 l.attach.toArray := fun j hj => by
    have hj2 : j < l.length := by rw [hds] at hj; exact hj
    refine ⟨?_, by simp [World.frozen?, hh]⟩
    rw [Nat.zero_add, cell_of_row w gg j cur el (0, 0) hh]
    have e2 : (l.map e1)[j]? = some (e1 l[j]) := by simp [hj2]
    rw [← htk, List.getElem?_take, if_pos (by omega)] at e2
    have e3 : (l.attach.toArray[j]!) = ⟨l[j], List.getElem_mem hj2⟩ := by
     rw [getElem!_pos l.attach.toArray j hj]
     simp
    rw [e3]
    simpa using e2
   have hO : SWO (ltOf fun x y : {x // x ∈ l} => (f x.1 y.1).getD 0) := ⟨fun x => o2 x.1 x.2, fun x y z => o3 x.1 x.2 y.1 y.2 z.1 z.2, fun x y z => o4 x.1 x.2 y.1 y.2 z.1 z.2⟩
   have hsort := Any.slices_SortFunc_total L (fun x : {x // x ∈ l} => e1 x.1) (fun x => h1 x.1) (fun x y => (f x.1 y.1).getD 0) hO g cb.toArray gg 0 c l.attach.toArray w eg (fun m os dk hdk x y => by
    obtain ⟨r, hr⟩ := Option.isSome_iff_exists.1 (o1 x.1 x.2 y.1 y.2)
    have hc := hcmp _ _ (world m dk os (by rw [hdk, hds])) x.1 y.1 r hr
    show Calls P g (#[e1 x.1, e1 y.1] ++ cb.toArray) _ fun e w' => e = .returned (.int .i64 ((f x.1 y.1).getD 0)) ∧ _
    rw [hr]
    have e0 : (#[e1 x.1, e1 y.1] ++ cb.toArray : Array Value) = ([e1 x.1, e1 y.1] ++ cb).toArray := by simp
    rw [e0]
    exact hc.mono fun e w' ⟨he, hw'⟩ => ⟨he, hs_grow1 hw'⟩) hH hgl (by rw [hds]; exact hlen) (fun x y h1 h2 => Subtype.ext (o5 x.1 x.2 y.1 y.2 h1 h2))
   rw [hds, ← hn] at hsort
   refine hsort.mono fun x w' ⟨hx, q, os, hw'⟩ => ⟨hx, ?_⟩
   subst hw'
   have hm2 := List.map_mergeSort (r := fun x y : {x // x ∈ l} => !(ltOf fun x y : {x // x ∈ l} => (f x.1 y.1).getD 0) y x) (s := fun x y => !(ltO f y x)) (f := fun x : {x // x ∈ l} => x.1) (l := l.attach) (fun _ _ _ _ => rfl)
   rw [hl2] at hm2
   have hres := world q ((l.attach.toArray.toList.mergeSort fun x y => !(ltOf fun x y : {x // x ∈ l} => (f x.1 y.1).getD 0) y x).toArray) os (by simp)
   have e5 : (((l.attach.toArray.toList.mergeSort fun x y => !(ltOf fun x y : {x // x ∈ l} => (f x.1 y.1).getD 0) y x).toArray).toList.map fun x => x.1) = sortO f l := by
    rw [List.toList_toArray, List.toList_toArray]
    exact hm2
   rw [e5] at hres
   exact hres
end
section
variable {P : Program} {n : Nat} {w0 : World} {ρ : Type} {Q : ρ → Exit → Act → World → Prop} {m : Option ρ} {e : Env} {H H' : List HE} {ops : Array Oper} {rest : List Oper} {o : Oper}
/-- A call that turns entry kk, and hands nothing back. -/
theorem lm_callS (d : Nat) {f : FuncId} {args : Array Value} (hc : chk ops e n o d true = true) (hv : ∀ w, (execOp (eev e) o).run P w = .ok (.enter f args) w)
  (hR : ∀ w, Hs w0 H w → Calls P f args w fun x w' => x = .returned (.tuple #[]) ∧ Hs w0 H' w') (next : Lm P n w0 ops Q rest m ((d, .tuple #[]) :: e) H') : Lm P n w0 ops Q (o :: rest) m e H := fun r hr w hw => by
 refine wl_call d hc (hv w) (hR w hw) ?_
 rintro x w' ⟨rfl, hu⟩
 exact ⟨_, rfl, next r hr w' hu⟩
end
end Go.Proofs.YtbnimhmoffchdaaGreatDoor
/- Deco: plain lemmas on models: loops that run through an index, scans, lists read by an index. -/
namespace Go.Proofs.YtbnimhmoffchdaaGreatDoor

theorem loopM_run {σ ρ : Type} {f : σ → Option (Step σ ρ)} (st : Nat → σ) (n : Nat) {r : ρ} (hs : ∀ i, i < n → f (st i) = some (.next (st (i + 1)))) (he : f (st n) = some (.done r)) {N : Nat} (hN : n < N) : loopM f N (st 0) = some r := by
 have key : ∀ k, k ≤ n → ∀ M, k < M → loopM f M (st (n - k)) = some r := by
  intro k
  induction k with
  | zero =>
   intro _ M hM
   obtain ⟨M, rfl⟩ : ∃ m, M = m + 1 := ⟨M - 1, by omega⟩
   unfold loopM
   rw [Nat.sub_zero, he]
  | succ k ih =>
   intro hk M hM
   obtain ⟨M, rfl⟩ : ∃ m, M = m + 1 := ⟨M - 1, by omega⟩
   unfold loopM
   rw [hs (n - (k + 1)) (by omega)]
   have : n - (k + 1) + 1 = n - k := by omega
   simp only
   rw [this]
   exact ih (by omega) M (by omega)
 have := key n (Nat.le_refl _) N hN
 rwa [Nat.sub_self] at this
theorem loopM_inv {σ ρ : Type} {f : σ → Option (Step σ ρ)} (I : σ → Prop) (m : σ → Nat) {r : ρ} (h : ∀ s, I s → (∃ s', f s = some (.next s') ∧ I s' ∧ m s' < m s) ∨ f s = some (.done r)) : ∀ (N : Nat) (s : σ), I s → m s < N → loopM f N s = some r
 | 0, _, _, hN => absurd hN (Nat.not_lt_zero _)
 | N + 1, s, hs, hN => by
  unfold loopM
  rcases h s hs with ⟨s', h1, h2, h3⟩ | h1
  ·rw [h1]
   exact loopM_inv I m h N s' h2 (by omega)
  ·rw [h1]
def stepOf {τ ρ : Type} (o : Option ρ) (t : τ) : Step τ ρ := match o with
 | some r => .done r
 | none => .next t
/-- A loop that looks at 0, 1, .. till something is found. -/
theorem scan {τ ρ : Type} {f : Int → Option (Step Int (Step τ ρ))} {n : Nat} (g : Nat → Option ρ) {t : τ}
  (hb : ∀ i : Nat, i < n → f (i : Int) = match g i with | some r => some (.done (.done r)) | none => some (.next ((i : Int) + 1))) (he : f (n : Int) = some (.done (.next t))) {N : Nat} (hN : n < N) :
  loopM f N 0 = some (stepOf ((List.range n).findSome? g) t) := by
 have key : ∀ (m : Nat), m ≤ n → (∀ i, i < m → g i = none) → (m = n ∨ ∃ r, g m = some r) → loopM f N 0 = some (stepOf ((List.range n).findSome? g) t) := by
  intro m hm hnone hend
  have hst : ∀ i, i < m → f (((i : Nat) : Int)) = some (.next (((i + 1 : Nat) : Int))) := fun i hi => by
   rw [hb i (by omega), hnone i hi]
   simp
  rcases hend with rfl | ⟨r, hr⟩
  ·have hfs : (List.range m).findSome? g = none := by
    rw [List.findSome?_eq_none_iff]
    intro x hx
    exact hnone x (List.mem_range.1 hx)
   rw [hfs]
   exact loopM_run (fun i => ((i : Nat) : Int)) m hst he hN
  ·by_cases hmn : m = n
   ·subst hmn
    have hfs : (List.range m).findSome? g = none := by
     rw [List.findSome?_eq_none_iff]
     intro x hx
     exact hnone x (List.mem_range.1 hx)
    rw [hfs]
    exact loopM_run (fun i => ((i : Nat) : Int)) m hst he hN
   ·have hml : m < n := by omega
    have hfs : (List.range n).findSome? g = some r := by
     have e1 : List.range n = List.range m ++ List.range' m (n - m) := by
      have h2 := List.range'_append_1 (s := 0) (m := m) (n := n - m)
      rw [Nat.zero_add] at h2
      rw [List.range_eq_range', List.range_eq_range', h2]
      congr 1; omega
     rw [e1, List.findSome?_append]
     have h0 : (List.range m).findSome? g = none := by
      rw [List.findSome?_eq_none_iff]
      intro x hx
      exact hnone x (List.mem_range.1 hx)
     rw [h0]
     obtain ⟨q, hq⟩ : ∃ q, n - m = q + 1 := ⟨n - m - 1, by omega⟩
     rw [hq, List.range'_succ]
     simp [hr]
    rw [hfs]
    refine loopM_run (fun i => ((i : Nat) : Int)) m hst ?_ (by omega)
    rw [hb m hml, hr]
    rfl
 have ex : ∃ m, m ≤ n ∧ (∀ i, i < m → g i = none) ∧ (m = n ∨ ∃ r, g m = some r) := by
  have : ∀ k, k ≤ n → (∃ m, m ≤ n ∧ (∀ i, i < m → g i = none) ∧ (m = n ∨ ∃ r, g m = some r)) ∨ ∀ i, i < k → g i = none := by
   intro k
   induction k with
   | zero => intro _; exact .inr fun i hi => absurd hi (Nat.not_lt_zero _)
   | succ k ih =>
    intro hk
    rcases ih (by omega) with h | h
    ·exact .inl h
    ·cases hg : g k with
     | none =>
      refine .inr fun i hi => ?_
      rcases Nat.lt_or_ge i k with h1 | h1
      ·exact h i h1
      ·have : i = k := by omega
       subst this; exact hg
     | some r => exact .inl ⟨k, by omega, h, .inr ⟨r, hg⟩⟩
  rcases this n (Nat.le_refl _) with h | h
  ·exact h
  ·exact ⟨n, Nat.le_refl _, h, .inl rfl⟩
 obtain ⟨m, h1, h2, h3⟩ := ex
 exact key m h1 h2 h3
theorem ix_nat {α : Type} [Inhabited α] {l : List α} {i : Nat} (h : i < l.length) : ix l (i : Int) = l[i] := by
 unfold ix
 rw [Int.toNat_natCast, List.getD_eq_getElem?_getD, List.getElem?_eq_getElem h]
 rfl
theorem andThen_done {τ ρ : Type} {r : ρ} {k : τ → Option ρ} : andThen (some (.done r)) k = some r := rfl
theorem andThen_next {τ ρ : Type} {t : τ} {k : τ → Option ρ} : andThen (some (.next t)) k = k t := rfl
end Go.Proofs.YtbnimhmoffchdaaGreatDoor
/- Deco: plain lemmas on models: loops as folds over a list, with and without an early end; insertion; sorted lists. -/
namespace Go.Proofs.YtbnimhmoffchdaaGreatDoor

def foldE {α τ ρ : Type} (step : τ → α → Step τ ρ) : τ → List α → Step τ ρ
 | t, [] => .next t
 | t, x :: l => match step t x with
  | .next t' => foldE step t' l
  | .done r => .done r
def Step.map {α β ρ : Type} (f : α → β) : Step α ρ → Step β ρ
 | .next t => .next (f t)
 | .done r => .done r
theorem take_succ_get {α : Type} {l : List α} {i : Nat} (h : i < l.length) : l.take (i + 1) = l.take i ++ [l[i]] := by
 rw [List.take_add_one, List.getElem?_eq_getElem h]
 rfl
theorem mem_take_succ {α : Type} {l : List α} {i : Nat} (hi : i < l.length) {x : α} : x ∈ l.take (i + 1) ↔ x ∈ l.take i ∨ x = l[i] := by rw [take_succ_get hi, List.mem_append, List.mem_singleton]
/-- A loop over a list: state t, place i. -/
theorem loop_fold {α τ β σ ρ : Type} {f : σ → Option (Step σ (Step β ρ))} {N : Nat} {s0 : σ} (l : List α) (mk : τ → Int → σ) (step : τ → α → Step τ ρ) (fin : τ → β) (inv : Nat → τ → Prop) (t0 : τ) (hs0 : s0 = mk t0 0) (h0 : inv 0 t0)
  (h : ∀ (i : Nat) t (hi : i < l.length), inv i t → f (mk t (i : Int)) = some (match step t l[i] with | .next t' => .next (mk t' ((i : Int) + 1)) | .done r => .done (.done r)) ∧ ∀ t', step t l[i] = .next t' → inv (i + 1) t')
  (he : ∀ t, inv l.length t → f (mk t (l.length : Int)) = some (.done (.next (fin t)))) (hN : l.length < N) : loopM f N s0 = some ((foldE step t0 l).map fin) := by
 subst hs0
 have key : ∀ (k i : Nat) (t : τ) (M : Nat), i + k = l.length → k < M → inv i t → loopM f M (mk t (i : Int)) = some ((foldE step t (l.drop i)).map fin) := by
  intro k
  induction k with
  | zero =>
   intro i t M hi hM ht
   obtain ⟨M, rfl⟩ : ∃ m, M = m + 1 := ⟨M - 1, by omega⟩
   have : i = l.length := by omega
   subst this
   unfold loopM
   rw [he t ht, List.drop_length]
   rfl
  | succ k ih =>
   intro i t M hi hM ht
   obtain ⟨M, rfl⟩ : ∃ m, M = m + 1 := ⟨M - 1, by omega⟩
   have hil : i < l.length := by omega
   obtain ⟨h1, h2⟩ := h i t hil ht
   unfold loopM
   rw [h1, List.drop_eq_getElem_cons hil]
   unfold foldE
   cases hs : step t l[i] with
   | done r => rfl
   | next t' =>
    simp only
    have := ih (i + 1) t' M (by omega) (by omega) (h2 t' hs)
    rw [Int.natCast_add] at this
    exact this
 have := key l.length 0 t0 N (by omega) hN h0
 rw [List.drop_zero] at this
 exact this
theorem foldE_next {α τ ρ : Type} (g : τ → α → τ) : ∀ (l : List α) (t : τ), foldE (ρ := ρ) (fun t x => .next (g t x)) t l = .next (l.foldl g t)
 | [], _ => rfl
 | x :: l, t => by unfold foldE; exact foldE_next g l (g t x)
/-- A loop over a list that runs to its end. -/
theorem loop_foldl {α τ β σ ρ : Type} {f : σ → Option (Step σ (Step β ρ))} {N : Nat} {s0 : σ} (l : List α) (mk : τ → Int → σ) (g : τ → α → τ) (fin : τ → β) (inv : Nat → τ → Prop) (t0 : τ) (hs0 : s0 = mk t0 0) (h0 : inv 0 t0)
  (h : ∀ (i : Nat) t (hi : i < l.length), inv i t → f (mk t (i : Int)) = some (.next (mk (g t l[i]) ((i : Int) + 1))) ∧ inv (i + 1) (g t l[i]))
  (he : ∀ t, inv l.length t → f (mk t (l.length : Int)) = some (.done (.next (fin t)))) (hN : l.length < N) : loopM f N s0 = some (.next (fin (l.foldl g t0))) := by
 rw [loop_fold (ρ := ρ) l mk (fun t x => .next (g t x)) fin inv t0 hs0 h0 (fun i t hi ht => ⟨(h i t hi ht).1, fun t' ht' => by injection ht' with ht'; subst ht'; exact (h i t hi ht).2⟩) he hN, foldE_next]
 rfl
/-- A loop that looks for the first element at which something is found. -/
theorem loop_find {α β ρ : Type} {f : Int → Option (Step Int (Step β ρ))} {N : Nat} (l : List α) (g : α → Option ρ) (t : β)
  (h : ∀ (i : Nat) (hi : i < l.length), f (i : Int) = match g l[i] with | some r => some (.done (.done r)) | none => some (.next ((i : Int) + 1)))
  (he : f (l.length : Int) = some (.done (.next t))) (hN : l.length < N) : loopM f N 0 = some (stepOf (l.findSome? g) t) := by
 have := scan (f := f) (n := l.length) (fun i => l[i]?.bind g) (t := t) (fun i hi => by rw [h i hi, List.getElem?_eq_getElem hi]; rfl) he hN
 rw [this]
 congr 1
 congr 1
 clear this h he hN
 induction l with
 | nil => rfl
 | cons x l ih =>
  rw [List.length_cons, List.range_succ_eq_map, List.findSome?_cons, List.findSome?_map, List.findSome?_cons]
  have e1 : ((x :: l)[0]?.bind g) = g x := rfl
  rw [e1]
  cases g x with
  | some r => rfl
  | none => exact ih

/-- A loop with an invariant that tells the end's state. -/
theorem loop_exE {τ β σ ρ : Type} {f : σ → Option (Step σ (Step β ρ))} {N : Nat} {s0 : σ} (n : Nat) (mk : τ → Int → σ) (fin : τ → β) (inv : Nat → τ → Prop) (R : ρ → Prop) (t0 : τ) (hs0 : s0 = mk t0 0) (h0 : inv 0 t0)
  (h : ∀ (i : Nat) t, i < n → inv i t → (∃ t', f (mk t (i : Int)) = some (.next (mk t' ((i : Int) + 1))) ∧ inv (i + 1) t') ∨ ∃ r, f (mk t (i : Int)) = some (.done (.done r)) ∧ R r)
  (he : ∀ t, inv n t → f (mk t (n : Int)) = some (.done (.next (fin t)))) (hN : n < N) : (∃ t, inv n t ∧ loopM f N s0 = some (.next (fin t))) ∨ ∃ r, R r ∧ loopM f N s0 = some (.done r) := by
 subst hs0
 have key : ∀ (k i : Nat) (t : τ) (M : Nat), i + k = n → k < M → inv i t → (∃ t', inv n t' ∧ loopM f M (mk t (i : Int)) = some (.next (fin t'))) ∨ ∃ r, R r ∧ loopM f M (mk t (i : Int)) = some (.done r) := by
  intro k
  induction k with
  | zero =>
   intro i t M hi hM ht
   obtain ⟨M, rfl⟩ : ∃ m, M = m + 1 := ⟨M - 1, by omega⟩
   have : i = n := by omega
   subst this
   refine .inl ⟨t, ht, ?_⟩
   unfold loopM
   rw [he t ht]
  | succ k ih =>
   intro i t M hi hM ht
   obtain ⟨M, rfl⟩ : ∃ m, M = m + 1 := ⟨M - 1, by omega⟩
   rcases h i t (by omega) ht with ⟨t', h1, h2⟩ | ⟨r, h1, h2⟩
   ·have := ih (i + 1) t' M (by omega) (by omega) h2
    rw [Int.natCast_add] at this
    unfold loopM
    rw [h1]
    exact this
   ·refine .inr ⟨r, h2, ?_⟩
    unfold loopM
    rw [h1]
 exact key n 0 t0 N (by omega) hN h0
theorem loop_ex {τ β σ ρ : Type} {f : σ → Option (Step σ (Step β ρ))} {N : Nat} {s0 : σ} (n : Nat) (mk : τ → Int → σ) (fin : τ → β) (inv : Nat → τ → Prop) (t0 : τ) (hs0 : s0 = mk t0 0) (h0 : inv 0 t0)
  (h : ∀ (i : Nat) t, i < n → inv i t → ∃ t', f (mk t (i : Int)) = some (.next (mk t' ((i : Int) + 1))) ∧ inv (i + 1) t')
  (he : ∀ t, inv n t → f (mk t (n : Int)) = some (.done (.next (fin t)))) (hN : n < N) : ∃ t, inv n t ∧ loopM f N s0 = some (.next (fin t)) := by
 rcases loop_exE (R := fun _ => False) n mk fin inv t0 hs0 h0 (fun i t hi ht => .inl (h i t hi ht)) he hN with h | ⟨_, h, _⟩
 ·exact h
 ·exact h.elim

/-- .. with what follows. -/
theorem then_exE {τ β σ ρ : Type} {f : σ → Option (Step σ (Step β ρ))} {N : Nat} {s0 : σ} {k : β → Option ρ} {res : Option ρ} (n : Nat) (mk : τ → Int → σ) (fin : τ → β) (inv : Nat → τ → Prop) (R : ρ → Prop) (t0 : τ) (hs0 : s0 = mk t0 0) (h0 : inv 0 t0) (hN : n < N)
  (h : ∀ (i : Nat) t, i < n → inv i t → (∃ t', f (mk t (i : Int)) = some (.next (mk t' ((i : Int) + 1))) ∧ inv (i + 1) t') ∨ ∃ r, f (mk t (i : Int)) = some (.done (.done r)) ∧ R r)
  (he : ∀ t, inv n t → f (mk t (n : Int)) = some (.done (.next (fin t)))) (h1 : ∀ t, inv n t → k (fin t) = res) (h2 : ∀ r, R r → some r = res) : andThen (loopM f N s0) k = res := by
 rcases loop_exE n mk fin inv R t0 hs0 h0 h he hN with ⟨t, ht, e⟩ | ⟨r, hr, e⟩
 ·rw [e]; exact h1 t ht
 ·rw [e]; exact h2 r hr
theorem then_ex {τ β σ ρ : Type} {f : σ → Option (Step σ (Step β ρ))} {N : Nat} {s0 : σ} {k : β → Option ρ} {res : Option ρ} (n : Nat) (mk : τ → Int → σ) (fin : τ → β) (inv : Nat → τ → Prop) (t0 : τ) (hs0 : s0 = mk t0 0) (h0 : inv 0 t0) (hN : n < N)
  (h : ∀ (i : Nat) t, i < n → inv i t → ∃ t', f (mk t (i : Int)) = some (.next (mk t' ((i : Int) + 1))) ∧ inv (i + 1) t')
  (he : ∀ t, inv n t → f (mk t (n : Int)) = some (.done (.next (fin t)))) (h1 : ∀ t, inv n t → k (fin t) = res) : andThen (loopM f N s0) k = res := by
 obtain ⟨t, ht, e⟩ := loop_ex n mk fin inv t0 hs0 h0 h he hN
 rw [e]; exact h1 t ht

/-! ### Sorted lists -/
section
variable {α : Type}
theorem sorted_unique {lt : α → α → Prop} {l1 l2 : List α} (hanti : ∀ a ∈ l1, ∀ b ∈ l1, lt a b → lt b a → False) (hp : l1.Perm l2) (h1 : l1.Pairwise lt) (h2 : l2.Pairwise lt) : l1 = l2 :=
 List.Perm.eq_of_pairwise (fun a b ha hb hab hba => (hanti a ha b (hp.mem_iff.2 hb) hab hba).elim) h1 h2 hp
theorem sortO_sorted {f : α → α → Option Int} {l : List α} (h : sortOk f l) (hn : l.Nodup) : (sortO f l).Pairwise (fun x y => ltO f x y = true) := by
 obtain ⟨_, o2, o3, o4, o5⟩ := h
 -- over the subtype of l's elements the comparison is total and transitive
 have hm := List.map_mergeSort (r := fun x y : {x // x ∈ l} => !(ltO f y.1 x.1)) (s := fun x y => !(ltO f y x)) (f := fun x : {x // x ∈ l} => x.1) (l := l.attach) (fun _ _ _ _ => rfl)
 rw [List.attach_map_subtype_val] at hm
 have hs := List.pairwise_mergeSort (le := fun x y : {x // x ∈ l} => !(ltO f y.1 x.1)) (fun a b c h1 h2 => by
  simp only [Bool.not_eq_true'] at h1 h2 ⊢
  exact o4 c.1 c.2 b.1 b.2 a.1 a.2 h2 h1) (fun a b => by
  simp only [Bool.or_eq_true, Bool.not_eq_true']
  cases hab : ltO f b.1 a.1 with
  | false => exact .inl rfl
  | true =>
   right
   cases hba : ltO f a.1 b.1 with
   | false => rfl
   | true =>
    have := o3 b.1 b.2 a.1 a.2 b.1 b.2 hab hba
    rw [o2 b.1 b.2] at this
    cases this) l.attach
 have hs2 : (sortO f l).Pairwise (fun x y => ltO f y x = false) := by
  unfold sortO
  rw [← hm, List.pairwise_map]
  exact hs.imp fun h => by simpa using h
 have hn2 : (sortO f l).Nodup := (sortO_perm f l).nodup_iff.2 hn
 have hmem : ∀ x ∈ sortO f l, x ∈ l := fun x hx => (sortO_perm f l).mem_iff.1 hx
 have hs3 : (sortO f l).Pairwise (fun x y => x ∈ sortO f l ∧ y ∈ sortO f l ∧ x ≠ y ∧ ltO f y x = false) := by
  refine List.Pairwise.imp_of_mem (fun {a b} ha hb h => ⟨ha, hb, h.1, h.2⟩) (hn2.and hs2)
 refine hs3.imp fun {a b} h => ?_
 obtain ⟨ha, hb, hne, hba⟩ := h
 cases hab : ltO f a b with
 | true => rfl
 | false => exact absurd (o5 a (hmem a ha) b (hmem b hb) hab hba) hne
theorem nodup_get {l : List α} (h : l.Nodup) {i j : Nat} (hi : i < l.length) (hj : j < l.length) (e : l[i] = l[j]) : i = j := by
 rcases Nat.lt_trichotomy i j with h1 | h1 | h1
 ·exact absurd e (List.pairwise_iff_getElem.1 h i j hi hj h1)
 ·exact h1
 ·exact absurd e.symm (List.pairwise_iff_getElem.1 h j i hj hi h1)
/-- Insertion from the end: before the elements that are greater. -/
def insAt (lt : α → α → Bool) (x : α) : List α → Nat
 | [] => 0
 | y :: l => if l.all (fun z => lt x z) && lt x y then 0 else insAt lt x l + 1
theorem insAt_le (lt : α → α → Bool) (x : α) : ∀ l : List α, insAt lt x l ≤ l.length
 | [] => Nat.le_refl _
 | y :: l => by
  unfold insAt
  split
  ·omega
  ·have := insAt_le lt x l
   simp only [List.length_cons]; omega
theorem insAt_drop (lt : α → α → Bool) (x : α) : ∀ l : List α, ∀ y ∈ l.drop (insAt lt x l), lt x y = true
 | [], y, hy => by cases hy
 | z :: l, y, hy => by
  unfold insAt at hy
  split at hy
  ·rename_i h
   simp only [Bool.and_eq_true, List.all_eq_true] at h
   rcases List.mem_cons.1 hy with rfl | hy
   ·exact h.2
   ·exact h.1 y hy
  ·exact insAt_drop lt x l y hy
theorem insAt_stop (lt : α → α → Bool) (x : α) : ∀ l : List α, 0 < insAt lt x l → ∃ y, l[insAt lt x l - 1]? = some y ∧ lt x y = false
 | [], h => by simp [insAt] at h
 | z :: l, h => by
  unfold insAt at h ⊢
  split
  ·rename_i h'; rw [if_pos h'] at h; omega
  ·rename_i h'
   rcases Nat.eq_zero_or_pos (insAt lt x l) with h0 | hp
   ·refine ⟨z, by rw [h0]; rfl, ?_⟩
    have hall : l.all (fun w => lt x w) = true := by
     rw [List.all_eq_true]
     intro w hw
     have := insAt_drop lt x l
     rw [h0] at this
     exact this w hw
    rw [hall, Bool.true_and] at h'
    simpa using h'
   ·obtain ⟨y, h1, h2⟩ := insAt_stop lt x l hp
    refine ⟨y, ?_, h2⟩
    have : insAt lt x l + 1 - 1 = (insAt lt x l - 1) + 1 := by omega
    rw [this]
    exact h1
def insB (lt : α → α → Bool) (l : List α) (x : α) : List α := l.take (insAt lt x l) ++ [x] ++ l.drop (insAt lt x l)
theorem insB_perm (lt : α → α → Bool) (l : List α) (x : α) : (insB lt l x).Perm (l ++ [x]) := by
 unfold insB
 have h1 : (l.take (insAt lt x l) ++ [x] ++ l.drop (insAt lt x l)).Perm (l.take (insAt lt x l) ++ (l.drop (insAt lt x l) ++ [x])) := by
  rw [List.append_assoc]
  exact List.Perm.append_left _ List.perm_append_comm
 rw [← List.append_assoc, List.take_append_drop] at h1
 exact h1
theorem insB_sorted {lt : α → α → Bool} {l : List α} {x : α} (htr : ∀ a b c, lt a b = true → lt b c = true → lt a c = true) (htot : ∀ y ∈ l, lt x y = false → lt y x = true) (hs : l.Pairwise (fun a b => lt a b = true)) : (insB lt l x).Pairwise (fun a b => lt a b = true) := by
 unfold insB
 have hsp := hs
 rw [← List.take_append_drop (insAt lt x l) l] at hsp
 obtain ⟨p1, p2, p3⟩ := List.pairwise_append.1 hsp
 have hbef : ∀ y ∈ l.take (insAt lt x l), lt y x = true := by
  intro y hy
  obtain ⟨j, hj, rfl⟩ := List.mem_iff_getElem.1 hy
  have hjl : j < insAt lt x l := by rw [List.length_take] at hj; omega
  have hle := insAt_le lt x l
  obtain ⟨z, hz, hxz⟩ := insAt_stop lt x l (by omega)
  have hzm : z ∈ l := List.mem_of_getElem? hz
  have hzx := htot z hzm hxz
  rw [List.getElem_take]
  rcases Nat.lt_or_ge j (insAt lt x l - 1) with h | h
  ·have hjl2 : j < l.length := by omega
   have hil : insAt lt x l - 1 < l.length := by omega
   rw [List.getElem?_eq_getElem hil] at hz
   injection hz with hz
   have := List.pairwise_iff_getElem.1 hs j (insAt lt x l - 1) hjl2 hil h
   rw [hz] at this
   exact htr _ _ _ this hzx
  ·have he : j = insAt lt x l - 1 := by omega
   subst he
   have hil : insAt lt x l - 1 < l.length := by omega
   rw [List.getElem?_eq_getElem hil] at hz
   injection hz with hz
   rw [hz]; exact hzx
 rw [List.append_assoc]
 refine List.pairwise_append.2 ⟨p1, ?_, fun a ha b hb => ?_⟩
 ·rw [List.singleton_append]
  exact List.pairwise_cons.2 ⟨fun b hb => insAt_drop lt x l b hb, p2⟩
 ·rw [List.singleton_append] at hb
  rcases List.mem_cons.1 hb with rfl | hb
  ·exact hbef a ha
  ·exact p3 a ha b hb
end
end Go.Proofs.YtbnimhmoffchdaaGreatDoor
/- Deco: more plain lemmas on models: searches, distinct keys, sums. -/
namespace Go.Proofs.YtbnimhmoffchdaaGreatDoor

/-- A loop with an invariant, and what holds of the answer. -/
theorem then_postE {τ β σ ρ : Type} {f : σ → Option (Step σ (Step β ρ))} {N : Nat} {s0 : σ} {k : β → Option ρ} (Post : ρ → Prop) (n : Nat) (mk : τ → Int → σ) (fin : τ → β) (inv : Nat → τ → Prop) (t0 : τ) (hs0 : s0 = mk t0 0) (h0 : inv 0 t0) (hN : n < N)
  (h : ∀ (i : Nat) t, i < n → inv i t → (∃ t', f (mk t (i : Int)) = some (.next (mk t' ((i : Int) + 1))) ∧ inv (i + 1) t') ∨ ∃ r, f (mk t (i : Int)) = some (.done (.done r)) ∧ Post r)
  (he : ∀ t, inv n t → f (mk t (n : Int)) = some (.done (.next (fin t)))) (h1 : ∀ t, inv n t → ∃ r, k (fin t) = some r ∧ Post r) : ∃ r, andThen (loopM f N s0) k = some r ∧ Post r := by
 rcases loop_exE n mk fin inv Post t0 hs0 h0 h he hN with ⟨t, ht, e⟩ | ⟨r, hr, e⟩
 ·rw [e]; exact h1 t ht
 ·rw [e]; exact ⟨r, rfl, hr⟩
/-- A search for the first element that fits. -/
theorem index_any {α : Type} {f : Int → Option (Step Int (Step Unit Int))} {N : Nat} (l : List α) (p : α → Bool) (h : ∀ (i : Nat) (hi : i < l.length), f (i : Int) = if p l[i] = true then some (.done (.done (i : Int))) else some (.next ((i : Int) + 1)))
  (he : f (l.length : Int) = some (.done (.next ()))) (hN : l.length < N) : ∃ r : Int, andThen (loopM f N 0) (fun _ => some (-1)) = some r ∧ decide (0 ≤ r) = l.any p ∧
   ((r = -1 ∧ ∀ x ∈ l, p x = false) ∨ ∃ k : Nat, r = (k : Int) ∧ k < l.length ∧ (∀ hk : k < l.length, p l[k] = true) ∧ ∀ x ∈ l.take k, p x = false) := by
 refine then_postE (fun r => decide (0 ≤ r) = l.any p ∧ ((r = -1 ∧ ∀ x ∈ l, p x = false) ∨ ∃ k : Nat, r = (k : Int) ∧ k < l.length ∧ (∀ hk : k < l.length, p l[k] = true) ∧ ∀ x ∈ l.take k, p x = false)) l.length (fun (_ : Unit) i => i) (fun _ => ()) (fun i _ => ∀ x ∈ l.take i, p x = false) () rfl (by simp) hN (fun i t hi ht => ?_) (fun t _ => he) (fun t ht => ⟨-1, rfl, ?_⟩)
 ·rw [h i hi]
  cases hp : p l[i] with
  | true =>
   right
   refine ⟨_, rfl, ?_, .inr ⟨i, rfl, hi, fun _ => hp, ht⟩⟩
   have : l.any p = true := List.any_eq_true.2 ⟨_, List.getElem_mem hi, hp⟩
   rw [this]; simp
  | false =>
   left
   refine ⟨(), rfl, fun x hx => ?_⟩
   rcases (mem_take_succ hi).1 hx with hx | hx
   ·exact ht x hx
   ·rw [hx]; exact hp
 ·rw [List.take_length] at ht
  refine ⟨?_, .inl ⟨rfl, ht⟩⟩
  have : l.any p = false := by rw [List.any_eq_false]; intro x hx; rw [ht x hx]; decide
  rw [this]; rfl
theorem contains_loop {α : Type} {f : Int → Option (Step Int (Step Unit Int))} {N : Nat} (l : List α) (p : α → Bool) (h : ∀ (i : Nat) (hi : i < l.length), f (i : Int) = if p l[i] = true then some (.done (.done (i : Int))) else some (.next ((i : Int) + 1)))
  (he : f (l.length : Int) = some (.done (.next ()))) (hN : l.length < N) : Option.bind (andThen (loopM f N 0) (fun _ => some (-1))) (fun r : Int => some (decide (0 ≤ r))) = some (l.any p) := by
 obtain ⟨r, e1, e2, _⟩ := index_any l p h he hN
 rw [e1, Option.bind_some, e2]
end Go.Proofs.YtbnimhmoffchdaaGreatDoor
