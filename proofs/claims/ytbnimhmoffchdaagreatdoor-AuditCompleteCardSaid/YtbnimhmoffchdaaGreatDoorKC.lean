/- Deco: parts of slices from an index on, copy, integers of other kinds, conversions. Over any program. -/
import Derived.Test.YtbnimhmoffchdaaGreatDoorKB
import Derived.Maps.Own
import Derived.StringKeys
import Derived.Lib.SliceRun
import Derived.Laws.StructEq
namespace Go.Proofs.YtbnimhmoffchdaaGreatDoor
open Go.RowKit
set_option linter.unusedSectionVars false
variable [JF]

def adv (A : Option Addr) (c : Nat) (i : Int) (sz : Nat) : Option Addr := if c = i.toNat then A else A.map (·.add (i.toNat * sz))
section
variable {P : Program} {e : Env} {w w0 : World} {d : Option Tmp} {ty : TypeId} {ps : String} {af : Array Edge} {g : Option (Nat × Bool)} {α : Type} {H : List HE}
theorem add_lit (b o j : Nat) : (⟨b, o, none⟩ : Addr).add j = ⟨b, o + j, none⟩ := by unfold Addr.add; split <;> simp_all
theorem RdE.drop {sz : Nat} {enc : α → List Value} {A : Option Addr} {n c : Nat} {l : List α} {i : Int} (h : RdE w sz enc A l) (hs : SW A n c l.length) (_ : 0 ≤ i) (h1 : i ≤ l.length) : RdE w sz enc (adv A c i sz) (l.drop i.toNat) := by
 obtain ⟨_, s2, s3⟩ := hs
 refine ⟨Nat.le_trans (by simp) h.1, fun hp => ?_⟩
 rw [List.length_drop] at hp
 obtain ⟨b, off, rfl, hb, hc⟩ := h.2 (by omega)
 have hne : ¬ c = i.toNat := by omega
 refine ⟨b, off + i.toNat * sz, by simp [adv, hne, add_lit], hb, fun k x hx => ?_⟩
 rw [List.getElem?_drop] at hx
 obtain ⟨cs, q1, q2, q3⟩ := hc _ x hx
 refine ⟨cs, q1, q2, fun j u hu => ?_⟩
 have := q3 j u hu
 rw [Nat.add_mul, ← Nat.add_assoc] at this
 exact this
theorem SW.drop {A : Option Addr} {n c sz : Nat} {l : List α} {i : Int} (h : SW A n c l.length) (_ : 0 ≤ i) (h1 : i ≤ l.length) : SW (adv A c i sz) (n - i.toNat) (c - i.toNat) (l.drop i.toNat).length := by
 obtain ⟨a1, a2, a3⟩ := h
 refine ⟨fun hA => ?_, by omega, by rw [List.length_drop]; omega⟩
 unfold adv at hA
 split at hA
 ·omega
 ·have hA' : A = none := by cases A with
   | none => rfl
   | some a => simp at hA
  have := a1 hA'
  omega
theorem op_sliceFrom {t : TypeId} {x lo : Operand} {A : Option Addr} {n c : Nat} {l : List α} {i : Int} (sz : Nat) (hx : eev e x = .slice A n c) (hh : eev e lo = .int .i64 i) (ht : isSliceT P t = true) (hs : elemSz P t = some sz) (hw : SW A n c l.length) (h0 : 0 ≤ i) (h1 : i ≤ l.length) :
  OpV P e w ⟨d, .slice t x (some lo) none none, ty, ps, af, g⟩ (.slice (adv A c i sz) (n - i.toNat) (c - i.toNat)) := by
 obtain ⟨a1, a2, a3⟩ := hw
 obtain ⟨k, rfl⟩ := Int.eq_ofNat_of_zero_le h0
 unfold isSliceT at ht
 split at ht
 ·rename_i E hu
  cases hE : P.info? E with
  | none => exact absurd hs (by rw [elemSz, hu]; simp [hE])
  | some inf =>
   have hsz : inf.size = sz := by rw [elemSz, hu] at hs; simpa [hE] using hs
   have hkn : k ≤ n := by omega
   simp only [OpV, execOp, Instr.sliceAt, hx, Option.map_some, Option.map_none, hh]
   simp [run_underlying hu, Instr.slice, Instr.sliceBounds, Instr.sliceBound, asIntOf, hkn, sizeOf, typeInfo, hE, adv, hsz]
 ·cases ht
theorem set_same {H : List HE} {k : Nat} {h : HE} (hk : H[k]? = some h) : H.set k h = H := by
 refine List.ext_getElem? fun j => ?_
 rw [List.getElem?_set]
 split
 ·rename_i hjk; subst hjk
  split
  ·exact hk.symm
  ·rename_i hlt; rw [List.getElem?_eq_none (by omega)] at hk; cases hk
 ·rfl
theorem flat_take {enc : α → List Value} {sz : Nat} (hz : ∀ x, (enc x).length = sz) : ∀ (l : List α) (k : Nat), (l.take k).flatMap enc = (l.flatMap enc).take (k * sz)
 | [], k => by simp
 | x :: l, 0 => by simp
 | x :: l, k + 1 => by
  rw [List.take_succ_cons, List.flatMap_cons, List.flatMap_cons, flat_take hz l k, List.take_append, hz]
  have e1 : (k + 1) * sz - sz = k * sz := by rw [Nat.succ_mul]; omega
  have hx := hz x
  rw [e1, List.take_of_length_le (l := enc x) (by rw [hx, Nat.succ_mul]; omega)]
/-- What copy leaves of l: m elements of l2 from place o on. -/
def copyAt (l : List α) (o : Nat) (l2 : List α) (m : Nat) : List α := l.take o ++ l2.take m ++ l.drop (o + m)
end
section
variable {P : Program} {e : Env} {w w0 : World} {d : Option Tmp} {ty : TypeId} {ps : String} {af : Array Edge} {g : Option (Nat × Bool)} {α : Type} {H : List HE}
theorem adv_at {sz : Nat} {enc : α → List Value} {A : Option Addr} {n c : Nat} {l : List α} {i : Int} (h : RdE w sz enc A l) (hs : SW A n c l.length) (_ : 0 ≤ i) (h1 : i ≤ l.length) : 0 < n - i.toNat → adv A c i sz = some ⟨ab A, ao A + i.toNat * sz, none⟩ := fun hp => by
 obtain ⟨_, s2, s3⟩ := hs
 obtain ⟨b, off, rfl, _⟩ := h.2 (by omega)
 have hne : ¬ c = i.toNat := by omega
 simp [adv, hne, add_lit, ab, ao]
section
variable {m : Nat} {ρ : Type} {Q : ρ → Exit → Act → World → Prop} {mm : Option ρ} {ops : Array Oper} {rest : List Oper}
end
section
variable {σ : Type} {nn : Nat} {ops : Array Oper} {E : σ → Env} {HQ : σ → World → Prop} {S : World → Prop} {fuel : Nat} {listed : Array Bool}
end
def isInt (P : Program) (t : TypeId) (k : IntKind) : Bool :=
 match P.underlying t with
 | some (.int k') => decide (k' = k)
 | _ => false
section
variable {t t' : TypeId} {x y : Operand} {a b : Int} {k : IntKind}
theorem op_lssK (hx : eev e x = .int k a) (hy : eev e y = .int k b) : OpV P e w ⟨d, .binOp .lss t x y t', ty, ps, af, g⟩ (.bool (decide (a < b))) := by simp [OpV, execOp, hx, hy, eqGuard, binOp, Op.intCmp]
theorem op_leqK (hx : eev e x = .int k a) (hy : eev e y = .int k b) : OpV P e w ⟨d, .binOp .leq t x y t', ty, ps, af, g⟩ (.bool (decide (a ≤ b))) := by simp [OpV, execOp, hx, hy, eqGuard, binOp, Op.intCmp]
theorem op_gtrK (hx : eev e x = .int k a) (hy : eev e y = .int k b) : OpV P e w ⟨d, .binOp .gtr t x y t', ty, ps, af, g⟩ (.bool (decide (b < a))) := by simp [OpV, execOp, hx, hy, eqGuard, binOp, Op.intCmp]
theorem op_geqK (hx : eev e x = .int k a) (hy : eev e y = .int k b) : OpV P e w ⟨d, .binOp .geq t x y t', ty, ps, af, g⟩ (.bool (decide (b ≤ a))) := by simp [OpV, execOp, hx, hy, eqGuard, binOp, Op.intCmp]
theorem op_quo (hx : eev e x = .int .i64 a) (hy : eev e y = .int .i64 b) (h : 0 < b) (ha : I64 a) : OpV P e w ⟨d, .binOp .quo t x y t', ty, ps, af, g⟩ (.int .i64 (Int.tdiv a b)) := by
 have hb : ¬ b = 0 := by omega
 have hw : IntKind.i64.wrap (a.tdiv b) = a.tdiv b := IntWalk.i64_in _ (by
  obtain ⟨h1, h2⟩ := ha
  have h3 : (a.tdiv b).natAbs ≤ a.natAbs := by rw [Int.natAbs_tdiv]; exact Nat.div_le_self _ _
  rcases Int.le_total 0 a with h0 | h0
  ·have := Int.tdiv_nonneg h0 (Int.le_of_lt h); omega
  ·have : a.tdiv b ≤ 0 := by
    have h4 := Int.tdiv_nonneg (a := -a) (b := b) (by omega) (Int.le_of_lt h)
    rw [Int.neg_tdiv] at h4
    omega
   omega)
 simp [OpV, execOp, hx, hy, eqGuard, binOp, Op.intDiv, hb, hw]
theorem op_quoK (hx : eev e x = .int .i64 a) (hy : eev e y = .int .i64 b) (h : decide (0 < b) = true) (ha : I64 a) : OpV P e w ⟨d, .binOp .quo t x y t', ty, ps, af, g⟩ (.int .i64 (Int.tdiv a b)) := op_quo hx hy (of_decide_eq_true h) ha
end
end
section
variable {P : Program} {e : Env} {w : World} {d : Option Tmp} {ty : TypeId} {ps : String} {af : Array Edge} {g : Option (Nat × Bool)}
def arrSz (P : Program) (t : TypeId) : Option (Nat × Nat) :=
 match P.underlying t with
 | some (.array len x) => (P.info? x).map fun i => (len, i.size)
 | _ => none
end
end Go.Proofs.YtbnimhmoffchdaaGreatDoor
/- Deco: maps that the call made: a block of entries against a list of pairs. Over any program. -/
namespace Go.Proofs.YtbnimhmoffchdaaGreatDoor
open Go.RowKit Go.Maps Go.MapKept
set_option linter.unusedSectionVars false
variable [JF]

section
variable {κ α : Type} [DecidableEq κ]
def mget (l : List (κ × α)) (x : κ) : Option α := match l with
 | [] => none
 | p :: r => if p.1 = x then some p.2 else mget r x
def mput (l : List (κ × α)) (x : κ) (a : α) : List (κ × α) := match l with
 | [] => [(x, a)]
 | p :: r => if p.1 = x then (x, a) :: r else p :: mput r x a
theorem mget_none {l : List (κ × α)} {x : κ} (h : ∀ p ∈ l, p.1 ≠ x) : mget l x = none := by
 induction l with
 | nil => rfl
 | cons p r ih =>
  unfold mget
  rw [if_neg (h p (List.mem_cons_self ..)), ih fun q hq => h q (List.mem_cons_of_mem _ hq)]
theorem mput_none {l : List (κ × α)} {x : κ} {a : α} (h : ∀ p ∈ l, p.1 ≠ x) : mput l x a = l ++ [(x, a)] := by
 induction l with
 | nil => rfl
 | cons p r ih =>
  unfold mput
  rw [if_neg (h p (List.mem_cons_self ..)), ih fun q hq => h q (List.mem_cons_of_mem _ hq)]
  rfl
theorem mget_at {l : List (κ × α)} {x : κ} {j : Nat} {p : κ × α} (hn : (l.map Prod.fst).Nodup) (hj : l[j]? = some p) (hp : p.1 = x) : mget l x = some p.2 := by
 induction l generalizing j with
 | nil => simp at hj
 | cons q r ih =>
  unfold mget
  cases j with
  | zero => simp at hj; subst hj; rw [if_pos hp]
  | succ j =>
   simp only [List.getElem?_cons_succ] at hj
   have hm : p ∈ r := List.mem_of_getElem? hj
   have hn' := List.nodup_cons.1 (show (q.1 :: r.map Prod.fst).Nodup from hn)
   rw [if_neg (fun e => hn'.1 (by rw [e, ← hp]; exact List.mem_map_of_mem hm)), ih hn'.2 hj]
theorem mput_at {l : List (κ × α)} {x : κ} {a : α} {j : Nat} {p : κ × α} (hn : (l.map Prod.fst).Nodup) (hj : l[j]? = some p) (hp : p.1 = x) : mput l x a = l.set j (x, a) := by
 induction l generalizing j with
 | nil => simp at hj
 | cons q r ih =>
  unfold mput
  cases j with
  | zero => simp at hj; subst hj; rw [if_pos hp]; rfl
  | succ j =>
   simp only [List.getElem?_cons_succ] at hj
   have hm : p ∈ r := List.mem_of_getElem? hj
   have hn' := List.nodup_cons.1 (show (q.1 :: r.map Prod.fst).Nodup from hn)
   rw [if_neg (fun e => hn'.1 (by rw [e, ← hp]; exact List.mem_map_of_mem hm)), ih hn'.2 hj]
   rfl
theorem mput_keys {l : List (κ × α)} {x : κ} {a : α} : ∀ y, y ∈ (mput l x a).map Prod.fst ↔ y = x ∨ y ∈ l.map Prod.fst := by
 intro y
 induction l with
 | nil => simp [mput]
 | cons q r ih =>
  unfold mput
  split
  ·rename_i h
   simp only [List.map_cons, List.mem_cons, h]
   constructor
   ·rintro (h | h)
    ·exact .inl h
    ·exact .inr (.inr h)
   ·rintro (h | h | h)
    ·exact .inl h
    ·exact .inl h
    ·exact .inr h
  ·simp only [List.map_cons, List.mem_cons, ih]
   constructor
   ·rintro (h | h | h)
    ·exact .inr (.inl h)
    ·exact .inl h
    ·exact .inr (.inr h)
   ·rintro (h | h | h)
    ·exact .inr (.inl h)
    ·exact .inl h
    ·exact .inr (.inr h)
theorem mput_nodup {l : List (κ × α)} {x : κ} {a : α} (hn : (l.map Prod.fst).Nodup) : ((mput l x a).map Prod.fst).Nodup := by
 induction l with
 | nil => simp [mput]
 | cons q r ih =>
  unfold mput
  have hn' := List.nodup_cons.1 (show (q.1 :: r.map Prod.fst).Nodup from hn)
  split
  ·rename_i h
   simp only [List.map_cons]
   exact List.nodup_cons.2 ⟨by rw [← h]; exact hn'.1, hn'.2⟩
  ·rename_i h
   simp only [List.map_cons]
   refine List.nodup_cons.2 ⟨fun hm => ?_, ih hn'.2⟩
   rcases (mput_keys (l := r) (x := x) (a := a) q.1).1 hm with e | hm
   ·exact h e
   ·exact hn'.1 hm
theorem mget_mput_same (l : List (κ × α)) (x : κ) (a : α) : mget (mput l x a) x = some a := by
 induction l with
 | nil => simp [mput, mget]
 | cons q r ih =>
  unfold mput
  split
  ·simp [mget]
  ·rename_i h
   unfold mget
   rw [if_neg h, ih]
theorem mget_mput_other {l : List (κ × α)} {x y : κ} {a : α} (hne : y ≠ x) : mget (mput l x a) y = mget l y := by
 induction l with
 | nil => simp [mput, mget, hne.symm]
 | cons q r ih =>
  unfold mput
  split
  ·rename_i h
   unfold mget
   rw [if_neg hne.symm, if_neg (fun e => hne (by rw [← e, h]))]
  ·unfold mget
   rw [ih]
theorem mget_mput (l : List (κ × α)) (x y : κ) (a : α) : mget (mput l x a) y = if y = x then some a else mget l y := by
 split
 ·rename_i h; subst h; exact mget_mput_same l y a
 ·exact mget_mput_other ‹_›
end

/-- A map's block. -/
def MapB {κ α : Type} (P : Program) (k : TypeId) (ek : κ → Value) (ev : α → Value) (b : Nat) (l : List (κ × α)) (w : World) : Prop :=
 ∃ es clock, w.heap[b]? = some (.map es clock) ∧ es.toList.map (fun e => (e.key, e.val)) = l.map (fun p => (ek p.1, ev p.2)) ∧ (∀ e ∈ es.toList, ∃ y, keyOf P k e.key = some y) ∧ (l.map Prod.fst).Nodup
def mapE {κ α : Type} (P : Program) (k : TypeId) (ek : κ → Value) (ev : α → Value) (b : Nat) (l : List (κ × α)) : HE :=
 ⟨fun x => x = b, MapB P k ek ev b l, fun w w' h hw => by
  obtain ⟨es, clock, hb, hr⟩ := hw
  exact ⟨es, clock, (h b rfl).trans hb, hr⟩⟩
section
variable {κ α : Type} {P : Program} {k : TypeId} {ek : κ → Value} {ev : α → Value} {b : Nat} {l : List (κ × α)} {w : World}
theorem MapB.lt (h : MapB P k ek ev b l w) : b < w.heap.size := by
 obtain ⟨es, clock, hb, _⟩ := h
 exact (Array.getElem?_eq_some_iff.1 hb).1
/-- Either no entry bears the key, or one does. -/
theorem MapB.find [DecidableEq κ] (h : MapB P k ek ev b l w) (K : Keyed P k) (hinj : ∀ x y, ek x = ek y → x = y) {x : κ} (hx : ∃ y, keyOf P k (ek x) = some y) (w' : World) :
  ∃ es clock, w.heap[b]? = some (.map es clock) ∧ es.toList.map (fun e => (e.key, e.val)) = l.map (fun p => (ek p.1, ev p.2)) ∧ (∀ e ∈ es.toList, ∃ y, keyOf P k e.key = some y) ∧ (l.map Prod.fst).Nodup ∧
   (((Instr.findKey k (ek x) es.toList).run P w' = .ok none w' ∧ (∀ p ∈ l, p.1 ≠ x)) ∨
     ∃ j e p, (Instr.findKey k (ek x) es.toList).run P w' = .ok (some (j, ev p.2)) w' ∧ es.toList[j]? = some e ∧ e.key = ek x ∧ e.val = ev p.2 ∧ l[j]? = some p ∧ p.1 = x) := by
 obtain ⟨es, clock, hb, hm, hk, hn⟩ := h
 obtain ⟨y, hy⟩ := hx
 refine ⟨es, clock, hb, hm, hk, hn, ?_⟩
 rcases K.find w' hy es.toList hk with ⟨h1, h2⟩ | ⟨j, e, h1, h2, h3⟩
 ·refine .inl ⟨h1, fun p hp e1 => ?_⟩
  have : (ek p.1, ev p.2) ∈ es.toList.map (fun e => (e.key, e.val)) := by rw [hm]; exact List.mem_map.2 ⟨p, hp, rfl⟩
  obtain ⟨e, he, heq⟩ := List.mem_map.1 this
  injection heq with h3 h4
  exact h2 e he (by rw [h3, e1])
 ·have e1 : (es.toList.map (fun e => (e.key, e.val)))[j]? = some (e.key, e.val) := by rw [List.getElem?_map, h2]; rfl
  rw [hm, List.getElem?_map] at e1
  cases hp : l[j]? with
  | none => rw [hp] at e1; cases e1
  | some p =>
   rw [hp] at e1
   simp only [Option.map_some, Option.some.injEq, Prod.mk.injEq] at e1
   refine .inr ⟨j, e, p, by rw [h1, e1.2], h2, h3, e1.2.symm, hp, hinj _ _ (by rw [e1.1, h3])⟩
theorem MapB.look [DecidableEq κ] (h : MapB P k ek ev b l w) (K : Keyed P k) (hinj : ∀ x y, ek x = ek y → x = y) {x : κ} (hx : ∃ y, keyOf P k (ek x) = some y) {t e : TypeId} (ht : P.underlying t = some (.map k e)) {z : α} (hz : zeroOf P e = some (ev z)) (c : Bool) :
  (Instr.lookup t (.map (some b)) (ek x) c).run P w = .ok (if c then .tuple #[ev ((mget l x).getD z), .bool (mget l x).isSome] else ev ((mget l x).getD z)) w := by
 obtain ⟨es, clock, hb, _, _, hn, hf⟩ := h.find K hinj hx w
 obtain ⟨y, hy⟩ := hx
 have hz' : (zeroValue e).run P w = .ok (ev z) w := by
  unfold zeroOf at hz
  cases hi : P.info? e with
  | none => rw [hi] at hz; cases hz
  | some i =>
   rw [hi] at hz
   have : i.zero = some (ev z) := by simpa using hz
   simp [zeroValue, typeInfo, hi, this]
 rcases hf with ⟨h1, h2⟩ | ⟨j, e0, p, h1, _, _, _, hj, hp⟩
 ·rw [mget_none h2]
  simp [Instr.lookup, run_underlying ht, MapKept.run_getObj_map hb, K.check w _ hy, h1, hz', Result.andThen]
 ·rw [mget_at hn hj hp]
  simp [Instr.lookup, run_underlying ht, MapKept.run_getObj_map hb, K.check w _ hy, h1, Result.andThen]
theorem MapB.put [DecidableEq κ] (h : MapB P k ek ev b l w) (K : Keyed P k) (hinj : ∀ x y, ek x = ek y → x = y) {x : κ} (hx : ∃ y, keyOf P k (ek x) = some y) {t e : TypeId} (ht : P.underlying t = some (.map k e)) (a : α) :
  ∃ w', (Instr.mapUpdate t (.map (some b)) (ek x) (ev a)).run P w = .ok () w' ∧ MapB P k ek ev b (mput l x a) w' ∧ Below 0 w w' ∧ w'.drawn = w.drawn ∧ ∀ c, c ≠ b → w'.heap[c]? = w.heap[c]? := by
 obtain ⟨es, clock, hb, hm, hk, hn, hf⟩ := h.find K hinj hx w
 obtain ⟨y, hy⟩ := hx
 have fin : ∀ o : Obj, Below 0 w { w with heap := w.heap.setIfInBounds b o } ∧ ∀ c, c ≠ b → (w.heap.setIfInBounds b o)[c]? = w.heap[c]? := fun o =>
  ⟨⟨rfl, rfl, rfl, by simp, fun c hc => absurd hc (Nat.not_lt_zero _)⟩, fun c hc => (heap_set (o' := o) hb).2 c hc⟩
 rcases hf with ⟨h1, h2⟩ | ⟨j, e0, p, h1, h2, h3, h4, hj, hp⟩
 ·refine ⟨{ w with heap := w.heap.setIfInBounds b (.map (es.push ⟨ek x, ev a, clock⟩) (clock + 1)) }, ?_, ⟨_, _, (heap_set hb).1, ?_, ?_, mput_nodup hn⟩, (fin _).1, rfl, (fin _).2⟩
  ·simp [Instr.mapUpdate, run_underlying ht, MapKept.run_getObj_map hb, K.check w false hy, h1, MapKept.run_setObj_map _ hb, Result.andThen]
  ·rw [mput_none h2, Array.toList_push, List.map_append, List.map_append, hm]
   rfl
  ·intro e' he'
   rw [Array.toList_push, List.mem_append] at he'
   rcases he' with he' | he'
   ·exact hk e' he'
   ·simp at he'; subst he'; exact ⟨y, hy⟩
 ·have hj2 : es[j]? = some e0 := by simpa using h2
  have hlist : (es.modify j (fun e' => { e' with key := ek x, val := ev a })).toList = es.toList.set j { e0 with key := ek x, val := ev a } := by rw [Array.toList_modify, ChangeMaps.modify_eq_set _ _ _ _ h2]
  refine ⟨{ w with heap := w.heap.setIfInBounds b (.map (es.modify j (fun e' => { e' with key := ek x, val := ev a })) clock) }, ?_, ⟨_, _, (heap_set hb).1, ?_, ?_, mput_nodup hn⟩, (fin _).1, rfl, (fin _).2⟩
  ·simp [Instr.mapUpdate, run_underlying ht, MapKept.run_getObj_map hb, K.check w false hy, h1, hj2, h3, K.stays w hy, MapKept.run_setObj_map _ hb, Result.andThen]
  ·rw [hlist, mput_at hn hj hp, List.map_set, List.map_set, hm]
  ·intro e' he'
   rw [hlist] at he'
   rcases List.mem_or_eq_of_mem_set he' with he' | rfl
   ·exact hk e' he'
   ·exact ⟨y, hy⟩
end
theorem ek_int (k : IntKind) : ∀ x y : Int, Value.int k x = Value.int k y → x = y := fun _ _ h => by injection h
theorem ek_str : ∀ x y : ByteArray, Value.string x = Value.string y → x = y := fun _ _ h => by injection h
theorem key_i64 {P : Program} {k : TypeId} (hk : P.underlying k = some (.int .i64)) {x : Int} (h : I64 x) : ∃ y, keyOf P k (.int .i64 x) = some y :=
 ⟨_, keyOf_int_mk hk (by unfold I64 at h; simp only [Lit.wf, Bool.and_eq_true, decide_eq_true_eq]; exact h)⟩
theorem key_str {P : Program} {k : TypeId} (hk : P.underlying k = some .string) {s : ByteArray} (h : ByteArray.size s ≤ 9223372036854775807) : ∃ y, keyOf P k (.string s) = some y :=
 ⟨_, WideMaps.keyOf_string_mk hk (by unfold maxLen; exact h)⟩
theorem Hs.map {κ α : Type} {P : Program} {k : TypeId} {ek : κ → Value} {ev : α → Value} {b : Nat} {l : List (κ × α)} {w0 w : World} {H : List HE} (hs : Hs w0 H w) (j : Nat) (hj : H[j]? = some (mapE P k ek ev b l)) : MapB P k ek ev b l w := hs.get j hj
section
variable {κ α : Type} [DecidableEq κ] {P : Program} {n : Nat} {w0 : World} {ρ : Type} {Q : ρ → Exit → Act → World → Prop} {m : Option ρ} {e : Env} {H H' : List HE} {ops : Array Oper} {rest : List Oper}
variable {dst : Option Tmp} {ty : TypeId} {ps : String} {af : Array Edge} {g : Option (Nat × Bool)}
theorem op_lookup {w : World} {k : TypeId} {ek : κ → Value} {ev : α → Value} {b : Nat} {l : List (κ × α)} {t el : TypeId} {x ix : Operand} {y : κ} (z : α) (hx : eev e x = .map (some b)) (hi : eev e ix = ek y) (K : Keyed P k) (hinj : ∀ x y, ek x = ek y → x = y) (hky : ∃ lit, keyOf P k (ek y) = some lit) (ht : P.underlying t = some (.map k el)) (hz : zeroOf P el = some (ev z)) (hm : MapB P k ek ev b l w) :
  OpV P e w ⟨dst, .lookup t x ix false, ty, ps, af, g⟩ (ev ((mget l y).getD z)) := by
 have := hm.look K hinj hky ht hz false
 simp [OpV, execOp, hx, hi, this]
theorem op_lookupOk {w : World} {k : TypeId} {ek : κ → Value} {ev : α → Value} {b : Nat} {l : List (κ × α)} {t el : TypeId} {x ix : Operand} {y : κ} (z : α) (hx : eev e x = .map (some b)) (hi : eev e ix = ek y) (K : Keyed P k) (hinj : ∀ x y, ek x = ek y → x = y) (hky : ∃ lit, keyOf P k (ek y) = some lit) (ht : P.underlying t = some (.map k el)) (hz : zeroOf P el = some (ev z)) (hm : MapB P k ek ev b l w) :
  OpV P e w ⟨dst, .lookup t x ix true, ty, ps, af, g⟩ (.tuple #[ev ((mget l y).getD z), .bool (mget l y).isSome]) := by
 have := hm.look K hinj hky ht hz true
 simp [OpV, execOp, hx, hi, this]
omit [DecidableEq κ] in
theorem lm_makeMap (d : Nat) {t : TypeId} (k : TypeId) (ek : κ → Value) (ev : α → Value) (hc : chk ops e n ⟨dst, .makeMap t none, ty, ps, af, g⟩ d true = true)
  (next : ∀ b, Lm P n w0 ops Q rest m ((d, .map (some b)) :: e) (mapE P k ek ev b ([] : List (κ × α)) :: H)) : Lm P n w0 ops Q (⟨dst, .makeMap t none, ty, ps, af, g⟩ :: rest) m e H := fun r hr w hw =>
 wl_run d hc (w' := w.alloc (.map #[] 0)) (v := .map (some w.heap.size)) (by simp [execOp, Instr.makeMap, newObj]; rfl) (next _ r hr _
  (hw.push ((Below.refl _ _).alloc (Nat.le_refl _) _) (Nat.le_refl _) ⟨#[], 0, (MapKept.heap_alloc w _).1, rfl, (fun e he => by simp at he), by simp⟩ (fun b hb => by have e1 : b = w.heap.size := hb; subst e1; exact ⟨Nat.le_refl _, by simp⟩)))
theorem lm_mapUpdate (j : Nat) {k : TypeId} {ek : κ → Value} {ev : α → Value} {b : Nat} {l : List (κ × α)} {t el : TypeId} {x ix v : Operand} {y : κ} {a : α} (hc : chk0 ops e ⟨dst, .mapUpdate t x ix v, ty, ps, af, g⟩ = true) (hx : eev e x = .map (some b)) (hi : eev e ix = ek y) (hv : eev e v = ev a)
  (K : Keyed P k) (hinj : ∀ x y, ek x = ek y → x = y) (hky : ∃ lit, keyOf P k (ek y) = some lit) (ht : P.underlying t = some (.map k el)) (hj : H[j]? = some (mapE P k ek ev b l)) (hH : H.set j (mapE P k ek ev b (mput l y a)) = H')
  (next : Lm P n w0 ops Q rest m e H') : Lm P n w0 ops Q (⟨dst, .mapUpdate t x ix v, ty, ps, af, g⟩ :: rest) m e H := fun r hr w hw => by
 obtain ⟨w', hrun, hm', hb, hd, ho⟩ := (hw.map j hj).put K hinj hky ht a
 refine wl_do hc (w' := w') (by simp [execOp, hx, hi, hv, hrun]) (next r hr _ ?_)
 subst hH
 refine hw.set_ j hj hb (Nat.le_of_eq hd.symm) (fun c _ hc' => ho c hc') hm' (fun c hc' => ?_)
 have e1 : c = b := hc'
 subst e1
 exact ⟨.inl rfl, hm'.lt⟩
end
end Go.Proofs.YtbnimhmoffchdaaGreatDoor
/- Deco: functions that change what they are handed: a frame packed into one entry; calls of such functions; stores in drawn regions; parts of rows that are cleared or cut. Over any program. -/
namespace Go.Proofs.YtbnimhmoffchdaaGreatDoor
open Go.RowKit
set_option linter.unusedSectionVars false
variable [JF]

theorem Sep.keep' {B : Nat} {w w' : World} : ∀ {H : List HE}, (∀ k ∈ H, ∀ b, k.S b → w'.heap[b]? = w.heap[b]?) → Sep B H w → Sep B H w'
 | [], _, _ => trivial
 | h :: _, hb, hs => ⟨h.loc w w' (hb h (List.mem_cons_self ..)) hs.1, fun b hS => ⟨(hs.2.1 b hS).1, by
   have h1 := (hs.2.1 b hS).2
   have h2 := hb h (List.mem_cons_self ..) b hS
   rw [Array.getElem?_eq_getElem h1] at h2
   exact (Array.getElem?_eq_some_iff.1 h2).1⟩, hs.2.2.1, Sep.keep' (fun k hk => hb k (List.mem_cons_of_mem _ hk)) hs.2.2.2⟩
/-- Entries packed into one. -/
def packE (B : Nat) (F : List HE) : HE := ⟨fun b => ∃ h ∈ F, h.S b, fun w => Sep B F w, fun _ _ hb hs => hs.keep' fun k hk b hS => hb b ⟨k, hk, hS⟩⟩
theorem Sep.split {B : Nat} {w : World} : ∀ {G H : List HE}, Sep B (G ++ H) w → Sep B G w ∧ Sep B H w ∧ ∀ g ∈ G, ∀ h ∈ H, ∀ b, g.S b → ¬ h.S b
 | [], _, hs => ⟨trivial, hs, fun _ hg => by cases hg⟩
 | g :: G, H, hs => by
  obtain ⟨h1, h2, h3⟩ := Sep.split (G := G) (H := H) hs.2.2.2
  refine ⟨⟨hs.1, hs.2.1, fun k hk => hs.2.2.1 k (List.mem_append_left _ hk), h1⟩, h2, fun x hx h hh => ?_⟩
  rcases List.mem_cons.1 hx with rfl | hx
  ·exact hs.2.2.1 h (List.mem_append_right _ hh)
  ·exact h3 x hx h hh
theorem Hs.pack {w0 w : World} {I F : List HE} (h : Hs w0 (I ++ F) w) : Hs w0 (I ++ [packE w0.heap.size F]) w := by
 obtain ⟨h1, h2, h3⟩ := h.sep.split
 refine ⟨h.old, h.dr, h1.append (show Sep w0.heap.size [packE w0.heap.size F] w from ⟨h2, fun b hb => (by obtain ⟨k, hk, hb⟩ := hb; exact h2.lt k hk b hb), fun _ hk => (by cases hk), trivial⟩) fun g hg x hx b hb hxb => ?_⟩
 obtain rfl := List.mem_singleton.1 hx
 obtain ⟨k, hk, hkb⟩ := hxb
 exact h3 g hg k hk b hb hkb
theorem Hs.unpack {w0 w : World} {I F : List HE} (h : Hs w0 (I ++ [packE w0.heap.size F]) w) : Hs w0 (I ++ F) w := by
 obtain ⟨h1, h2, h3⟩ := h.sep.split
 refine ⟨h.old, h.dr, h1.append h2.1 fun g hg x hx b hb hxb => ?_⟩
 exact h3 g hg _ (List.mem_singleton.2 rfl) b hb ⟨x, hx, hxb⟩
section
variable {P : Program} {n : Nat} {w0 : World} {ρ : Type} {Q : ρ → Exit → Act → World → Prop} {m : Option ρ} {e : Env} {H H' : List HE} {ops : Array Oper} {o : Oper} {rest : List Oper}
theorem calls_cmH {f : FuncId} {fn : Func} {c : Code} {args : List Value} {R : ρ → Ending → World → Prop} (hf : P.funcs[f]? = some fn) (hb : fn.body = some c) (hn : fn.ntmps = n) (hl : args.length ≤ n)
  (h : Cm P n w0 c (fun r => bodyPost P fn (R r)) m (argEnv 0 args) H) {w : World} (hw : Hs w0 H w) (r : ρ) (hr : m = some r) : Calls P f args.toArray w (R r) :=
 calls_wc hf hb hn hl (h r hr w hw)
/-- A call of a function that may change what it is handed: I is handed on, F stays. -/
theorem lm_callH (d : Nat) {α ξ : Type} {f : FuncId} {args : Array Value} {mf : Option α} {k : α → Option ρ} {V : α → ξ → Value} (I F : List HE) {O : α → ξ → List HE} (hS : HSub w0 H (I ++ F)) (hc : chk ops e n o d true = true)
  (hv : ∀ w, (execOp (eev e) o).run P w = .ok (.enter f args) w)
  (hR : ∀ r, mf = some r → ∀ w, Hs w0 (I ++ [packE w0.heap.size F]) w → Calls P f args w fun x w' => ∃ u, x = .returned (V r u) ∧ Hs w0 (O r u ++ [packE w0.heap.size F]) w')
  (next : ∀ r u, Lm P n w0 ops Q rest (k r) ((d, V r u) :: e) (O r u ++ F)) : Lm P n w0 ops Q (o :: rest) (mf.bind k) e H := fun r hr w hw => by
 cases hm : mf with
 | none => rw [hm] at hr; cases hr
 | some a =>
  rw [hm] at hr
  refine wl_call d hc (hv w) (hR a hm w (hS w hw).pack) ?_
  rintro x w' ⟨u, rfl, hu⟩
  exact ⟨_, rfl, next a u r hr w' hu.unpack⟩
end
section
variable {σ : Type} {P : Program} {n : Nat} {ops : Array Oper} {E : σ → Env} {HQ : σ → World → Prop} {S : World → Prop} {fuel : Nat} {listed : Array Bool} {e : Env} {w w0 : World} {o : Oper} {H : List HE} {dst : Option Tmp} {ty : TypeId} {ps : String} {af : Array Edge} {g : Option (Nat × Bool)} {α : Type}
theorem ws_callH {i : Nat} (d : Nat) {ξ : Type} {f : FuncId} {args : Array Value} {V : ξ → Value} (I F : List HE) {O : ξ → List HE} (hS : HSub w0 H (I ++ F)) (hi : ops[i]? = some o) (hc : chk ops e n o d true = true) (hv : (execOp (eev e) o).run P w = .ok (.enter f args) w) (hw : Hs w0 H w)
  (hR : Hs w0 (I ++ [packE w0.heap.size F]) w → Calls P f args w fun x w' => ∃ u, x = .returned (V u) ∧ Hs w0 (O u ++ [packE w0.heap.size F]) w')
  (next : ∀ u w', Hs w0 (O u ++ F) w' → S w' ∧ wh P n ops E HQ S fuel (done listed i) ((d, V u) :: e) w') : ws P n ops E HQ S fuel listed e w i :=
 ws_call d hi hc hv (hR (hS w hw).pack) fun _ w' ⟨u, hx, hu⟩ => ⟨V u, hx, next u w' hu.unpack⟩
/-- Stores in drawn regions. -/
theorem ws_store1 {i : Nat} (k : Nat) {t : TypeId} {x y : Operand} {b j : Nat} {t0 : TypeId} {cs : List Value} {v : Value} (hi : ops[i]? = some ⟨dst, .store t x y, ty, ps, af, g⟩) (hc : chk0 ops e ⟨dst, .store t x y, ty, ps, af, g⟩ = true) (hx : eev e x = .pointer (some ⟨b, j, none⟩)) (hy : eev e y = v) (h1 : oneSz P t = true) (hv : v.oneCell' = true)
  (hk : H[k]? = some (blkE b t0 cs)) (hj : Nat.blt j cs.length = true) {H' : List HE} (hH : H.set k (blkE b t0 (cs.set j v)) = H') (hw : Hs w0 H w)
  (next : ∀ w', Hs w0 H' w' → S w' ∧ wh P n ops E HQ S fuel (done listed i) e w') : ws P n ops E HQ S fuel listed e w i := by
 have hb := hw.blk k hk
 have hj' : j < cs.length := by simpa using hj
 have hw' : Hs w0 H' (w.setCell ⟨b, j, none⟩ v) := by
  subst hH
  refine hw.set_ k hk ((Below.refl 0 w).setCell (p := ⟨b, j, none⟩) (Nat.zero_le _) v) (Nat.le_refl _) (fun c _ hc' => Below.heap_setCell w _ v c hc') (hb.set_ j v) (fun c hc' => ?_)
  have e1 : c = b := hc'
  subst e1
  exact ⟨.inl rfl, by simpa [World.setCell] using hb.lt⟩
 obtain ⟨h1', h2'⟩ := next _ hw'
 exact ws_do hi hc (op_store hx hy h1 hv (hb.at_ j (List.getElem?_eq_getElem hj')) (hb.free j)) h1' h2'
theorem ws_storeA {i : Nat} (k : Nat) {t : TypeId} {x y : Operand} {b j : Nat} {t0 : TypeId} {cs : List Value} (vs cs' : List Value) (hi : ops[i]? = some ⟨dst, .store t x y, ty, ps, af, g⟩) (hc : chk0 ops e ⟨dst, .store t x y, ty, ps, af, g⟩ = true) (hx : eev e x = .pointer (some ⟨b, j, none⟩)) (hy : (eev e y).cells = vs.toArray) (hs : sizeIs P t vs.length = true) (hv : vs.all Value.oneCell' = true)
  (hk : H[k]? = some (blkE b t0 cs)) (hj : Nat.ble (j + vs.length) cs.length = true) (hcs : cs.take j ++ vs ++ cs.drop (j + vs.length) = cs') {H' : List HE} (hH : H.set k (blkE b t0 cs') = H') (hw : Hs w0 H w)
  (next : ∀ w', Hs w0 H' w' → S w' ∧ wh P n ops E HQ S fuel (done listed i) e w') : ws P n ops E HQ S fuel listed e w i := by
 have hb := hw.blk k hk
 have hj' : j + vs.length ≤ cs.length := Nat.le_of_ble_eq_true hj
 have hl : cs.length = cs'.length := by subst hcs; simp; omega
 unfold sizeIs at hs
 cases hin : P.info? t with
 | none => rw [hin] at hs; cases hs
 | some inf =>
  have hsz : inf.size = vs.length := by rw [hin] at hs; exact Nat.eq_of_beq_eq_true hs
  have hst := run_storeCells_at (P := P) b j t0 vs 0 cs.toArray w hb (by simp; omega) (fun u hu => List.all_eq_true.1 hv u hu)
  have e1 : (cs.toArray.toList.take (j + 0) ++ vs ++ cs.toArray.toList.drop (j + 0 + vs.length)).toArray = cs'.toArray := by rw [← hcs]; simp
  rw [e1] at hst
  have hrun : (execOp (eev e) ⟨dst, .store t x y, ty, ps, af, g⟩).run P w = .ok .skip (w.setRow b cs'.toArray) := by
   simp only [execOp, Instr.storeAt, hx]
   simp [Instr.sureAddr, storeVar, sizeOf, typeInfo, hin, hsz, hy, hst]
  have hw' : Hs w0 H' (w.setRow b cs'.toArray) := by
   subst hH
   have hbl := below_setRow (Below.refl 0 w) (Nat.zero_le b) cs'.toArray
   refine hw.set_ k hk hbl (Nat.le_refl _) (fun c _ hc' => ?_) (blk_setRow hb _ hl) (fun c hc' => ?_)
   ·have hne : b ≠ c := fun h => hc' h.symm
    simp [World.setRow, Array.getElem?_modify, hne]
   ·have e1 : c = b := hc'
    subst e1
    exact ⟨.inl rfl, by simpa [World.setRow] using hb.lt⟩
  obtain ⟨h1', h2'⟩ := next _ hw'
  exact ws_do hi hc hrun h1' h2'
theorem ws_alloc {i : Nat} (d : Nat) {t : TypeId} (z : List Value) {v : Value} (hi : ops[i]? = some ⟨dst, .alloc t, ty, ps, af, g⟩) (hc : chk ops e n ⟨dst, .alloc t, ty, ps, af, g⟩ d true = true) (hz : zeroOf P t = some v) (hv : v.cells = z.toArray) (hw : Hs w0 H w)
  (next : ∀ b w', Hs w0 (blkE b t z :: H) w' → S w' ∧ wh P n ops E HQ S fuel (done listed i) ((d, .pointer (some ⟨b, 0, none⟩)) :: e) w') : ws P n ops E HQ S fuel listed e w i := by
 obtain ⟨h1, h2⟩ := next _ _ (blkE_new hw t z)
 exact ws_run d hi hc (op_alloc z hz hv) h1 h2
end
theorem wl_run0 {P : Program} {n : Nat} {ops : Array Oper} {Q : Exit → Act → World → Prop} {e : Env} {w w' : World} {o : Oper} {rest : List Oper} {v : Value} (hc : chk0 ops e o = true) (hv : (execOp (eev e) o).run P w = .ok (.value v) w') (next : wl P n ops Q rest e w') : wl P n ops Q (o :: rest) e w := fun a hf => by
 obtain ⟨hd, hs, hg, hk⟩ := chk0_spec hc
 refine wpList_step fun K hK => ?_
 rw [if_pos (gOk_wanted hf hg)]
 unfold Oper.wp
 rw [exec_fr hf hs hk, hv]
 simp only [Oper.upon]
 rw [hd]
 exact hK _ _ (next _ (hf.put_none v))
theorem own_blk (A : Option Addr) (n i c : Nat) : (Value.slice A n c).ownBlock = (Value.slice A i c).ownBlock := by cases A <;> rfl
/-- A row that is owned, cut: its beginning is owned. -/
theorem Hs.cut {α : Type} {w0 w : World} {H H' : List HE} (hs : Hs w0 H w) (k : Nat) {el sz : Nat} {enc : α → List Value} {A : Option Addr} {n c : Nat} {l : List α} {i : Int} (hk : H[k]? = some (ownE el sz enc A n c l)) (hz : ∀ x, (enc x).length = sz) (h0 : 0 ≤ i) (h1 : i ≤ l.length)
  (hH : H.set k (ownE el sz enc A i.toNat c (l.take i.toNat)) = H') : Hs w0 H' w := by
 subst hH
 obtain ⟨hn, hown⟩ := hs.get k hk
 have hi : i.toNat ≤ l.length := by omega
 have hmul : i.toNat * sz ≤ l.length * sz := Nat.mul_le_mul_right _ hi
 refine hs.set_ k hk (Below.refl 0 w) (Nat.le_refl _) (fun _ _ _ => rfl) ⟨by simp; omega, ?_, ?_⟩ (fun b hb => ⟨.inl ((own_blk A n i.toNat c).trans hb), ((hs.at_ k hk).2 b ((own_blk A n i.toNat c).trans hb)).2⟩)
 ·rw [flat_take hz, List.length_take, flat_len hz]; omega
 ·rcases hown.2 with ⟨hv, h00⟩ | ⟨gg, cap, cur, hv, hb, hh, hnc, hm, hsz, htk⟩
  ·injection hv with a1 a2 a3
   subst a1 a3
   have : i.toNat = 0 := by omega
   rw [this]
   exact .inl ⟨rfl, rfl⟩
  ·injection hv with a1 a2 a3
   refine .inr ⟨gg, cap, cur, by rw [a1, a3], hb, hh, by omega, hm, hsz, ?_⟩
   rw [flat_take hz, ← htk, List.take_take, Nat.min_eq_left (by rw [hn]; exact hmul)]
section
variable {P : Program} {n : Nat} {w0 : World} {ρ : Type} {Q : ρ → Exit → Act → World → Prop} {m : Option ρ} {e : Env} {H H' : List HE} {ops : Array Oper} {rest : List Oper} {α : Type}
variable {dst : Option Tmp} {ty : TypeId} {ps : String} {af : Array Edge} {g : Option (Nat × Bool)}
theorem xm_cut (k : Nat) {el sz : Nat} {enc : α → List Value} {A : Option Addr} {n1 c : Nat} {l : List α} {i : Int} (hk : H[k]? = some (ownE el sz enc A n1 c l)) (hz : ∀ x, (enc x).length = sz) (h0 : 0 ≤ i) (h1 : i ≤ l.length)
  (hH : H.set k (ownE el sz enc A i.toNat c (l.take i.toNat)) = H') {x : Exit} (h : Xm n w0 Q x m e H') : Xm n w0 Q x m e H := fun r hr w hw => h r hr w (hw.cut k hk hz h0 h1 hH)
/-- What clear leaves of l: nought from place o on. -/
def clearAt (l : List α) (o : Nat) (z : α) : List α := l.take o ++ List.replicate (l.length - o) z
theorem clearAt_len (l : List α) {o : Nat} (z : α) (h : o ≤ l.length) : (clearAt l o z).length = l.length := by simp [clearAt]; omega
/-- clear(s[i:]): a part of a row that is owned; elements of one cell. -/
theorem lm_clear (k : Nat) {x : Operand} {t el bytes : Nat} {enc : α → List Value} {A A1 : Option Addr} {n1 c n2 c2 : Nat} {l : List α} (o : Nat) (z : α) {zv : Value} (hc : chk0 ops e ⟨dst, .call ⟨.builtin .clear, #[x], #[t]⟩, ty, ps, af, g⟩ = true) (hT : rowOk P t el 1 bytes = true) (hz : ∀ x, (enc x).length = 1) (h1 : ∀ x, (enc x).all Value.oneCell' = true)
  (hzv : zeroOf P el = some zv) (hze : enc z = [zv]) (hzc : zv.cells = #[zv]) (hk : H[k]? = some (ownE el 1 enc A n1 c l)) (hd : eev e x = .slice A1 n2 c2) (hA1 : ∀ w, Hs w0 H w → 0 < n2 → A1 = some ⟨ab A, ao A + o * 1, none⟩) (hn2 : ∀ w, Hs w0 H w → n2 = l.length - o) (ho : o ≤ l.length)
  (next : Lm P n w0 ops Q rest m e (H.set k (ownE el 1 enc A n1 c (clearAt l o z)))) : Lm P n w0 ops Q (⟨dst, .call ⟨.builtin .clear, #[x], #[t]⟩, ty, ps, af, g⟩ :: rest) m e H := fun r hr w hw => by
 obtain ⟨hn, hown⟩ := hw.get k hk
 have hA1 := hA1 w hw
 have hn2 := hn2 w hw
 obtain ⟨hu, inf, z', hi, hzz, q1, q2, q3, q4⟩ := rowOk_spec hT
 have hzv' : z' = zv := by
  unfold zeroOf at hzv
  rw [hi] at hzv
  simp [hzz] at hzv
  exact hzv
 subst hzv'
 have hv0 : ∀ w, (zeroValue el).run P w = .ok z' w := fun w => by simp [zeroValue, typeInfo, hi, hzz]
 have hone : z'.oneCell' = true := by
  have := List.all_eq_true.1 (h1 z) z' (by rw [hze]; simp)
  exact this
 rcases Nat.eq_zero_or_pos n2 with h0 | hp
 ·have hsame : clearAt l o z = l := by
   unfold clearAt
   rw [show l.length - o = 0 by omega, List.replicate_zero, List.append_nil, List.take_of_length_le (by omega)]
  rw [hsame, set_same hk] at next
  refine wl_run0 hc (w' := w) (v := .tuple #[]) ?_ (next r hr w hw)
  simp only [execOp, resolve, invoke, builtin, Sem.run_bind, Sem.run_pure, Result.andThen_ok, List.map_toArray, List.map_cons, List.map_nil, hd]
  subst h0
  cases A1 <;> simp [Builtin.clear_, run_underlying hu]
 ·obtain rfl := hA1 hp
  rcases hown.2 with ⟨_, h00⟩ | ⟨gg, cap, cur, hvv, _, hh, hnc, hmx, hsz, htk⟩
  ·omega
  ·injection hvv with a1 a2 a3
   subst a1
   have hab : ab (some (⟨gg, 0, none⟩ : Addr)) = gg := rfl
   have hao : ao (some (⟨gg, 0, none⟩ : Addr)) = 0 := rfl
   rw [hab, hao, Nat.zero_add, Nat.mul_one] at hd
   have hlenl : l.length ≤ cap := by omega
   have hcs : cur.size = cap := by omega
   have hrl : (List.replicate n2 z').length = n2 := List.length_replicate
   have hst := run_storeCells_at (P := P) gg o el (List.replicate n2 z') 0 cur w hh (by rw [hrl]; omega) (fun u hu => by rw [(List.mem_replicate.1 hu).2]; exact hone)
   simp only [Nat.add_zero, hrl] at hst
   have hzcs : (Builtin.zeroCells z'.cells n2).toList = List.replicate n2 z' := by
    rw [hzc]
    simp only [Builtin.zeroCells]
    apply List.ext_getElem
    ·simp
    ·intro j _ _
     simp [Nat.mod_one]
   have hrun : (Builtin.clear_ #[t] ty #[.slice (some ⟨gg, o, none⟩) n2 c2]).run P w = .ok (.tuple #[]) (w.setRow gg (cur.toList.take o ++ List.replicate n2 z' ++ cur.toList.drop (o + n2)).toArray) := by
    cases n2 with
    | zero => omega
    | succ k => simp only [Builtin.clear_]; simp [run_underlying hu, hv0, hzcs, hst, Result.andThen]
   refine wl_run0 hc (v := .tuple #[]) (w' := w.setRow gg (cur.toList.take o ++ List.replicate n2 z' ++ cur.toList.drop (o + n2)).toArray) ?_ (next r hr _ ?_)
   ·simp only [execOp, resolve, invoke, builtin, Sem.run_bind, Sem.run_pure, Result.andThen_ok, List.map_toArray, List.map_cons, List.map_nil, hd, hrun]
   ·refine hw.set_ k hk (below_setRow (Below.refl 0 w) (Nat.zero_le gg) _) (Nat.le_refl _) (fun b _ hb' => ?_) ⟨by rw [clearAt_len l z ho]; exact hn, ?_, .inr ⟨gg, cap, _, by rw [a3], Nat.zero_le _, setRow_heap w gg cur _ el _ hh, hnc, hmx, ?_, ?_⟩⟩ (fun b hb' => ?_)
    ·exact setRow_other w gg b _ (fun e1 => hb' (by rw [e1]; rfl))
    ·rw [flat_len hz, clearAt_len l z ho, hn]
    ·have hcl : cur.toList.length = cap := by simpa using hcs
     simp only [List.size_toArray, List.length_append, List.length_take, List.length_drop, hcl, hrl]
     omega
    ·have hcl : cur.toList.length = cap := by simpa using hcs
     have hrep : (List.replicate (l.length - o) z).flatMap enc = List.replicate n2 z' := by
      rw [hn2]
      generalize l.length - o = q
      clear next
      induction q with
      | zero => rfl
      | succ q ih => rw [List.replicate_succ, List.flatMap_cons, ih, hze, List.replicate_succ]; rfl
     simp only [clearAt, List.flatMap_append, hrep]
     rw [flat_take hz l o, ← htk, Nat.mul_one, Nat.mul_one]
     rw [List.take_append, List.take_append, List.take_take, List.take_take, Nat.min_eq_right (by omega), Nat.min_eq_left (by omega)]
     simp only [List.length_append, List.length_take, hcl, hrl]
     rw [Nat.min_eq_left (by omega), List.take_of_length_le (l := List.replicate n2 z') (by rw [hrl]; omega)]
     have : n1 - (o + n2) = 0 := by omega
     rw [this]
     simp
    ·have e1 : b = gg := by simpa [ownE, Value.ownBlock] using hb'.symm
     subst e1
     exact ⟨.inl rfl, by simpa [World.setRow] using (Array.getElem?_eq_some_iff.1 hh).1⟩
end
end Go.Proofs.YtbnimhmoffchdaaGreatDoor
/- Deco: slices cut to their own capacity ('x[:k:k]'), and what is appended to them: always a new row. Over any program. -/
namespace Go.Proofs.YtbnimhmoffchdaaGreatDoor
open Go.RowKit
set_option linter.unusedSectionVars false
variable [JF]

section
variable {α : Type}
theorem RdE.take3 {w : World} {sz : Nat} {enc : α → List Value} {A : Option Addr} {l : List α} {i : Int} (h : RdE w sz enc A l) (h0 : 0 ≤ i) (h1 : i ≤ l.length) : RdE w sz enc A (l.take i.toNat) := h.take h0 h1
theorem SW.take3 {A : Option Addr} {n c : Nat} {l : List α} {i : Int} (h : SW A n c l.length) (h0 : 0 ≤ i) (h1 : i ≤ l.length) : SW A i.toNat i.toNat (l.take i.toNat).length := by
 obtain ⟨a1, a2, a3⟩ := h
 exact ⟨fun hA => by have := a1 hA; omega, Nat.le_refl _, by simp; omega⟩
end
section
variable {P : Program} {e : Env} {w w0 : World} {d : Option Tmp} {ty : TypeId} {ps : String} {af : Array Edge} {g : Option (Nat × Bool)} {α : Type} {H : List HE}
theorem op_slice3 {t : TypeId} {x hi mx : Operand} {A : Option Addr} {n c : Nat} {l : List α} {i : Int} (hx : eev e x = .slice A n c) (hh : eev e hi = .int .i64 i) (hm : eev e mx = .int .i64 i) (ht : isSliceT P t = true) (hs : (elemSz P t).isSome = true) (hA : 0 < n → A = some ⟨ab A, ao A, none⟩) (hw : SW A n c l.length) (h0 : 0 ≤ i) (h1 : i ≤ l.length) :
  OpV P e w ⟨d, .slice t x none (some hi) (some mx), ty, ps, af, g⟩ (.slice A i.toNat i.toNat) := by
 obtain ⟨a1, a2, a3⟩ := hw
 obtain ⟨k, rfl⟩ := Int.eq_ofNat_of_zero_le h0
 unfold isSliceT at ht
 split at ht
 ·rename_i E hu
  cases hE : P.info? E with
  | none => rw [elemSz, hu] at hs; simp [hE] at hs
  | some inf =>
   have hkc : k ≤ c := by omega
   simp only [OpV, execOp, Instr.sliceAt, hx, Option.map_some, Option.map_none, hh, hm]
   simp [run_underlying hu, Instr.slice, Instr.sliceBounds, Instr.sliceBound, asIntOf, hkc, sizeOf, typeInfo, hE]
   intro hk
   have := hA (by omega)
   rw [this]
   simp [add_lit]
 ·cases ht
theorem RdE.some_ {sz : Nat} {enc : α → List Value} {A : Option Addr} {l : List α} {n c : Nat} (h : RdE w sz enc A l) (hz : SW A n c l.length) : 0 < n → A = some ⟨ab A, ao A, none⟩ := fun hp => by
 obtain ⟨b, off, rfl, _⟩ := h.2 (by have := hz.2.2; omega)
 rfl
end
section
variable {P : Program} {n : Nat} {w0 : World} {ρ : Type} {Q : ρ → Exit → Act → World → Prop} {m : Option ρ} {e : Env} {H H' : List HE} {ops : Array Oper} {rest : List Oper} {α : Type}
variable {dst : Option Tmp} {ty : TypeId} {ps : String} {af : Array Edge} {g : Option (Nat × Bool)}
theorem new_row {w : World} {el sz : Nat} {enc : α → List Value} {k cap : Nat} {l : List α} {z : Value} (hz : ∀ x, (enc x).length = sz) (hzs : z.cells.size = sz) (hk : k = l.length) (hge : k ≤ cap) (hcm : cap ≤ maxLen) (hw : Hs w0 H w) :
  Hs w0 (ownE el sz enc (some ⟨w.heap.size, 0, none⟩) k cap l :: H) (w.drew.alloc (.cells ((l.flatMap enc).toArray ++ Builtin.zeroCells z.cells (cap - k)) el)) := by
 have hfl := flat_len hz l
 refine hw.drew.push ((Below.refl _ _).alloc (Nat.le_refl _) _) (Nat.le_refl _) ⟨hk, by rw [hfl, hk], .inr ⟨w.heap.size, cap, _, rfl, Nat.zero_le _, heap_alloc_new w.drew _, hge, hcm, ?_, ?_⟩⟩ (fun b hb => ?_)
 ·simp only [Array.size_append, List.size_toArray, size_zeroCells, hzs, hfl, ← hk, ← Nat.add_mul]
  congr 1
  omega
 ·have : k * sz = (l.flatMap enc).length := by rw [hfl, hk]
  rw [this]
  simp
 ·have e1 : b = w.heap.size := by simpa [ownE, Value.ownBlock] using hb.symm
  subst e1
  exact ⟨Nat.le_refl _, by simp⟩
theorem rn_appendF {w : World} {s x : Operand} {t el sz bytes : Nat} {enc : α → List Value} {A A2 : Option Addr} {n1 n2 c2 : Nat} {l l2 : List α} (hT : rowOk P t el sz bytes = true) (hz : ∀ x, (enc x).length = sz)
  (hs : eev e s = .slice A n1 n1) (hA1 : SW A n1 n1 l.length) (rd1 : RdE w sz enc A l) (hx : eev e x = .slice A2 n2 c2) (hA2 : SW A2 n2 c2 l2.length) (rd : RdE w sz enc A2 l2) (hp : 0 < l2.length) (hlen : (l.length + l2.length) * bytes ≤ 140737488355328) (hl63 : l.length + l2.length ≤ 9223372036854775807) (hw : Hs w0 H w) :
  ∃ A' n' c' w', (execOp (eev e) ⟨dst, .call ⟨.builtin .append, #[s, x], #[t, t]⟩, ty, ps, af, g⟩).run P w = .ok (.value (.slice A' n' c')) w' ∧ Hs w0 (ownE el sz enc A' n' c' (l ++ l2) :: H) w' := by
 obtain ⟨hu, i, z, hi, hzz, q1, q2, q3, q4⟩ := rowOk_spec hT
 obtain ⟨_, _, hn1⟩ := hA1
 obtain ⟨_, _, hn2⟩ := hA2
 subst hn1 hn2
 obtain ⟨b2, o2, rfl, _⟩ := rd.2 hp
 have hc2 := rd.flat hz
 subst q1 q2
 have hge := grownCap_ge w (l.length + l2.length) l.length el
 have hcm : grownCap w (l.length + l2.length) l.length el ≤ maxLen := grownCap_le_maxLen w (l.length + l2.length) l.length el (by unfold maxLen; exact hl63)
 cases A with
 | none =>
  have h2 : l = [] := by
   cases l with
   | nil => rfl
   | cons y ys => obtain ⟨b, off, e1, _⟩ := rd1.2 (by simp); cases e1
  subst h2
  simp only [List.length_nil, Nat.zero_add, List.nil_append] at hs hlen hl63 hge hcm ⊢
  have hr := run_append_nil (P := P) w t ty el i z hu hi hzz ⟨b2, o2, none⟩ l2.length c2 (l2.flatMap enc) (flat_len hz l2) hc2 hp (by omega) (by omega)
  refine ⟨_, _, _, _, ?_, new_row hz q3 rfl hge hcm hw⟩
  simp only [execOp, resolve, invoke, builtin, Sem.run_bind, Sem.run_pure, Result.andThen_ok, List.map_toArray, List.map_cons, List.map_nil, hs, hx, hr]
 | some ad =>
  have hr := run_append_grow (P := P) w t ty el i z hu hi hzz ad l.length l.length (l.flatMap enc) (flat_len hz l) (rd1.flat hz) ⟨b2, o2, none⟩ l2.length c2 (l2.flatMap enc) (flat_len hz l2) hc2 (by omega) (by omega) (growslice_fits (by omega) hlen)
  have hnew := new_row (el := el) (l := l ++ l2) hz q3 (List.length_append).symm hge hcm hw
  refine ⟨_, _, _, _, ?_, hnew⟩
  simp only [execOp, resolve, invoke, builtin, Sem.run_bind, Sem.run_pure, Result.andThen_ok, List.map_toArray, List.map_cons, List.map_nil, hs, hx, hr]
  simp [List.flatMap_append]
theorem lm_appendF (d : Nat) {s x : Operand} {t el sz bytes : Nat} {enc : α → List Value} {A A2 : Option Addr} {n1 n2 c2 : Nat} {l l2 : List α}
  (hc : chk ops e n ⟨dst, .call ⟨.builtin .append, #[s, x], #[t, t]⟩, ty, ps, af, g⟩ d true = true) (hT : rowOk P t el sz bytes = true) (hz : ∀ x, (enc x).length = sz) (hs : eev e s = .slice A n1 n1) (hA1 : ∀ w, Hs w0 H w → SW A n1 n1 l.length) (rd1 : ∀ w, Hs w0 H w → RdE w sz enc A l)
  (hx : eev e x = .slice A2 n2 c2) (hA2 : ∀ w, Hs w0 H w → SW A2 n2 c2 l2.length) (rd : ∀ w, Hs w0 H w → RdE w sz enc A2 l2) (hp : 0 < l2.length) (hlen : (l.length + l2.length) * bytes ≤ 140737488355328) (hby : Nat.blt 0 bytes = true)
  (next : ∀ A' n' c', Lm P n w0 ops Q rest m ((d, .slice A' n' c') :: e) (ownE el sz enc A' n' c' (l ++ l2) :: H)) :
  Lm P n w0 ops Q (⟨dst, .call ⟨.builtin .append, #[s, x], #[t, t]⟩, ty, ps, af, g⟩ :: rest) m e H := fun r hr w hw => by
 have hb : 0 < bytes := by simpa using hby
 have h63 : l.length + l2.length ≤ 9223372036854775807 := Nat.le_trans (Nat.le_mul_of_pos_right _ hb) (Nat.le_trans hlen (by decide))
 obtain ⟨A', n', c', w', hrun, hw'⟩ := rn_appendF (dst := dst) (ty := ty) (ps := ps) (af := af) (g := g) hT hz hs (hA1 w hw) (rd1 w hw) hx (hA2 w hw) (rd w hw) hp hlen h63 hw
 exact wl_run d hc hrun (next A' n' c' r hr w' hw')
end
end Go.Proofs.YtbnimhmoffchdaaGreatDoor
/- Deco, more operations: strings (equality, bytes, concatenation), '!=' of structs. Over any program. -/
namespace Go.Proofs.YtbnimhmoffchdaaGreatDoor
open Go.RowKit
set_option linter.unusedSectionVars false
variable [JF]

def bget (s : ByteArray) (i : Int) : Int := ((s.data[i.toNat]?.getD 0).toNat : Int)
section
variable {P : Program} {e : Env} {w : World} {d : Option Tmp} {ty : TypeId} {ps : String} {af : Array Edge} {g : Option (Nat × Bool)} {t t' : TypeId} {x y : Operand}
theorem beq_bytes (a b : ByteArray) : (a.toList == b.toList) = decide (a = b) := by
 rw [← beq_toListBytes, Bool.eq_iff_iff, decide_eq_true_eq]
 exact MapKept.bytes_beq a b
theorem op_eqlS {a b : ByteArray} (hx : eev e x = .string a) (hy : eev e y = .string b) : OpV P e w ⟨d, .binOp .eql t x y t', ty, ps, af, g⟩ (.bool (decide (a = b))) := by
 rw [← beq_bytes]
 simp [OpV, execOp, hx, hy, eqGuard, binOp, Op.stringOp]
def isStrT (P : Program) (t : TypeId) : Bool := match P.underlying t with
 | some .string => true
 | _ => false
theorem op_indexS {s : ByteArray} {i : Int} (hx : eev e x = .string s) (hi : eev e y = .int .i64 i) (ht : isStrT P t = true) (h0 : 0 ≤ i) (h1 : i < (ByteArray.size s : Int)) : OpV P e w ⟨d, .index t x y, ty, ps, af, g⟩ (.int .u8 (bget s i)) := by
 unfold isStrT at ht
 split at ht
 ·rename_i hu
  obtain ⟨k, rfl⟩ := Int.eq_ofNat_of_zero_le h0
  have hk : k < s.size := by omega
  have hk2 : k < s.data.size := hk
  have e1 : s[k]? = some s[k] := by simp [hk]
  have e2 : bget s (k : Int) = (s[k].toNat : Int) := by
   unfold bget
   rw [Int.toNat_natCast, Array.getElem?_eq_getElem hk2]
   rfl
  rw [e2]
  simp [OpV, execOp, hx, hi, Instr.index, asIntOf, run_underlying hu, e1]
 ·cases ht
theorem ws_append {σ : Type} {P : Program} {n : Nat} {ops : Array Oper} {E : σ → Env} {HQ : σ → World → Prop} {S : World → Prop} {fuel : Nat} {listed : Array Bool} {e : Env} {w w0 : World} {H : List HE} {dst : Option Tmp} {ty : TypeId} {ps : String} {af : Array Edge} {g : Option (Nat × Bool)} {α : Type} {i : Nat}
  (d k : Nat) {s x : Operand} {t el sz bytes : Nat} {enc : α → List Value} {A A2 : Option Addr} {n1 c n2 c2 : Nat} {l l2 : List α} (hi : ops[i]? = some ⟨dst, .call ⟨.builtin .append, #[s, x], #[t, t]⟩, ty, ps, af, g⟩)
  (hc : chk ops e n ⟨dst, .call ⟨.builtin .append, #[s, x], #[t, t]⟩, ty, ps, af, g⟩ d true = true) (hT : rowOk P t el sz bytes = true) (hz : ∀ x, (enc x).length = sz) (h1 : ∀ x, (enc x).all Value.oneCell' = true) (hk : H[k]? = some (ownE el sz enc A n1 c l)) (hs : eev e s = .slice A n1 c)
  (hx : eev e x = .slice A2 n2 c2) (hA2 : SW A2 n2 c2 l2.length) (rd : RdE w sz enc A2 l2) (hlen : (l.length + l2.length) * bytes ≤ 140737488355328) (hby : Nat.blt 0 bytes = true) (hw : Hs w0 H w)
  (next : ∀ A' n' c' w', Hs w0 (H.set k (ownE el sz enc A' n' c' (l ++ l2))) w' → S w' ∧ wh P n ops E HQ S fuel (done listed i) ((d, .slice A' n' c') :: e) w') : ws P n ops E HQ S fuel listed e w i := by
 have hb : 0 < bytes := by simpa using hby
 have h63 : l.length + l2.length ≤ 9223372036854775807 := Nat.le_trans (Nat.le_mul_of_pos_right _ hb) (Nat.le_trans hlen (by decide))
 obtain ⟨A', n', c', w', hrun, hw'⟩ := run_appendE (dst := dst) (ty := ty) (ps := ps) (af := af) (g := g) k hT hz h1 hk hs hx hA2 rd hlen h63 hw
 obtain ⟨q1, q2⟩ := next A' n' c' w' hw'
 exact ws_run d hi hc hrun q1 q2
theorem op_neqK {a b : Int} {k : IntKind} (hx : eev e x = .int k a) (hy : eev e y = .int k b) : OpV P e w ⟨d, .binOp .neq t x y t', ty, ps, af, g⟩ (.bool (decide (a ≠ b))) := by
 have : (a != b) = decide (a ≠ b) := by rw [Bool.eq_iff_iff]; simp
 simp only [OpV, execOp, hx, hy, eqGuard, binOp, Op.intCmp]
 simp [this]
theorem op_lenS {s : ByteArray} (hx : eev e x = .string s) (ht : isStrT P t = true) : OpV P e w ⟨d, .call ⟨.builtin .len, #[x], #[t]⟩, ty, ps, af, g⟩ (.int .i64 (ByteArray.size s : Int)) := by
 unfold isStrT at ht
 split at ht
 ·rename_i hu
  simp [OpV, execOp, resolve, invoke, builtin, Builtin.len_, hx, run_underlying hu, goInt]
 ·cases ht
/-- '!=' on structs of ints and bools. -/
theorem op_neqFlat {cs ds : List Value} {fs : Array Field} {b : Bool} (hx : eev e x = .agg cs.toArray) (hy : eev e y = .agg ds.toArray)
  (hu : P.underlying t = some (.struct fs)) (hst : P.stoodInHeld t = false) (hgt : P.eqGuardType P.depth t = false) (hf : flatL P 0 (P.fieldsOf t).toList cs ds = true) (hb : celsEq cs ds = b) : OpV P e w ⟨d, .binOp .neq t x y t', ty, ps, af, g⟩ (.bool (!b)) := by
 have hfs : P.fieldsOf t = fs := by unfold Program.fieldsOf; rw [hu]
 have h1 : (Op.equal t (.agg cs.toArray) (.agg ds.toArray)).run P w = .ok b w := by
  unfold Op.equal Op.maxDepth
  rw [run_equalIn_struct w 9999 t _ _ (by rw [hfs]; exact hu) hst]
  have := run_eqFields_flat (P := P) (w := w) 9998 (P.fieldsOf t).toList cs ds [] [] hf rfl
  simp only [List.nil_append] at this
  rw [this, hb]
 simp only [OpV, execOp, hx, hy]
 simp [eqGuard, hgt, binOp, h1]
end
end Go.Proofs.YtbnimhmoffchdaaGreatDoor
/- Deco: values of interfaces: integers, strings, empty structs; type assertions; calls of methods. Over any program. -/
namespace Go.Proofs.YtbnimhmoffchdaaGreatDoor
open Go.RowKit
set_option linter.unusedSectionVars false
variable [JF]

inductive IfV where
 | nil
 | int (t : Nat) (n : Int)
 | str (t : Nat) (s : ByteArray)
 | obj (t : Nat)
deriving DecidableEq, Inhabited
def valIf : IfV → Value
 | .nil => .nilIface
 | .int t n => .iface t (.int .i64 n)
 | .str t s => .iface t (.string s)
 | .obj t => .iface t (.agg #[])
def encIf (x : IfV) : List Value := [valIf x]
/-- What an assertion to an integer's or a string's type gives. -/
def ifInt (a : Nat) : IfV → Int
 | .int t n => if t = a then n else 0
 | _ => 0
def ifStr (a : Nat) : IfV → ByteArray
 | .str t s => if t = a then s else ⟨#[]⟩
 | _ => ⟨#[]⟩
def ifIsInt (a : Nat) : IfV → Bool
 | .int t _ => decide (t = a)
 | _ => false
def ifIsStr (a : Nat) : IfV → Bool
 | .str t _ => decide (t = a)
 | _ => false
/-- The value's type says what it is. -/
def ifOkInt (a : Nat) : IfV → Bool
 | .str t _ => decide (t ≠ a)
 | .obj t => decide (t ≠ a)
 | _ => true
def ifOkStr (a : Nat) : IfV → Bool
 | .int t _ => decide (t ≠ a)
 | .obj t => decide (t ≠ a)
 | _ => true
section
variable {P : Program} {e : Env} {w : World} {d : Option Tmp} {ty : TypeId} {ps : String} {af : Array Edge} {g : Option (Nat × Bool)} {x : Operand}
def notIf (P : Program) (t : TypeId) : Bool := match P.underlying t with
 | some (.interface _) => false
 | some _ => true
 | none => false
end
end Go.Proofs.YtbnimhmoffchdaaGreatDoor
/- Deco: picks by a test that is not decided, parts of strings. -/
namespace Go.Proofs.YtbnimhmoffchdaaGreatDoor
open Go.RowKit
set_option linter.unusedSectionVars false
variable [JF]
/-- Sums that may go round. -/
def wr64 (n : Int) : Int := if -9223372036854775808 ≤ n ∧ n ≤ 9223372036854775807 then n else IntKind.i64.wrap n
theorem wr64_wrap (n : Int) : IntKind.i64.wrap n = wr64 n := by
 unfold wr64
 split
 ·exact IntWalk.i64_in n ‹_›
 ·rfl
section
variable {P : Program} {e : Env} {w : World} {d : Option Tmp} {ty : TypeId} {ps : String} {af : Array Edge} {g : Option (Nat × Bool)}
theorem op_subW {t t' : TypeId} {x y : Operand} {a b : Int} (hx : eev e x = .int .i64 a) (hy : eev e y = .int .i64 b) : OpV P e w ⟨d, .binOp .sub t x y t', ty, ps, af, g⟩ (.int .i64 (wr64 (a - b))) := by
 simp [OpV, execOp, hx, hy, eqGuard, binOp, Op.intArith, wr64_wrap]
end
end Go.Proofs.YtbnimhmoffchdaaGreatDoor
