/- Deco: maps that the call made: a block of entries against a list of pairs. Over any program. -/
import Derived.Test.YtpbgfdmkebnjgaaGreatDoorDOps3
import Derived.Maps.Own
import Derived.StringKeys
namespace Go.Proofs.YtpbgfdmkebnjgaaGreatDoor
open Go.RowKit Go.Maps Go.MapKept
set_option linter.unusedSectionVars false
variable [JF]

section
variable {κ α : Type} [DecidableEq κ]
def mget (l : List (κ × α)) (x : κ) : Option α := match l with
  | [] => none
  | p :: r => if p.1 = x then some p.2 else mget r x
def mput (l : List (κ × α)) (x : κ) (a : α) : List (κ × α) := match l with
  | [] => [(x, a)]
  | p :: r => if p.1 = x then (x, a) :: r else p :: mput r x a
theorem mget_none {l : List (κ × α)} {x : κ} (h : ∀ p ∈ l, p.1 ≠ x) : mget l x = none := by
  induction l with
  | nil => rfl
  | cons p r ih =>
    unfold mget
    rw [if_neg (h p (List.mem_cons_self ..)), ih fun q hq => h q (List.mem_cons_of_mem _ hq)]
theorem mput_none {l : List (κ × α)} {x : κ} {a : α} (h : ∀ p ∈ l, p.1 ≠ x) : mput l x a = l ++ [(x, a)] := by
  induction l with
  | nil => rfl
  | cons p r ih =>
    unfold mput
    rw [if_neg (h p (List.mem_cons_self ..)), ih fun q hq => h q (List.mem_cons_of_mem _ hq)]
    rfl
theorem mget_at {l : List (κ × α)} {x : κ} {j : Nat} {p : κ × α} (hn : (l.map Prod.fst).Nodup) (hj : l[j]? = some p) (hp : p.1 = x) : mget l x = some p.2 := by
  induction l generalizing j with
  | nil => simp at hj
  | cons q r ih =>
    unfold mget
    cases j with
    | zero => simp at hj; subst hj; rw [if_pos hp]
    | succ j =>
      simp only [List.getElem?_cons_succ] at hj
      have hm : p ∈ r := List.mem_of_getElem? hj
      have hn' := List.nodup_cons.1 (show (q.1 :: r.map Prod.fst).Nodup from hn)
      rw [if_neg (fun e => hn'.1 (by rw [e, ← hp]; exact List.mem_map_of_mem hm)), ih hn'.2 hj]
theorem mput_at {l : List (κ × α)} {x : κ} {a : α} {j : Nat} {p : κ × α} (hn : (l.map Prod.fst).Nodup) (hj : l[j]? = some p) (hp : p.1 = x) : mput l x a = l.set j (x, a) := by
  induction l generalizing j with
  | nil => simp at hj
  | cons q r ih =>
    unfold mput
    cases j with
    | zero => simp at hj; subst hj; rw [if_pos hp]; rfl
    | succ j =>
      simp only [List.getElem?_cons_succ] at hj
      have hm : p ∈ r := List.mem_of_getElem? hj
      have hn' := List.nodup_cons.1 (show (q.1 :: r.map Prod.fst).Nodup from hn)
      rw [if_neg (fun e => hn'.1 (by rw [e, ← hp]; exact List.mem_map_of_mem hm)), ih hn'.2 hj]
      rfl
theorem mput_keys {l : List (κ × α)} {x : κ} {a : α} : ∀ y, y ∈ (mput l x a).map Prod.fst ↔ y = x ∨ y ∈ l.map Prod.fst := by
  intro y
  induction l with
  | nil => simp [mput]
  | cons q r ih =>
    unfold mput
    split
    · rename_i h
      simp only [List.map_cons, List.mem_cons, h]
      constructor
      · rintro (h | h)
        · exact .inl h
        · exact .inr (.inr h)
      · rintro (h | h | h)
        · exact .inl h
        · exact .inl h
        · exact .inr h
    · simp only [List.map_cons, List.mem_cons, ih]
      constructor
      · rintro (h | h | h)
        · exact .inr (.inl h)
        · exact .inl h
        · exact .inr (.inr h)
      · rintro (h | h | h)
        · exact .inr (.inl h)
        · exact .inl h
        · exact .inr (.inr h)
theorem mput_nodup {l : List (κ × α)} {x : κ} {a : α} (hn : (l.map Prod.fst).Nodup) : ((mput l x a).map Prod.fst).Nodup := by
  induction l with
  | nil => simp [mput]
  | cons q r ih =>
    unfold mput
    have hn' := List.nodup_cons.1 (show (q.1 :: r.map Prod.fst).Nodup from hn)
    split
    · rename_i h
      simp only [List.map_cons]
      exact List.nodup_cons.2 ⟨by rw [← h]; exact hn'.1, hn'.2⟩
    · rename_i h
      simp only [List.map_cons]
      refine List.nodup_cons.2 ⟨fun hm => ?_, ih hn'.2⟩
      rcases (mput_keys (l := r) (x := x) (a := a) q.1).1 hm with e | hm
      · exact h e
      · exact hn'.1 hm
theorem mget_mput_same (l : List (κ × α)) (x : κ) (a : α) : mget (mput l x a) x = some a := by
  induction l with
  | nil => simp [mput, mget]
  | cons q r ih =>
    unfold mput
    split
    · simp [mget]
    · rename_i h
      unfold mget
      rw [if_neg h, ih]
theorem mget_mput_other {l : List (κ × α)} {x y : κ} {a : α} (hne : y ≠ x) : mget (mput l x a) y = mget l y := by
  induction l with
  | nil => simp [mput, mget, hne.symm]
  | cons q r ih =>
    unfold mput
    split
    · rename_i h
      unfold mget
      rw [if_neg hne.symm, if_neg (fun e => hne (by rw [← e, h]))]
    · unfold mget
      rw [ih]
theorem mget_mput (l : List (κ × α)) (x y : κ) (a : α) : mget (mput l x a) y = if y = x then some a else mget l y := by
  split
  · rename_i h; subst h; exact mget_mput_same l y a
  · exact mget_mput_other ‹_›
theorem mput_length (l : List (κ × α)) (x : κ) (a : α) : (mput l x a).length ≤ l.length + 1 := by
  induction l with
  | nil => simp [mput]
  | cons q r ih =>
    unfold mput
    split
    · simp
    · simp only [List.length_cons]; omega
end

/-- A map's block. -/
def MapB {κ α : Type} (P : Program) (k : TypeId) (ek : κ → Value) (ev : α → Value) (b : Nat) (l : List (κ × α)) (w : World) : Prop :=
  ∃ es clock, w.heap[b]? = some (.map es clock) ∧ es.toList.map (fun e => (e.key, e.val)) = l.map (fun p => (ek p.1, ev p.2)) ∧ (∀ e ∈ es.toList, ∃ y, keyOf P k e.key = some y) ∧ (l.map Prod.fst).Nodup
def mapE {κ α : Type} (P : Program) (k : TypeId) (ek : κ → Value) (ev : α → Value) (b : Nat) (l : List (κ × α)) : HE :=
  ⟨fun x => x = b, MapB P k ek ev b l, fun w w' h hw => by
    obtain ⟨es, clock, hb, hr⟩ := hw
    exact ⟨es, clock, (h b rfl).trans hb, hr⟩⟩
section
variable {κ α : Type} {P : Program} {k : TypeId} {ek : κ → Value} {ev : α → Value} {b : Nat} {l : List (κ × α)} {w : World}
theorem MapB.lt (h : MapB P k ek ev b l w) : b < w.heap.size := by
  obtain ⟨es, clock, hb, _⟩ := h
  exact (Array.getElem?_eq_some_iff.1 hb).1
/-- Either no entry bears the key, or one does. -/
theorem MapB.find [DecidableEq κ] (h : MapB P k ek ev b l w) (K : Keyed P k) (hinj : ∀ x y, ek x = ek y → x = y) {x : κ} (hx : ∃ y, keyOf P k (ek x) = some y) (w' : World) :
    ∃ es clock, w.heap[b]? = some (.map es clock) ∧ es.toList.map (fun e => (e.key, e.val)) = l.map (fun p => (ek p.1, ev p.2)) ∧ (∀ e ∈ es.toList, ∃ y, keyOf P k e.key = some y) ∧ (l.map Prod.fst).Nodup ∧
      (((Instr.findKey k (ek x) es.toList).run P w' = .ok none w' ∧ (∀ p ∈ l, p.1 ≠ x)) ∨
        ∃ j e p, (Instr.findKey k (ek x) es.toList).run P w' = .ok (some (j, ev p.2)) w' ∧ es.toList[j]? = some e ∧ e.key = ek x ∧ e.val = ev p.2 ∧ l[j]? = some p ∧ p.1 = x) := by
  obtain ⟨es, clock, hb, hm, hk, hn⟩ := h
  obtain ⟨y, hy⟩ := hx
  refine ⟨es, clock, hb, hm, hk, hn, ?_⟩
  rcases K.find w' hy es.toList hk with ⟨h1, h2⟩ | ⟨j, e, h1, h2, h3⟩
  · refine .inl ⟨h1, fun p hp e1 => ?_⟩
    have : (ek p.1, ev p.2) ∈ es.toList.map (fun e => (e.key, e.val)) := by rw [hm]; exact List.mem_map.2 ⟨p, hp, rfl⟩
    obtain ⟨e, he, heq⟩ := List.mem_map.1 this
    injection heq with h3 h4
    exact h2 e he (by rw [h3, e1])
  · have e1 : (es.toList.map (fun e => (e.key, e.val)))[j]? = some (e.key, e.val) := by rw [List.getElem?_map, h2]; rfl
    rw [hm, List.getElem?_map] at e1
    cases hp : l[j]? with
    | none => rw [hp] at e1; cases e1
    | some p =>
      rw [hp] at e1
      simp only [Option.map_some, Option.some.injEq, Prod.mk.injEq] at e1
      refine .inr ⟨j, e, p, by rw [h1, e1.2], h2, h3, e1.2.symm, hp, hinj _ _ (by rw [e1.1, h3])⟩
theorem MapB.look [DecidableEq κ] (h : MapB P k ek ev b l w) (K : Keyed P k) (hinj : ∀ x y, ek x = ek y → x = y) {x : κ} (hx : ∃ y, keyOf P k (ek x) = some y) {t e : TypeId} (ht : P.underlying t = some (.map k e)) {z : α} (hz : zeroOf P e = some (ev z)) (c : Bool) :
    (Instr.lookup t (.map (some b)) (ek x) c).run P w = .ok (if c then .tuple #[ev ((mget l x).getD z), .bool (mget l x).isSome] else ev ((mget l x).getD z)) w := by
  obtain ⟨es, clock, hb, _, _, hn, hf⟩ := h.find K hinj hx w
  obtain ⟨y, hy⟩ := hx
  have hz' : (zeroValue e).run P w = .ok (ev z) w := by
    unfold zeroOf at hz
    cases hi : P.info? e with
    | none => rw [hi] at hz; cases hz
    | some i =>
      rw [hi] at hz
      have : i.zero = some (ev z) := by simpa using hz
      simp [zeroValue, typeInfo, hi, this]
  rcases hf with ⟨h1, h2⟩ | ⟨j, e0, p, h1, _, _, _, hj, hp⟩
  · rw [mget_none h2]
    simp [Instr.lookup, run_underlying ht, MapKept.run_getObj_map hb, K.check w _ hy, h1, hz', Result.andThen]
  · rw [mget_at hn hj hp]
    simp [Instr.lookup, run_underlying ht, MapKept.run_getObj_map hb, K.check w _ hy, h1, Result.andThen]
theorem MapB.put [DecidableEq κ] (h : MapB P k ek ev b l w) (K : Keyed P k) (hinj : ∀ x y, ek x = ek y → x = y) {x : κ} (hx : ∃ y, keyOf P k (ek x) = some y) {t e : TypeId} (ht : P.underlying t = some (.map k e)) (a : α) :
    ∃ w', (Instr.mapUpdate t (.map (some b)) (ek x) (ev a)).run P w = .ok () w' ∧ MapB P k ek ev b (mput l x a) w' ∧ Below 0 w w' ∧ w'.drawn = w.drawn ∧ ∀ c, c ≠ b → w'.heap[c]? = w.heap[c]? := by
  obtain ⟨es, clock, hb, hm, hk, hn, hf⟩ := h.find K hinj hx w
  obtain ⟨y, hy⟩ := hx
  have fin : ∀ o : Obj, Below 0 w { w with heap := w.heap.setIfInBounds b o } ∧ ∀ c, c ≠ b → (w.heap.setIfInBounds b o)[c]? = w.heap[c]? := fun o =>
    ⟨⟨rfl, rfl, rfl, by simp, fun c hc => absurd hc (Nat.not_lt_zero _)⟩, fun c hc => (heap_set (o' := o) hb).2 c hc⟩
  rcases hf with ⟨h1, h2⟩ | ⟨j, e0, p, h1, h2, h3, h4, hj, hp⟩
  · refine ⟨{ w with heap := w.heap.setIfInBounds b (.map (es.push ⟨ek x, ev a, clock⟩) (clock + 1)) }, ?_, ⟨_, _, (heap_set hb).1, ?_, ?_, mput_nodup hn⟩, (fin _).1, rfl, (fin _).2⟩
    · simp [Instr.mapUpdate, run_underlying ht, MapKept.run_getObj_map hb, K.check w false hy, h1, MapKept.run_setObj_map _ hb, Result.andThen]
    · rw [mput_none h2, Array.toList_push, List.map_append, List.map_append, hm]
      rfl
    · intro e' he'
      rw [Array.toList_push, List.mem_append] at he'
      rcases he' with he' | he'
      · exact hk e' he'
      · simp at he'; subst he'; exact ⟨y, hy⟩
  · have hj2 : es[j]? = some e0 := by simpa using h2
    have hlist : (es.modify j (fun e' => { e' with key := ek x, val := ev a })).toList = es.toList.set j { e0 with key := ek x, val := ev a } := by rw [Array.toList_modify, ChangeMaps.modify_eq_set _ _ _ _ h2]
    refine ⟨{ w with heap := w.heap.setIfInBounds b (.map (es.modify j (fun e' => { e' with key := ek x, val := ev a })) clock) }, ?_, ⟨_, _, (heap_set hb).1, ?_, ?_, mput_nodup hn⟩, (fin _).1, rfl, (fin _).2⟩
    · simp [Instr.mapUpdate, run_underlying ht, MapKept.run_getObj_map hb, K.check w false hy, h1, hj2, h3, K.stays w hy, MapKept.run_setObj_map _ hb, Result.andThen]
    · rw [hlist, mput_at hn hj hp, List.map_set, List.map_set, hm]
    · intro e' he'
      rw [hlist] at he'
      rcases List.mem_or_eq_of_mem_set he' with he' | rfl
      · exact hk e' he'
      · exact ⟨y, hy⟩
end
theorem ek_int (k : IntKind) : ∀ x y : Int, Value.int k x = Value.int k y → x = y := fun _ _ h => by injection h
theorem ek_str : ∀ x y : ByteArray, Value.string x = Value.string y → x = y := fun _ _ h => by injection h
theorem key_i64 {P : Program} {k : TypeId} (hk : P.underlying k = some (.int .i64)) {x : Int} (h : I64 x) : ∃ y, keyOf P k (.int .i64 x) = some y :=
  ⟨_, keyOf_int_mk hk (by unfold I64 at h; simp only [Lit.wf, Bool.and_eq_true, decide_eq_true_eq]; exact h)⟩
theorem key_str {P : Program} {k : TypeId} (hk : P.underlying k = some .string) {s : ByteArray} (h : ByteArray.size s ≤ 9223372036854775807) : ∃ y, keyOf P k (.string s) = some y :=
  ⟨_, WideMaps.keyOf_string_mk hk (by unfold maxLen; exact h)⟩
theorem Hs.map {κ α : Type} {P : Program} {k : TypeId} {ek : κ → Value} {ev : α → Value} {b : Nat} {l : List (κ × α)} {w0 w : World} {H : List HE} (hs : Hs w0 H w) (j : Nat) (hj : H[j]? = some (mapE P k ek ev b l)) : MapB P k ek ev b l w := hs.get j hj
section
variable {κ α : Type} [DecidableEq κ] {P : Program} {n : Nat} {w0 : World} {ρ : Type} {Q : ρ → Exit → Act → World → Prop} {m : Option ρ} {e : Env} {H H' : List HE} {ops : Array Oper} {rest : List Oper}
variable {dst : Option Tmp} {ty : TypeId} {ps : String} {af : Array Edge} {g : Option (Nat × Bool)}
theorem op_lookup {w : World} {k : TypeId} {ek : κ → Value} {ev : α → Value} {b : Nat} {l : List (κ × α)} {t el : TypeId} {x ix : Operand} {y : κ} (z : α) (hx : eev e x = .map (some b)) (hi : eev e ix = ek y) (K : Keyed P k) (hinj : ∀ x y, ek x = ek y → x = y) (hky : ∃ lit, keyOf P k (ek y) = some lit) (ht : P.underlying t = some (.map k el)) (hz : zeroOf P el = some (ev z)) (hm : MapB P k ek ev b l w) :
    OpV P e w ⟨dst, .lookup t x ix false, ty, ps, af, g⟩ (ev ((mget l y).getD z)) := by
  have := hm.look K hinj hky ht hz false
  simp [OpV, execOp, hx, hi, this]
theorem op_lookupOk {w : World} {k : TypeId} {ek : κ → Value} {ev : α → Value} {b : Nat} {l : List (κ × α)} {t el : TypeId} {x ix : Operand} {y : κ} (z : α) (hx : eev e x = .map (some b)) (hi : eev e ix = ek y) (K : Keyed P k) (hinj : ∀ x y, ek x = ek y → x = y) (hky : ∃ lit, keyOf P k (ek y) = some lit) (ht : P.underlying t = some (.map k el)) (hz : zeroOf P el = some (ev z)) (hm : MapB P k ek ev b l w) :
    OpV P e w ⟨dst, .lookup t x ix true, ty, ps, af, g⟩ (.tuple #[ev ((mget l y).getD z), .bool (mget l y).isSome]) := by
  have := hm.look K hinj hky ht hz true
  simp [OpV, execOp, hx, hi, this]
omit [DecidableEq κ] in
theorem lm_makeMap (d : Nat) {t : TypeId} (k : TypeId) (ek : κ → Value) (ev : α → Value) (hc : chk ops e n ⟨dst, .makeMap t none, ty, ps, af, g⟩ d true = true)
    (next : ∀ b, Lm P n w0 ops Q rest m ((d, .map (some b)) :: e) (mapE P k ek ev b ([] : List (κ × α)) :: H)) : Lm P n w0 ops Q (⟨dst, .makeMap t none, ty, ps, af, g⟩ :: rest) m e H := fun r hr w hw =>
  wl_run d hc (w' := w.alloc (.map #[] 0)) (v := .map (some w.heap.size)) (by simp [execOp, Instr.makeMap, newObj]; rfl) (next _ r hr _
    (hw.push ((Below.refl _ _).alloc (Nat.le_refl _) _) (Nat.le_refl _) ⟨#[], 0, (MapKept.heap_alloc w _).1, rfl, (fun e he => by simp at he), by simp⟩ (fun b hb => by have e1 : b = w.heap.size := hb; subst e1; exact ⟨Nat.le_refl _, by simp⟩)))
theorem lm_mapUpdate (j : Nat) {k : TypeId} {ek : κ → Value} {ev : α → Value} {b : Nat} {l : List (κ × α)} {t el : TypeId} {x ix v : Operand} {y : κ} {a : α} (hc : chk0 ops e ⟨dst, .mapUpdate t x ix v, ty, ps, af, g⟩ = true) (hx : eev e x = .map (some b)) (hi : eev e ix = ek y) (hv : eev e v = ev a)
    (K : Keyed P k) (hinj : ∀ x y, ek x = ek y → x = y) (hky : ∃ lit, keyOf P k (ek y) = some lit) (ht : P.underlying t = some (.map k el)) (hj : H[j]? = some (mapE P k ek ev b l)) (hH : H.set j (mapE P k ek ev b (mput l y a)) = H')
    (next : Lm P n w0 ops Q rest m e H') : Lm P n w0 ops Q (⟨dst, .mapUpdate t x ix v, ty, ps, af, g⟩ :: rest) m e H := fun r hr w hw => by
  obtain ⟨w', hrun, hm', hb, hd, ho⟩ := (hw.map j hj).put K hinj hky ht a
  refine wl_do hc (w' := w') (by simp [execOp, hx, hi, hv, hrun]) (next r hr _ ?_)
  subst hH
  refine hw.set_ j hj hb (Nat.le_of_eq hd.symm) (fun c _ hc' => ho c hc') hm' (fun c hc' => ?_)
  have e1 : c = b := hc'
  subst e1
  exact ⟨.inl rfl, hm'.lt⟩
end
end Go.Proofs.YtpbgfdmkebnjgaaGreatDoor
