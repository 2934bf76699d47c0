/- Layer 59 in plain words: what is looked at in a bill. -/
import Derived.Test.YtbnimhmoffchdaaGreatDoorYP5
import Derived.Test.YtbnimhmoffchdaaGreatDoorZR3
namespace Go.Proofs.YtbnimhmoffchdaaGreatDoor
attribute [local instance] jfTrue

/-- The place of the first that fits, or -1. -/
def idx {α : Type} (p : α → Bool) (l : List α) : Int := match l.findIdx? p with
 | some k => (k : Int)
 | none => -1
theorem index_eq {α : Type} {f : Int → Option (Step Int (Step Unit Int))} {N : Nat} (l : List α) (p : α → Bool) (h : ∀ (i : Nat) (hi : i < l.length), f (i : Int) = if p l[i] = true then some (.done (.done (i : Int))) else some (.next ((i : Int) + 1)))
  (he : f (l.length : Int) = some (.done (.next ()))) (hN : l.length < N) : andThen (loopM f N 0) (fun _ => some (-1)) = some (idx p l) := by
 obtain ⟨r, e1, _, h2⟩ := index_any l p h he hN
 rw [e1]
 congr 1
 unfold idx
 rcases h2 with ⟨rfl, h3⟩ | ⟨k, rfl, hk, h3, h4⟩
 ·rw [List.findIdx?_eq_none_iff.2 (fun x hx => h3 x hx)]
 ·rw [(List.findIdx?_eq_some_iff_getElem (p := p) (xs := l) (i := k)).2 ⟨hk, h3 hk, fun j hj => by
   have := h4 (l[j]'(by omega)) (List.mem_take_iff_getElem.2 ⟨j, by omega, rfl⟩)
   simpa using this⟩]
theorem idx_neg {α : Type} {p : α → Bool} {l : List α} (h : idx p l < 0) : ∀ x ∈ l, p x = false := by
 unfold idx at h
 cases hf : l.findIdx? p with
 | some k => rw [hf] at h; dsimp only at h; omega
 | none => exact fun x hx => List.findIdx?_eq_none_iff.1 hf x hx
theorem idx_pos {α : Type} {p : α → Bool} {l : List α} (h : ¬ idx p l < 0) : ∃ k : Nat, idx p l = (k : Int) ∧ ∃ hk : k < l.length, p l[k] = true ∧ ∀ j (hj : j < k), p (l[j]'(by omega)) = false := by
 unfold idx at h ⊢
 cases hf : l.findIdx? p with
 | none => rw [hf] at h; exact absurd (by decide) h
 | some k =>
  obtain ⟨hk, h1, h2⟩ := List.findIdx?_eq_some_iff_getElem.1 hf
  exact ⟨k, rfl, hk, h1, fun j hj => by simpa using h2 j hj⟩
theorem idx_any {α : Type} (p : α → Bool) (l : List α) : decide (0 ≤ idx p l) = l.any p := by
 by_cases h : idx p l < 0
 ·rw [decide_eq_false (by omega)]
  refine (List.any_eq_false.2 fun x hx => ?_).symm
  rw [idx_neg h x hx]; decide
 ·rw [decide_eq_true (by omega)]
  obtain ⟨k, _, hk, h1, _⟩ := idx_pos h
  exact (List.any_eq_true.2 ⟨_, List.getElem_mem hk, h1⟩).symm
theorem ck_yes {α : Type} {p : Prop} [Decidable p] {x : Option α} (h : p) : ck p x = x := if_pos h

theorem callIf_yes {α ρ : Type} [Inhabited α] {g : Prop} [Decidable g] {m : Option α} {k : α → Option ρ} (h : g) : callIf g m k = m.bind k := if_pos h
theorem callIf_no {α ρ : Type} [Inhabited α] {g : Prop} [Decidable g] {m : Option α} {k : α → Option ρ} (h : ¬ g) : callIf g m k = k default := if_neg h
def wfB (a : ApiAccount) (b : ApiBill) : Prop := (0 ≤ b.Household ∧ b.Household < a.Households.length) ∧ 0 ≤ b.When.From ∧ b.When.From ≤ b.When.To ∧ b.When.To ≤ 36525
def recI (a : ApiAccount) (ref : Int) : Int := idx (fun e : ApiEmptying => decide (e.ID = ref)) a.Emptyings
def recM (a : ApiAccount) (b : ApiBill) (i : Int) : Bool := ((decide (ownerF a.Assigns (ix a.Emptyings i).Container (ix a.Emptyings i).At = some b.Household) && decide (b.When.From * 86400 ≤ (ix a.Emptyings i).At)) && decide ((ix a.Emptyings i).At < b.When.To * 86400))
def recB (a : ApiAccount) (b : ApiBill) (ref : Int) : Bool := decide (0 ≤ recI a ref) && recM a b (recI a ref)
theorem recI_ok {a : ApiAccount} {ref : Int} (h : ¬ recI a ref < 0) : 0 ≤ recI a ref ∧ recI a ref < a.Emptyings.length ∧ (ix a.Emptyings (recI a ref)).ID = ref := by
 obtain ⟨k, e, hk, h1, _⟩ := idx_pos h
 unfold recI
 rw [e]
 refine ⟨by omega, by omega, ?_⟩
 rw [ix_nat hk]
 simpa using h1
theorem recI_eq (a : ApiAccount) (ref : Int) (hl : a.Emptyings.length ≤ 60) : m_slices_IndexFunc_audit_invoice_record_1 40000 a.Emptyings ref = some (recI a ref) := by
 unfold m_slices_IndexFunc_audit_invoice_record_1
 refine index_eq a.Emptyings (fun e => decide (e.ID = ref)) (fun i hi => ?_) (by rw [if_neg (by omega)]) (by omega)
 rw [if_pos (by omega), ck_yes (by omega), ix_nat hi]
 unfold m_audit_invoice_record_1
 rw [Option.bind_some, ck_yes (by unfold I64; omega)]
theorem own_dec (o : Option Int) (h : Int) : (o.isSome && decide (o.getD 0 = h)) = decide (o = some h) := by
 cases o with
 | none => rfl
 | some v => simp
theorem record_eq {v : AuditInvoice} (hl : v.account_.Emptyings.length ≤ 60) (ha : v.account_.Assigns.length ≤ 60) (hw : wfB v.account_ v.Bill) (ref : Int) :
  m_audit_invoice_record 40000 v ref = some (if recI v.account_ ref < 0 then 0 else recI v.account_ ref, recB v.account_ v.Bill ref) := by
 unfold m_audit_invoice_record
 rw [recI_eq _ _ hl, Option.bind_some]
 by_cases h : recI v.account_ ref < 0
 ·rw [if_pos h, if_pos h]
  unfold recB
  rw [decide_eq_false (by omega)]
  rfl
 ·obtain ⟨h1, h2, _⟩ := recI_ok h
  unfold wfB at hw
  rw [if_neg h, if_neg h, ck_yes ⟨h1, h2⟩]
  unfold m_audit_invoice_moments
  dsimp only
  rw [ck_yes (by unfold I64; omega), ck_yes (by unfold I64; omega), Option.bind_some, owner_eq (by omega) (by omega), Option.bind_some]
  unfold recB recM
  rw [decide_eq_true h1, own_dec]
  rfl
theorem refRecord_eq (a : ApiAccount) (ref : Int) (hl : a.Emptyings.length ≤ 60) : ∃ z, m_recyclingref59_record 40000 a.Emptyings ref = some (if recI a ref < 0 then z else ix a.Emptyings (recI a ref), decide (0 ≤ recI a ref)) := by
 unfold m_recyclingref59_record
 refine ⟨⟨0, 0, 0, 0, ⟨0, 0⟩, false⟩, ?_⟩
 refine then_exE (N := 40000) a.Emptyings.length (fun (_ : Unit) i => i) (fun _ => ()) (fun i _ => ∀ x ∈ a.Emptyings.take i, decide (x.ID = ref) = false) (fun r => r = (if recI a ref < 0 then (⟨0, 0, 0, 0, ⟨0, 0⟩, false⟩ : ApiEmptying) else ix a.Emptyings (recI a ref), decide (0 ≤ recI a ref))) () rfl (by simp) (by omega) (fun i t hi hv => ?_) (fun t _ => by rw [if_neg (by omega)]) (fun t ht => ?_) (fun r hr => by rw [hr])
 ·rw [if_pos (by omega), ck_yes (by omega), ix_nat hi]
  by_cases h : a.Emptyings[i].ID = ref
  ·right
   rw [if_pos h, ck_yes (by omega)]
   refine ⟨_, rfl, ?_⟩
   have e : recI a ref = (i : Int) := by
    unfold recI idx
    rw [(List.findIdx?_eq_some_iff_getElem (p := fun e : ApiEmptying => decide (e.ID = ref)) (xs := a.Emptyings) (i := i)).2 ⟨hi, by simpa using h, fun j hj => by
     have := hv (a.Emptyings[j]'(by omega)) (List.mem_take_iff_getElem.2 ⟨j, by omega, rfl⟩)
     simpa using this⟩]
   rw [e, if_neg (by omega), decide_eq_true (by omega), ix_nat hi]
  ·left
   rw [if_neg h, ck_yes (by unfold I64; omega)]
   refine ⟨(), rfl, fun x hx => ?_⟩
   rcases (mem_take_succ hi).1 hx with hx | hx
   ·exact hv x hx
   ·rw [hx]; simpa using h
 ·rw [List.take_length] at ht
  have e : recI a ref < 0 := by
   unfold recI idx
   rw [List.findIdx?_eq_none_iff.2 (fun x hx => ht x hx)]
   decide
  rw [if_pos e, decide_eq_false (by omega)]
theorem own14_eq {N : Nat} {a : List ApiAssign} (hN : a.length < N) (ha : a.length ≤ 100000) (c t : Int) : m_recyclingref14_Owner N a c t = some ((ownerF a c t).getD 0, (ownerF a c t).isSome) := by
 unfold m_recyclingref14_Owner
 rw [loop_find a (fun x => if asgAt c t x = true then some (x.Household, true) else none) () (fun i hi => ?_) (by rw [if_neg (by omega)]) hN]
 ·unfold ownerF
  have : a.findSome? (fun x => if asgAt c t x = true then some (x.Household, true) else none) = (a.find? (asgAt c t)).map fun x => (x.Household, true) := by
   clear hN ha
   induction a with
   | nil => rfl
   | cons x l ih =>
    rw [List.findSome?_cons, List.find?_cons]
    cases asgAt c t x with
    | true => rfl
    | false => exact ih
  rw [this]
  cases a.find? (asgAt c t) with
  | none => rfl
  | some x => rfl
 ·rw [if_pos (by omega), ck_yes (by omega), ck_yes (fun _ => by omega), ix_nat hi]
  unfold m_recyclingref14_Covers asgAt
  by_cases hc : a[i].Container = c
  ·rw [decide_eq_true hc, callIf_yes rfl, Option.bind_some, Bool.true_and, Bool.true_and]
   split
   ·rw [ck_yes (by omega)]
   ·rw [ck_yes (by unfold I64; omega)]
  ·rw [decide_eq_false hc, Bool.false_and, Bool.false_and, callIf_no (by decide), Bool.false_and]
   rw [if_neg (by decide), if_neg (by decide), ck_yes (by unfold I64; omega)]
theorem belongs59_eq {a : ApiAccount} {b : ApiBill} (hl : a.Emptyings.length ≤ 60) (ha : a.Assigns.length ≤ 60) (hw : wfB a b) (ref : Int) : m_recyclingref59_belongs 40000 a b ref = some (recB a b ref) := by
 unfold m_recyclingref59_belongs
 obtain ⟨z, e⟩ := refRecord_eq a ref hl
 unfold wfB at hw
 rw [e, Option.bind_some]
 dsimp only
 rw [ck_yes (fun _ => by unfold I64; omega), ck_yes (fun _ => by unfold I64; omega)]
 by_cases h : recI a ref < 0
 ·unfold recB
  rw [decide_eq_false (show ¬ 0 ≤ recI a ref by omega)]
  rfl
 ·have hd : decide (0 ≤ recI a ref) = true := decide_eq_true (by omega)
  rw [if_neg h, hd, own14_eq (by omega) (by omega)]
  unfold recB recM
  rw [hd, Option.bind_some, own_dec]
  by_cases h1 : (ix a.Emptyings (recI a ref)).At < b.When.From * 86400
  ·rw [decide_eq_true h1, decide_eq_false (show ¬ b.When.From * 86400 ≤ (ix a.Emptyings (recI a ref)).At by omega)]
   simp
  ·rw [decide_eq_false h1, decide_eq_true (show b.When.From * 86400 ≤ (ix a.Emptyings (recI a ref)).At by omega)]
   by_cases h2 : b.When.To * 86400 ≤ (ix a.Emptyings (recI a ref)).At
   ·rw [decide_eq_true h2, decide_eq_false (show ¬ (ix a.Emptyings (recI a ref)).At < b.When.To * 86400 by omega)]
    simp
   ·rw [decide_eq_false h2, decide_eq_true (show (ix a.Emptyings (recI a ref)).At < b.When.To * 86400 by omega)]
    simp
def hasB (l : List ApiItem) (x : ApiItem) : Bool := l.any fun y => decide (y = x)
theorem has_eq {N : Nat} (l : List ApiItem) (x : ApiItem) (hl : l.length < N) (h : l.length ≤ 100000) : m_recyclingref59_has N l x = some (hasB l x) := by
 unfold m_recyclingref59_has hasB
 rw [loop_find l (fun y => if y = x then some true else none) () (fun i hi => ?_) (by rw [if_neg (by omega)]) hl]
 ·clear hl h
  induction l with
  | nil => rfl
  | cons y l ih =>
   rw [List.findSome?_cons, List.any_cons]
   by_cases hy : y = x
   ·rw [if_pos hy, decide_eq_true hy]; rfl
   ·rw [if_neg hy, decide_eq_false hy, Bool.false_or]; exact ih
 ·rw [if_pos (by omega), ck_yes (by omega), ix_nat hi]
  split
  ·rfl
  ·rw [ck_yes (by unfold I64; omega)]
theorem contains_eq {N : Nat} (l : List ApiItem) (x : ApiItem) (hl : l.length < N) (h : l.length ≤ 100000) : m_slices_Contains N l x = some (hasB l x) := by
 unfold m_slices_Contains m_slices_Index hasB
 refine contains_loop l (fun y => decide (y = x)) (fun i hi => ?_) (by rw [if_neg (by omega)]) hl
 rw [if_pos (by omega), ck_yes (by omega), ix_nat hi, ck_yes (by unfold I64; omega)]
 by_cases hx : x = l[i]
 ·rw [if_pos hx, if_pos (by simpa using hx.symm)]
 ·rw [if_neg hx, if_neg (by simpa using fun e => hx e.symm)]
end Go.Proofs.YtbnimhmoffchdaaGreatDoor
