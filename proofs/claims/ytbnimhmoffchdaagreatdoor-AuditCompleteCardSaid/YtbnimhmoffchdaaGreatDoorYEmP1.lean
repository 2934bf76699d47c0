/- Layer 18 in plain words: faults of records, checks. -/
import Derived.Test.YtbnimhmoffchdaaGreatDoorKD
import Derived.Test.YtbnimhmoffchdaaGreatDoorZR1
namespace Go.Proofs.YtbnimhmoffchdaaGreatDoor

def emFault (x : ApiEmptying) (c v : Int) : Int :=
 if x.ID < 1 ∨ 1000000 < x.ID then 1 else if x.Container < 0 ∨ c ≤ x.Container ∨ x.Vehicle < 0 ∨ v ≤ x.Vehicle then 7
 else if x.At < 0 ∨ 3155759999 < x.At ∨ x.Mass.Lo < 0 ∨ x.Mass.Hi < x.Mass.Lo ∨ 1073741824 < x.Mass.Hi then 1 else 0
theorem emFault_zero {x : ApiEmptying} {c v : Int} (h : emFault x c v = 0) : (1 ≤ x.ID ∧ x.ID ≤ 1000000) ∧ (0 ≤ x.Container ∧ x.Container < c ∧ 0 ≤ x.Vehicle ∧ x.Vehicle < v) ∧ 0 ≤ x.At ∧ x.At ≤ 3155759999 ∧ 0 ≤ x.Mass.Lo ∧ x.Mass.Lo ≤ x.Mass.Hi ∧ x.Mass.Hi ≤ 1073741824 := by
 unfold emFault at h
 split at h
 ·omega
 ·split at h
  ·omega
  ·split at h
   ·omega
   ·omega
theorem ref_fault_eq (N : Nat) (x : ApiEmptying) (c v : Int) : m_recyclingref18_fault N x c v = some (emFault x c v) := by
 unfold m_recyclingref18_fault emFault
 simp only [Bool.or_eq_true, decide_eq_true_eq]
 (repeat' split) <;> first | rfl | (exfalso; omega)
theorem one_eq (N : Nat) (x : ApiEmptying) (c v : Int) : m_emptying_one N x c v = some (emFault x c v) := by
 unfold m_emptying_one m_emptying_within emFault
 simp only [Option.bind_some, Bool.or_eq_true, decide_eq_true_eq, Bool.not_eq_true', Bool.and_eq_false_iff, decide_eq_false_iff_not]
 (repeat' split) <;> first | rfl | (exfalso; omega)
def emBad (l : List ApiEmptying) (c v : Int) : Option Int := l.findSome? fun x => if emFault x c v = 0 then none else some (emFault x c v)
theorem emBad_none {l : List ApiEmptying} {c v : Int} (h : emBad l c v = none) : ∀ x ∈ l, emFault x c v = 0 := fun x hx => by
 unfold emBad at h
 rw [List.findSome?_eq_none_iff] at h
 have := h x hx
 split at this
 ·assumption
 ·cases this
def emCheck (l : List ApiEmptying) (c v : Int) : Int :=
 if 512 < l.length then 8 else match emBad l c v with
  | some e => e
  | none => if (l.map ApiEmptying.ID).Nodup then 0 else 6
theorem emBad_ne {l : List ApiEmptying} {c v e : Int} (h : emBad l c v = some e) : e ≠ 0 := by
 unfold emBad at h
 obtain ⟨x, _, hx⟩ := List.exists_of_findSome?_eq_some h
 split at hx
 ·cases hx
 ·injection hx with hx; subst hx; assumption
theorem emCheck_zero {l : List ApiEmptying} {c v : Int} (h : emCheck l c v = 0) : l.length ≤ 512 ∧ (∀ x ∈ l, emFault x c v = 0) ∧ (l.map ApiEmptying.ID).Nodup := by
 unfold emCheck at h
 split at h
 ·omega
 ·split at h
  ·rename_i e he; exact absurd h (emBad_ne he)
  ·rename_i he
   split at h
   ·exact ⟨by omega, emBad_none he, ‹_›⟩
   ·omega
theorem dup_take {l : List ApiEmptying} (i : Nat) (hi : i < l.length) (hn : ((l.take i).map ApiEmptying.ID).Nodup) : ((l.take (i + 1)).map ApiEmptying.ID).Nodup ↔ l[i].ID ∉ (l.take i).map ApiEmptying.ID := by
 rw [take_succ_get hi, List.map_append, List.map_cons, List.map_nil]
 constructor
 ·intro h hm
  have := (List.nodup_append.1 h).2.2 _ hm _ (List.mem_cons_self ..)
  exact this rfl
 ·intro h
  refine List.nodup_append.2 ⟨hn, by simp, fun a ha b hb => ?_⟩
  rw [List.mem_singleton] at hb
  subst hb
  rintro rfl
  exact h ha
theorem not_nodup_of_take {l : List ApiEmptying} (i : Nat) (h : ¬ ((l.take i).map ApiEmptying.ID).Nodup) : ¬ (l.map ApiEmptying.ID).Nodup := fun hn => h (by
 rw [List.map_take]
 exact hn.sublist (List.take_sublist _ _))
theorem progECheck_eq {N : Nat} (hN : 600 < N) (l : List ApiEmptying) (c v : Int) : m_emptying_Check N l c v = some (emCheck l c v) := by
 unfold m_emptying_Check emCheck
 by_cases h512 : 512 < l.length
 ·rw [if_pos (by omega), if_pos h512]
 ·rw [if_neg (by omega), if_neg h512]
  rw [loop_find l (fun x => if emFault x c v = 0 then none else some (emFault x c v)) () (fun i hi => by
   have h1 : ((i : Int)) < (l.length : Int) := by omega
   have h2 : I64 ((i : Int) + 1) := by unfold I64; omega
   rw [if_pos h1, ck_true ⟨by omega, h1⟩, one_eq, Option.bind_some, ix_nat hi]
   by_cases hz : emFault l[i] c v = 0
   ·simp [hz, ck_true h2]
   ·simp [hz]) (by rw [if_neg (by omega)]) (by omega)]
  change andThen (some (stepOf (emBad l c v) ())) _ = _
  cases hb : emBad l c v with
  | some e => rfl
  | none =>
   simp only [stepOf, andThen_next]
   have hv := emBad_none hb
   refine then_exE l.length (fun (t : List (Int × Bool)) i => (t, i)) (fun _ => ())
    (fun i t => ((l.take i).map ApiEmptying.ID).Nodup ∧ ∀ y, Option.getD (mget t y) false = decide (y ∈ (l.take i).map ApiEmptying.ID)) (fun r => r = 6 ∧ ¬ (l.map ApiEmptying.ID).Nodup) [] rfl ⟨by simp, fun y => by simp [mget]⟩ (by omega)
    (fun i t hi ⟨hn, ht⟩ => ?_) (fun t _ => by simp only; rw [if_neg (by omega)]) (fun t ⟨ht, _⟩ => ?_) (fun r ⟨hr, hd⟩ => ?_)
   ·have h1 : ((i : Int)) < (l.length : Int) := by omega
    have h2 : I64 ((i : Int) + 1) := by unfold I64; omega
    have hx := (emFault_zero (hv l[i] (List.getElem_mem hi))).1
    have h3 : I64 (l[i].ID) := by unfold I64; omega
    simp only
    rw [if_pos h1, ck_true ⟨by omega, h1⟩, ix_nat hi, ck_true h3, ht, ck_true h3, ck_true h2]
    by_cases hm : l[i].ID ∈ (l.take i).map ApiEmptying.ID
    ·right
     rw [if_pos (by simpa using hm)]
     exact ⟨6, rfl, rfl, not_nodup_of_take (i + 1) fun h => (dup_take i hi hn).1 h hm⟩
    ·left
     rw [if_neg (by simpa using hm)]
     refine ⟨_, rfl, (dup_take i hi hn).2 hm, fun y => ?_⟩
     rw [mget_mput, take_succ_get hi, List.map_append, List.map_cons, List.map_nil]
     by_cases hy : y = l[i].ID
     ·subst hy; simp
     ·rw [if_neg hy, ht]
      simp [hy]
   ·rw [List.take_length] at ht
    rw [if_pos ht]
   ·subst hr
    rw [if_neg hd]
theorem refECheck_eq {N : Nat} (hN : 600 < N) (l : List ApiEmptying) (c v : Int) : m_recyclingref18_Check N l c v = some (emCheck l c v) := by
 unfold m_recyclingref18_Check emCheck
 by_cases h512 : 512 < l.length
 ·rw [if_pos (by omega), if_pos h512]
 ·rw [if_neg (by omega), if_neg h512]
  rw [loop_find l (fun x => if emFault x c v = 0 then none else some (emFault x c v)) () (fun i hi => by
   have h1 : ((i : Int)) < (l.length : Int) := by omega
   have h2 : I64 ((i : Int) + 1) := by unfold I64; omega
   rw [if_pos h1, ck_true ⟨by omega, h1⟩, ref_fault_eq, Option.bind_some, ix_nat hi]
   by_cases hz : emFault l[i] c v = 0
   ·simp [hz, ck_true h2]
   ·simp [hz]) (by rw [if_neg (by omega)]) (by omega)]
  change andThen (some (stepOf (emBad l c v) ())) _ = _
  cases hb : emBad l c v with
  | some e => rfl
  | none =>
   simp only [stepOf, andThen_next]
   refine then_exE l.length (fun (_ : Unit) i => i) (fun _ => ()) (fun i _ => ((l.take i).map ApiEmptying.ID).Nodup) (fun r => r = 6 ∧ ¬ (l.map ApiEmptying.ID).Nodup) () rfl (by simp) (by omega)
    (fun i t hi hn => ?_) (fun t _ => by rw [if_neg (by omega)]) (fun t ht => ?_) (fun r ⟨hr, hd⟩ => ?_)
   ·have h1 : ((i : Int)) < (l.length : Int) := by omega
    have h2 : I64 ((i : Int) + 1) := by unfold I64; omega
    rw [if_pos h1]
    rw [loop_find (l.take i) (fun y => if l[i].ID = y.ID then some (Step.done (Step.done 6)) else none) () (fun k hk => by
     have hk' : k < i := by rw [List.length_take] at hk; omega
     have hkl : k < l.length := by omega
     have h3 : I64 ((k : Int) + 1) := by unfold I64; omega
     rw [if_pos (by omega), ck_true ⟨by omega, h1⟩, ck_true ⟨by omega, by omega⟩, ix_nat hi, ix_nat hkl, List.getElem_take]
     split
     ·rfl
     ·rw [ck_true h3]) (by rw [List.length_take, Nat.min_eq_left (by omega), if_neg (by omega)]) (by rw [List.length_take]; omega)]
    cases hf : (l.take i).findSome? (fun y => if l[i].ID = y.ID then some (Step.done (σ := Int) (Step.done (σ := Unit) (6 : Int))) else none) with
    | none =>
     left
     rw [List.findSome?_eq_none_iff] at hf
     refine ⟨(), ?_, (dup_take i hi hn).2 fun hm => ?_⟩
     ·show andThen (some (Step.next ())) _ = _
      rw [andThen_next, ck_true h2]
     ·obtain ⟨y, hy, e⟩ := List.mem_map.1 hm
      have := hf y hy
      rw [if_pos e.symm] at this
      cases this
    | some r =>
     right
     obtain ⟨y, hy, e⟩ := List.exists_of_findSome?_eq_some hf
     split at e
     ·rename_i hid
      injection e with e
      subst e
      exact ⟨6, by simp only [stepOf, andThen_done], rfl, not_nodup_of_take (i + 1) fun h => (dup_take i hi hn).1 h (hid ▸ List.mem_map_of_mem hy)⟩
     ·cases e
   ·rw [List.take_length] at ht
    rw [if_pos ht]
   ·subst hr
    rw [if_neg hd]
end Go.Proofs.YtbnimhmoffchdaaGreatDoor
