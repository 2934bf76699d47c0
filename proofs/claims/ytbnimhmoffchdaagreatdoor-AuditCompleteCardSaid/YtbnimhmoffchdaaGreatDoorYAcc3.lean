/- Accounts: tariffs, the program and the reference alike. -/
import Derived.Test.YtbnimhmoffchdaaGreatDoorYAcc2
namespace Go.Proofs.YtbnimhmoffchdaaGreatDoor

def usB (t : ApiTariff) : Bool := (((decide (0 ≤ t.Base) && decide (t.Base ≤ 100000)) && (decide (0 ≤ t.Empty) && decide (t.Empty ≤ 100000))) && (decide (0 ≤ t.Kilo) && decide (t.Kilo ≤ 100000))) && (decide (0 ≤ t.Free) && decide (t.Free ≤ 1000))
theorem usable_eq (N : Nat) (t : ApiTariff) : m_tariff_usable N t = some (usB t) := by
 unfold m_tariff_usable m_tariff_between usB
 simp only [callIf, Option.bind_some]
 generalize (decide (0 ≤ t.Base) && decide (t.Base ≤ 100000)) = a
 generalize (decide (0 ≤ t.Empty) && decide (t.Empty ≤ 100000)) = b
 generalize (decide (0 ≤ t.Kilo) && decide (t.Kilo ≤ 100000)) = c
 generalize (decide (0 ≤ t.Free) && decide (t.Free ≤ 1000)) = d
 cases a <;> cases b <;> cases c <;> cases d <;> rfl
theorem refUsable_eq (N : Nat) (t : ApiTariff) : m_recyclingref53_Usable N t = some (usB t) := by
 unfold m_recyclingref53_Usable usB
 simp only [Bool.and_assoc]
theorem usB_iff {t : ApiTariff} (h : usB t = true) : (0 ≤ t.Empty ∧ t.Empty ≤ 100000) ∧ (0 ≤ t.Kilo ∧ t.Kilo ≤ 100000) ∧ 0 ≤ t.Free ∧ t.Free ≤ 1000 := by
 unfold usB at h
 simp only [Bool.and_eq_true, decide_eq_true_eq] at h
 omega
def tarFault (t : ApiTariff) : Int := if t.From < 0 ∨ 36524 < t.From ∨ usB t = false then 1 else 0
def tarDown (l : List ApiTariff) : Prop := ∃ i : Nat, i + 1 < l.length ∧ (ix l ((i : Int) + 1)).From ≤ (ix l (i : Int)).From
open Classical in
noncomputable def tarSpec (l : List ApiTariff) : Int :=
 if l.length = 0 then 10 else if 8 < l.length then 8 else match fstBad tarFault l with
  | some e => e
  | none => if tarDown l then 9 else 0
theorem tarSpec_zero {l : List ApiTariff} (h : tarSpec l = 0) : 0 < l.length ∧ l.length ≤ 8 ∧ ∀ i : Nat, i + 1 < l.length → (ix l (i : Int)).From < (ix l ((i : Int) + 1)).From := by
 unfold tarSpec at h
 split at h
 ·omega
 ·split at h
  ·omega
  ·split at h
   ·rename_i e he
    unfold fstBad at he
    obtain ⟨x, _, hx⟩ := List.exists_of_findSome?_eq_some he
    split at hx
    ·cases hx
    ·injection hx with hx
     rw [← hx] at h
     exact absurd h ‹_›
   ·split at h
    ·omega
    ·rename_i hd
     refine ⟨by omega, by omega, fun i hi => ?_⟩
     have : ¬ (ix l ((i : Int) + 1)).From ≤ (ix l (i : Int)).From := fun h => hd ⟨i, hi, h⟩
     omega
theorem tarProg_eq {N : Nat} (hN : 40 < N) (l : List ApiTariff) : m_tariff_Check N l = some (tarSpec l) := by
 unfold m_tariff_Check m_tariff_between tarSpec
 by_cases h0 : l.length = 0
 ·rw [if_pos (by omega), if_pos h0]
 ·rw [if_neg (by omega), if_neg h0]
  by_cases h8 : 8 < l.length
  ·rw [if_pos (by omega), if_pos h8]
  ·rw [if_neg (by omega), if_neg h8]
   rw [loop_find l (fun x => if tarFault x = 0 then none else some (tarFault x)) () (fun i hi => by
    have h1 : ((i : Int)) < (l.length : Int) := by omega
    have h2 : I64 ((i : Int) + 1) := by unfold I64; omega
    unfold tarFault
    rw [if_pos h1, ck_true ⟨by omega, h1⟩, ix_nat hi, Option.bind_some, usable_eq, ck_true h2]
    by_cases hA : l[i].From < 0 ∨ 36524 < l[i].From ∨ usB l[i] = false
    ·rw [if_pos hA]
     have hB : (decide (0 ≤ l[i].From) && decide (l[i].From ≤ 36524)) = false ∨ usB l[i] = false := by
      rcases hA with h | h | h
      ·exact .inl (by rw [decide_eq_false (by omega : ¬ 0 ≤ l[i].From)]; rfl)
      ·exact .inl (by rw [decide_eq_false (by omega : ¬ l[i].From ≤ 36524), Bool.and_false])
      ·exact .inr h
     generalize (decide (0 ≤ l[i].From) && decide (l[i].From ≤ 36524)) = a at hB
     generalize usB l[i] = b at hB
     cases a
     ·rfl
     ·cases b
      ·rfl
      ·simp at hB
    ·rw [if_neg hA]
     have hB : (decide (0 ≤ l[i].From) && decide (l[i].From ≤ 36524)) = true ∧ usB l[i] = true := by
      simp only [Bool.and_eq_true, decide_eq_true_eq]
      cases hu : usB l[i] with
      | false => exact absurd (.inr (.inr hu)) hA
      | true => exact ⟨by omega, rfl⟩
     rw [hB.1, hB.2]
     rfl) (by rw [if_neg (by omega)]) (by omega)]
   change andThen (some (stepOf (fstBad tarFault l) ())) _ = _
   cases hb : fstBad tarFault l with
   | some e => rfl
   | none =>
    show andThen (some (Step.next ())) _ = _
    rw [andThen_next]
    simp only
    refine then_exE (l.length - 1) (fun (_ : Unit) i => i + 1) (fun _ => ()) (fun i _ => ∀ j, j < i → ¬ (ix l ((j : Int) + 1)).From ≤ (ix l (j : Int)).From) (fun r => r = 9 ∧ tarDown l) () rfl (fun j hj => absurd hj (Nat.not_lt_zero _)) (by omega) (fun i t hi ht => ?_) (fun t _ => by (try simp only); rw [if_neg (by omega)]) (fun t ht => ?_) (fun r ⟨hr, hd⟩ => by rw [hr, if_pos hd])
    ·have e : (i : Int) + 1 - 1 = (i : Int) := by omega
     try simp only
     rw [if_pos (by omega), ck_true ⟨by omega, by omega⟩, ck_true (by unfold I64; omega), ck_true ⟨by omega, by omega⟩, ck_true (by unfold I64; omega), e]
     by_cases h : (ix l ((i : Int) + 1)).From ≤ (ix l (i : Int)).From
     ·rw [if_pos h]
      exact .inr ⟨9, rfl, rfl, i, by omega, h⟩
     ·rw [if_neg h]
      refine .inl ⟨(), rfl, fun j hj => ?_⟩
      rcases Nat.lt_or_ge j i with hs | hs
      ·exact ht j hs
      ·have : j = i := by omega
       subst this
       exact h
    ·rw [if_neg (fun ⟨j, hj, h⟩ => ht j (by omega) h)]
theorem tarRef_eq {N : Nat} (hN : 40 < N) (l : List ApiTariff) : m_recyclingref53_Check N l = some (tarSpec l) := by
 unfold m_recyclingref53_Check tarSpec
 by_cases h0 : l.length = 0
 ·rw [if_pos (by omega), if_pos h0]
 ·rw [if_neg (by omega), if_neg h0]
  by_cases h8 : 8 < l.length
  ·rw [if_pos (by omega), if_pos h8]
  ·rw [if_neg (by omega), if_neg h8]
   rw [loop_find l (fun x => if tarFault x = 0 then none else some (tarFault x)) () (fun i hi => by
    have h1 : ((i : Int)) < (l.length : Int) := by omega
    have h2 : I64 ((i : Int) + 1) := by unfold I64; omega
    have h3 : (0 : Int) ≤ (i : Int) ∧ (i : Int) < (l.length : Int) := ⟨by omega, h1⟩
    unfold tarFault
    rw [if_pos h1, ck_true h3, ck_true (fun _ => h3), ck_true (fun _ => h3), ix_nat hi, refUsable_eq, ck_true h2]
    by_cases hA : l[i].From < 0 ∨ 36524 < l[i].From ∨ usB l[i] = false
    ·rw [if_pos hA]
     have hB : (decide (l[i].From < 0) || decide (36524 < l[i].From)) = true ∨ usB l[i] = false := by
      simp only [Bool.or_eq_true, decide_eq_true_eq, or_assoc]; exact hA
     generalize (decide (l[i].From < 0) || decide (36524 < l[i].From)) = a at hB
     generalize usB l[i] = b at hB
     cases a
     ·cases b
      ·rfl
      ·simp at hB
     ·rfl
    ·rw [if_neg hA]
     have hB : (decide (l[i].From < 0) || decide (36524 < l[i].From)) = false ∧ usB l[i] = true := by
      simp only [Bool.or_eq_false_iff, decide_eq_false_iff_not]
      cases hu : usB l[i] with
      | false => exact absurd (.inr (.inr hu)) hA
      | true => exact ⟨by omega, rfl⟩
     rw [hB.1, hB.2]
     rfl) (by rw [if_neg (by omega)]) (by omega)]
   change andThen (some (stepOf (fstBad tarFault l) ())) _ = _
   cases hb : fstBad tarFault l with
   | some e => rfl
   | none =>
    show andThen (some (Step.next ())) _ = _
    rw [andThen_next]
    simp only
    refine then_exE (l.length - 1) (fun (_ : Unit) i => i + 1) (fun _ => ()) (fun i _ => ∀ j, j < i → ¬ (ix l ((j : Int) + 1)).From ≤ (ix l (j : Int)).From) (fun r => r = 9 ∧ tarDown l) () rfl (fun j hj => absurd hj (Nat.not_lt_zero _)) (by omega) (fun i t hi ht => ?_) (fun t _ => by (try simp only); rw [if_neg (by omega)]) (fun t ht => ?_) (fun r ⟨hr, hd⟩ => by rw [hr, if_pos hd])
    ·have e : (i : Int) + 1 - 1 = (i : Int) := by omega
     try simp only
     rw [if_pos (by omega), ck_true ⟨by omega, by omega⟩, ck_true (by unfold I64; omega), ck_true ⟨by omega, by omega⟩, ck_true (by unfold I64; omega), e]
     by_cases h : (ix l ((i : Int) + 1)).From ≤ (ix l (i : Int)).From
     ·rw [if_pos h]
      exact .inr ⟨9, rfl, rfl, i, by omega, h⟩
     ·rw [if_neg h]
      refine .inl ⟨(), rfl, fun j hj => ?_⟩
      rcases Nat.lt_or_ge j i with hs | hs
      ·exact ht j hs
      ·have : j = i := by omega
       subst this
       exact h
    ·rw [if_neg (fun ⟨j, hj, h⟩ => ht j (by omega) h)]
end Go.Proofs.YtbnimhmoffchdaaGreatDoor
