/- Accounts: households and assignments, the program and the reference alike. -/
import Derived.Test.YtbnimhmoffchdaaGreatDoorYAcc1
namespace Go.Proofs.YtbnimhmoffchdaaGreatDoor

def hhFault (x : ApiHousehold) : Int := if identB x.ID = false then 5 else if x.Persons < 1 ∨ 100 < x.Persons then 1 else 0
def idR (l : List ApiHousehold) (s t : Nat) : Prop := (ix l (s : Int)).ID = (ix l (t : Int)).ID
open Classical in
noncomputable def pplSpec (l : List ApiHousehold) : Int :=
 if 256 < l.length then 8 else match fstBad hhFault l with
  | some e => e
  | none => if Bad (idR l) l.length then 6 else 0
theorem any_take {α : Type} [Inhabited α] {l : List α} {i : Nat} (hi : i ≤ l.length) (p : α → Bool) : (l.take i).any p = true ↔ ∃ t, t < i ∧ p (ix l (t : Int)) = true := by
 rw [List.any_eq_true]
 constructor
 ·intro ⟨x, hx, hp⟩
  obtain ⟨j, hj, rfl⟩ := List.mem_iff_getElem.1 hx
  rw [List.length_take] at hj
  refine ⟨j, by omega, ?_⟩
  rw [List.getElem_take] at hp
  rw [ix_nat (by omega)]
  exact hp
 ·intro ⟨t, ht, hp⟩
  rw [ix_nat (by omega)] at hp
  exact ⟨l[t], by rw [List.mem_take_iff_getElem]; exact ⟨t, by omega, rfl⟩, hp⟩
theorem ppl_eq (l : List ApiHousehold) : m_household_people 40000 l = some (pplSpec l) := by
 unfold m_household_people pplSpec
 by_cases h512 : 256 < l.length
 ·rw [if_pos (by omega), if_pos h512]
 ·rw [if_neg (by omega), if_neg h512]
  rw [loop_find l (fun x => if hhFault x = 0 then none else some (hhFault x)) () (fun i hi => by
   have h1 : ((i : Int)) < (l.length : Int) := by omega
   have h2 : I64 ((i : Int) + 1) := by unfold I64; omega
   rw [if_pos h1, ck_true ⟨by omega, h1⟩, ix_nat hi, (identB_eq _).1, Option.bind_some, ck_true h2]
   unfold hhFault
   cases hv : identB l[i].ID with
   | false => rfl
   | true =>
    simp only [Bool.not_true, Bool.false_eq_true, if_false, Bool.or_eq_true, decide_eq_true_eq, reduceCtorEq]
    (repeat' split) <;> first | rfl | (exfalso; omega) | simp_all) (by rw [if_neg (by omega)]) (by omega)]
  change andThen (some (stepOf (fstBad hhFault l) ())) _ = _
  cases hb : fstBad hhFault l with
  | some e => rfl
  | none =>
   show andThen (some (Step.next ())) _ = _
   rw [andThen_next]
   have hc : ∀ s : Nat, s < l.length → m_slices_ContainsFunc_household_people_1 40000 (List.take (Int.toNat (s : Int)) l) (ix l (s : Int)) = some ((List.take s l).any fun x => decide (x.ID = (ix l (s : Int)).ID)) := fun s hs => by
    unfold m_slices_ContainsFunc_household_people_1 m_slices_IndexFunc_household_people_1 m_household_people_1
    rw [Int.toNat_natCast]
    refine contains_loop (l.take s) _ (fun k hk => ?_) (by rw [if_neg (by omega)]) (by rw [List.length_take]; omega)
    have h4 : k < 300 := by rw [List.length_take] at hk; omega
    rw [if_pos (by omega), ck_true ⟨by omega, by omega⟩, Option.bind_some, ck_true (by unfold I64; omega), ix_nat hk]
   refine loop_pair (idR l) l.length 6 (by omega) (fun s hs h => ?_) (fun s hs h => ?_) (by rw [if_neg (by omega)]) (fun hbad => by simp only; rw [if_pos hbad]) (fun hgood => by simp only; rw [if_neg hgood])
   ·have h1 : ((s : Int)) < (l.length : Int) := by omega
    have := (any_take (by omega : s ≤ l.length) fun x => decide (x.ID = (ix l (s : Int)).ID)).2 (by
     obtain ⟨t, a, b⟩ := h
     exact ⟨t, a, decide_eq_true b.symm⟩)
    rw [if_pos h1, ck_true ⟨by omega, h1⟩, ck_true ⟨by omega, by omega⟩, hc s hs, Option.bind_some, this, if_pos rfl]
   ·have h1 : ((s : Int)) < (l.length : Int) := by omega
    have : (List.take s l).any (fun x => decide (x.ID = (ix l (s : Int)).ID)) = false := by
     rw [← Bool.not_eq_true, any_take (by omega : s ≤ l.length)]
     intro ⟨t, a, b⟩
     exact h ⟨t, a, (of_decide_eq_true b).symm⟩
    rw [if_pos h1, ck_true ⟨by omega, h1⟩, ck_true ⟨by omega, by omega⟩, hc s hs, Option.bind_some, this, if_neg (by decide), ck_true (by unfold I64; omega)]
def asFault (n m : Int) (x : ApiAssign) : Int := if x.Container < 0 ∨ m ≤ x.Container ∨ x.Household < 0 ∨ n ≤ x.Household then 7 else if x.When.From < 0 ∨ x.When.To < x.When.From ∨ 3155760000 < x.When.To then 1 else 0
def ovR (l : List ApiAssign) (s t : Nat) : Prop := (ix l (s : Int)).Container = (ix l (t : Int)).Container ∧ max (ix l (s : Int)).When.From (ix l (t : Int)).When.From < min (ix l (s : Int)).When.To (ix l (t : Int)).When.To
open Classical in
noncomputable def hhSpec (l : List ApiHousehold) (m : Int) (s : List ApiAssign) : Int :=
 if m < 0 ∨ 256 < m then 1 else if pplSpec l ≠ 0 then pplSpec l else if 512 < s.length then 8 else match fstBad (asFault l.length m) s with
  | some e => e
  | none => if Bad (ovR s) s.length then 12 else 0
theorem hhProg_eq (l : List ApiHousehold) (m : Int) (s : List ApiAssign) : m_household_Check 40000 l m s = some (hhSpec l m s) := by
 unfold m_household_Check hhSpec
 simp only [Bool.or_eq_true, decide_eq_true_eq, or_assoc]
 by_cases hm : m < 0 ∨ 256 < m
 ·rw [if_pos hm, if_pos hm]
 ·rw [if_neg hm, if_neg hm, ppl_eq, Option.bind_some]
  by_cases hp : pplSpec l ≠ 0
  ·rw [if_pos hp, if_pos hp]
  ·rw [if_neg hp, if_neg hp]
   by_cases h512 : 512 < s.length
   ·rw [if_pos (by omega), if_pos h512]
   ·rw [if_neg (by omega), if_neg h512]
    rw [loop_find s (fun x => if asFault l.length m x = 0 then none else some (asFault l.length m x)) () (fun i hi => by
     have h1 : ((i : Int)) < (s.length : Int) := by omega
     have h2 : I64 ((i : Int) + 1) := by unfold I64; omega
     unfold m_household_valid asFault
     rw [if_pos h1, ck_true ⟨by omega, h1⟩, ix_nat hi, Option.bind_some, ck_true h2]
     by_cases hA : s[i].Container < 0 ∨ m ≤ s[i].Container ∨ s[i].Household < 0 ∨ (l.length : Int) ≤ s[i].Household
     ·rw [if_pos hA, if_pos hA]; rfl
     ·rw [if_neg hA, if_neg hA]
      by_cases hB : s[i].When.From < 0 ∨ s[i].When.To < s[i].When.From ∨ 3155760000 < s[i].When.To
      ·have hB' : (!((decide (0 ≤ s[i].When.From) && decide (s[i].When.From ≤ s[i].When.To)) && decide (s[i].When.To ≤ 3155760000))) = true := by
        simp only [Bool.not_eq_true', Bool.and_eq_false_iff, decide_eq_false_iff_not]; omega
       rw [if_pos hB', if_pos hB]; rfl
      ·have hB' : ¬ (!((decide (0 ≤ s[i].When.From) && decide (s[i].When.From ≤ s[i].When.To)) && decide (s[i].When.To ≤ 3155760000))) = true := by
        simp only [Bool.not_eq_true', Bool.and_eq_false_iff, decide_eq_false_iff_not]; omega
       rw [if_neg hB', if_neg hB]; rfl) (by rw [if_neg (by omega)]) (by omega)]
    change andThen (some (stepOf (fstBad (asFault l.length m) s) ())) _ = _
    cases hb : fstBad (asFault l.length m) s with
    | some e => rfl
    | none =>
     show andThen (some (Step.next ())) _ = _
     rw [andThen_next]
     have hc : ∀ i : Nat, i < s.length → ∃ v, m_slices_ContainsFunc_household_Check_1 40000 (List.take (Int.toNat (i : Int)) s) (ix s (i : Int)) = some v ∧ (v = true ↔ ∃ t, t < i ∧ ovR s i t) := fun i hi => by
      refine ⟨(s.take i).any fun x => decide (x.Container = (ix s (i : Int)).Container) && !decide (min (ix s (i : Int)).When.To x.When.To ≤ max (ix s (i : Int)).When.From x.When.From), ?_, ?_⟩
      ·unfold m_slices_ContainsFunc_household_Check_1 m_slices_IndexFunc_household_Check_1 m_household_Check_1 m_household_common m_household_empty
       rw [Int.toNat_natCast]
       refine contains_loop (s.take i) _ (fun k hk => ?_) (by rw [if_neg (by omega)]) (by rw [List.length_take]; omega)
       have h4 : k < 600 := by rw [List.length_take] at hk; omega
       rw [if_pos (by omega), ck_true ⟨by omega, by omega⟩, ck_true (by unfold I64; omega), ix_nat hk]
       by_cases hcc : (s.take i)[k].Container = (ix s (i : Int)).Container
       ·simp only [callIf, hcc, decide_true, if_true, Option.bind_some, Bool.true_and]
       ·simp only [callIf, hcc, decide_false, Bool.false_eq_true, if_false, Option.bind_some, Bool.false_and]
      ·rw [any_take (by omega)]
       unfold ovR
       simp only [Bool.and_eq_true, decide_eq_true_eq, Bool.not_eq_true', decide_eq_false_iff_not, Int.not_le]
       exact ⟨fun ⟨t, a, b, c⟩ => ⟨t, a, b.symm, c⟩, fun ⟨t, a, b, c⟩ => ⟨t, a, b.symm, c⟩⟩
     refine loop_pair (ovR s) s.length 12 (by omega) (fun i hi h => ?_) (fun i hi h => ?_) (by rw [if_neg (by omega)]) (fun hbad => by simp only; rw [if_pos hbad]) (fun hgood => by simp only; rw [if_neg hgood])
     ·obtain ⟨v, e, hv⟩ := hc i hi
      rw [if_pos (by omega), ck_true ⟨by omega, by omega⟩, ck_true ⟨by omega, by omega⟩, e, Option.bind_some, if_pos (hv.2 h)]
     ·obtain ⟨v, e, hv⟩ := hc i hi
      rw [if_pos (by omega), ck_true ⟨by omega, by omega⟩, ck_true ⟨by omega, by omega⟩, e, Option.bind_some, if_neg (fun h' => h (hv.1 h')), ck_true (by unfold I64; omega)]
theorem hhRef_eq (l : List ApiHousehold) (m : Int) (s : List ApiAssign) : m_recyclingref14_Check 40000 l m s = some (hhSpec l m s) := by
 unfold m_recyclingref14_Check hhSpec pplSpec
 simp only [Bool.or_eq_true, decide_eq_true_eq, or_assoc]
 by_cases hm : m < 0 ∨ 256 < m
 ·rw [if_pos hm, if_pos hm]
 ·rw [if_neg hm, if_neg hm]
  by_cases hl : 256 < l.length
  ·rw [if_pos (by omega), if_pos hl]; rfl
  ·rw [if_neg (by omega), if_neg hl]
   rw [loop_find l (fun x => if hhFault x = 0 then none else some (hhFault x)) () (fun i hi => by
    have h1 : ((i : Int)) < (l.length : Int) := by omega
    have h2 : I64 ((i : Int) + 1) := by unfold I64; omega
    have h3 : (0 : Int) ≤ (i : Int) ∧ (i : Int) < (l.length : Int) := ⟨by omega, h1⟩
    rw [if_pos h1, ck_true h3, ix_nat hi, (identB_eq _).2.1, Option.bind_some, ck_true h3, ck_true (fun _ => h3), ck_true h2]
    unfold hhFault
    cases hv : identB l[i].ID with
    | false => rfl
    | true =>
     simp only [Bool.not_true, Bool.false_eq_true, if_false, reduceCtorEq]
     (repeat' split) <;> first | rfl | (exfalso; omega) | simp_all) (by rw [if_neg (by omega)]) (by omega)]
   change andThen (some (stepOf (fstBad hhFault l) ())) _ = _
   cases hb : fstBad hhFault l with
   | some e =>
    have : e ≠ 0 := by
     unfold fstBad at hb
     obtain ⟨x, _, hx⟩ := List.exists_of_findSome?_eq_some hb
     split at hx
     ·cases hx
     ·injection hx with hx; subst hx; assumption
    simp only
    rw [if_pos this]
    rfl
   | none =>
    show andThen (some (Step.next ())) _ = _
    rw [andThen_next]
    simp only
    refine loop_pair (idR l) l.length 6 (by omega) (fun i hi h => ?_) (fun i hi h => ?_) (by rw [if_neg (by omega)]) (fun hbad => ?_) (fun hgood => ?_)
    ·have h1 : ((i : Int)) < (l.length : Int) := by omega
     rw [if_pos h1]
     refine (loop_before (idR l i) i _ (by omega) (fun t ht hr => ?_) (fun t ht hr => ?_) (by rw [if_neg (by omega)])).1 h
     ·rw [if_pos (by omega), ck_true ⟨by omega, h1⟩, ck_true ⟨by omega, by omega⟩, if_pos (show (ix l (i : Int)).ID = (ix l (t : Int)).ID from hr)]
     ·rw [if_pos (by omega), ck_true ⟨by omega, h1⟩, ck_true ⟨by omega, by omega⟩, if_neg (show ¬ (ix l (i : Int)).ID = (ix l (t : Int)).ID from hr), ck_true (by unfold I64; omega)]
    ·have h1 : ((i : Int)) < (l.length : Int) := by omega
     rw [if_pos h1]
     refine ((loop_before (idR l i) i (Step.done (Step.done 6)) (by omega) (fun t ht hr => ?_) (fun t ht hr => ?_) (by rw [if_neg (by omega)])).2 h).trans (by rw [ck_true (by unfold I64; omega)])
     ·rw [if_pos (by omega), ck_true ⟨by omega, h1⟩, ck_true ⟨by omega, by omega⟩, if_pos (show (ix l (i : Int)).ID = (ix l (t : Int)).ID from hr)]
     ·rw [if_pos (by omega), ck_true ⟨by omega, h1⟩, ck_true ⟨by omega, by omega⟩, if_neg (show ¬ (ix l (i : Int)).ID = (ix l (t : Int)).ID from hr), ck_true (by unfold I64; omega)]
    ·rw [if_pos hbad]; rfl
    ·rw [if_neg hgood, if_neg (show ¬ ((0 : Int) ≠ 0) from fun h => h rfl)]
     by_cases h512 : 512 < s.length
     ·rw [if_pos (by omega), if_pos h512]
     ·rw [if_neg (by omega), if_neg h512]
      rw [loop_find s (fun x => if asFault l.length m x = 0 then none else some (asFault l.length m x)) () (fun i hi => by
       have h1 : ((i : Int)) < (s.length : Int) := by omega
       have h2 : I64 ((i : Int) + 1) := by unfold I64; omega
       have h3 : (0 : Int) ≤ (i : Int) ∧ (i : Int) < (s.length : Int) := ⟨by omega, h1⟩
       unfold m_recyclingref14_Window asFault
       rw [if_pos h1, ck_true h3, ck_true (fun _ => h3), ck_true (fun _ => h3), ck_true (fun _ => h3), ck_true h3, ix_nat hi, Option.bind_some, ck_true h2]
       by_cases hA : s[i].Container < 0 ∨ m ≤ s[i].Container ∨ s[i].Household < 0 ∨ (l.length : Int) ≤ s[i].Household
       ·rw [if_pos hA, if_pos hA]; rfl
       ·rw [if_neg hA, if_neg hA]
        by_cases hB : s[i].When.From < 0 ∨ s[i].When.To < s[i].When.From ∨ 3155760000 < s[i].When.To
        ·have hB' : (!((decide (0 ≤ s[i].When.From) && decide (s[i].When.From ≤ s[i].When.To)) && decide (s[i].When.To ≤ 3155760000))) = true := by
          simp only [Bool.not_eq_true', Bool.and_eq_false_iff, decide_eq_false_iff_not]; omega
         rw [if_pos hB', if_pos hB]; rfl
        ·have hB' : ¬ (!((decide (0 ≤ s[i].When.From) && decide (s[i].When.From ≤ s[i].When.To)) && decide (s[i].When.To ≤ 3155760000))) = true := by
          simp only [Bool.not_eq_true', Bool.and_eq_false_iff, decide_eq_false_iff_not]; omega
         rw [if_neg hB', if_neg hB]; rfl) (by rw [if_neg (by omega)]) (by omega)]
      change andThen (some (stepOf (fstBad (asFault l.length m) s) ())) _ = _
      cases hb : fstBad (asFault l.length m) s with
      | some e => rfl
      | none =>
       show andThen (some (Step.next ())) _ = _
       rw [andThen_next]
       have hcm : ∀ i t : Nat, ∃ v, m_recyclingref14_common 40000 (ix s (i : Int)).When (ix s (t : Int)).When = some v ∧ v.2 = decide (max (ix s (i : Int)).When.From (ix s (t : Int)).When.From < min (ix s (i : Int)).When.To (ix s (t : Int)).When.To) := fun i t => by
        unfold m_recyclingref14_common
        (repeat' split) <;> (simp only [andThen_next]; refine ⟨_, rfl, ?_⟩; simp only [decide_eq_decide]; omega)
       have hst : ∀ i t : Nat, (ovR s i t → ((decide (max (ix s (i : Int)).When.From (ix s (t : Int)).When.From < min (ix s (i : Int)).When.To (ix s (t : Int)).When.To)) && (decide ((ix s (i : Int)).Container = (ix s (t : Int)).Container))) = true) ∧ (¬ ovR s i t → ¬ ((decide (max (ix s (i : Int)).When.From (ix s (t : Int)).When.From < min (ix s (i : Int)).When.To (ix s (t : Int)).When.To)) && (decide ((ix s (i : Int)).Container = (ix s (t : Int)).Container))) = true) := fun i t => by
        unfold ovR
        simp only [Bool.and_eq_true, decide_eq_true_eq]
        exact ⟨fun h => ⟨h.2, h.1⟩, fun h h' => h ⟨h'.2, h'.1⟩⟩
       refine loop_pair (ovR s) s.length 12 (by omega) (fun i hi h => ?_) (fun i hi h => ?_) (by rw [if_neg (by omega)]) (fun hbad => by simp only; rw [if_pos hbad]) (fun hgood => by simp only; rw [if_neg hgood])
       ·have h1 : ((i : Int)) < (s.length : Int) := by omega
        rw [if_pos h1]
        refine (loop_before (ovR s i) i _ (by omega) (fun t ht hr => ?_) (fun t ht hr => ?_) (by rw [if_neg (by omega)])).1 h
        ·obtain ⟨v, e, hv⟩ := hcm i t
         rw [if_pos (by omega), ck_true ⟨by omega, h1⟩, ck_true ⟨by omega, by omega⟩, e, Option.bind_some, ck_true (fun _ => ⟨by omega, h1⟩), ck_true (fun _ => ⟨by omega, by omega⟩), hv, if_pos ((hst i t).1 hr)]
        ·obtain ⟨v, e, hv⟩ := hcm i t
         rw [if_pos (by omega), ck_true ⟨by omega, h1⟩, ck_true ⟨by omega, by omega⟩, e, Option.bind_some, ck_true (fun _ => ⟨by omega, h1⟩), ck_true (fun _ => ⟨by omega, by omega⟩), hv, if_neg ((hst i t).2 hr), ck_true (by unfold I64; omega)]
       ·have h1 : ((i : Int)) < (s.length : Int) := by omega
        rw [if_pos h1]
        refine ((loop_before (ovR s i) i (Step.done (Step.done 12)) (by omega) (fun t ht hr => ?_) (fun t ht hr => ?_) (by rw [if_neg (by omega)])).2 h).trans (by rw [ck_true (by unfold I64; omega)])
        ·obtain ⟨v, e, hv⟩ := hcm i t
         rw [if_pos (by omega), ck_true ⟨by omega, h1⟩, ck_true ⟨by omega, by omega⟩, e, Option.bind_some, ck_true (fun _ => ⟨by omega, h1⟩), ck_true (fun _ => ⟨by omega, by omega⟩), hv, if_pos ((hst i t).1 hr)]
        ·obtain ⟨v, e, hv⟩ := hcm i t
         rw [if_pos (by omega), ck_true ⟨by omega, h1⟩, ck_true ⟨by omega, by omega⟩, e, Option.bind_some, ck_true (fun _ => ⟨by omega, h1⟩), ck_true (fun _ => ⟨by omega, by omega⟩), hv, if_neg ((hst i t).2 hr), ck_true (by unfold I64; omega)]
end Go.Proofs.YtbnimhmoffchdaaGreatDoor
