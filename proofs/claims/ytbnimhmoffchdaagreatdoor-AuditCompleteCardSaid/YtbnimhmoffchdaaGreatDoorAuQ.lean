/- Layer 59 in plain words: items that are right, totals, charges. -/
import Derived.Test.YtbnimhmoffchdaaGreatDoorAuP3
namespace Go.Proofs.YtbnimhmoffchdaaGreatDoor
attribute [local instance] jfTrue

theorem baseSpec_len (l : List ApiTariff) (w : ApiWindow) : (baseSpec l w).1.length ≤ 8 := by
 unfold baseSpec
 split
 ·simp
 ·rename_i h
  split
  ·simp
  ·split
   ·simp
   ·obtain ⟨_, h8, _⟩ := tarSpec_zero (Decidable.not_not.1 h)
    have : ∀ k, (baseL l w k).length ≤ k := fun k => by
     induction k with
     | zero => simp [baseL]
     | succ k ih => rw [baseL_succ, List.length_append]; have := baseI_len l w k; omega
    exact Nat.le_trans (this _) h8
theorem itSpec_len (t : ApiTariff) (x : ApiEmptying) : (itSpec t x).1.length ≤ 2 := by
 unfold itSpec
 split
 ·simp
 ·split <;> simp
theorem itSpec_err {t : ApiTariff} {x : ApiEmptying} (h : (itSpec t x).2 ≠ 0) : (itSpec t x).1 = [] := by
 unfold itSpec at h ⊢
 split
 ·rfl
 ·rename_i h1
  rw [if_neg h1] at h
  split at h <;> exact absurd rfl h
noncomputable def wgtB (a : ApiAccount) (x : ApiItem) : Bool :=
 decide ((atF a.Tariffs (Int.tdiv (ix a.Emptyings (recI a x.Ref)).At 86400)).2 = 0) && hasB (itSpec (ix a.Tariffs (atF a.Tariffs (Int.tdiv (ix a.Emptyings (recI a x.Ref)).At 86400)).1) (ix a.Emptyings (recI a x.Ref))).1 x
noncomputable def rightB (a : ApiAccount) (b : ApiBill) (x : ApiItem) : Bool :=
 if x.Kind = 1 then hasB (baseSpec a.Tariffs b.When).1 x else if x.Kind = 4 then decide (x.Amount < 0) else if x.Kind = 2 ∨ x.Kind = 3 then recB a b x.Ref && wgtB a x else false
theorem atF_ok {l : List ApiTariff} {d : Int} (h : (atF l d).2 = 0) (ht : tarSpec l = 0) : 0 ≤ (atF l d).1 ∧ (atF l d).1 < l.length := by
 have h1 := (atF_eq l d).2
 unfold atP at h1
 rcases h1 with ⟨h2, _⟩ | ⟨_, ⟨_, h3⟩ | ⟨_, ⟨h3, _⟩ | ⟨k, h3, h4, _⟩⟩⟩
 ·exact absurd ht h2
 ·rw [h3] at h; cases h
 ·rw [h3] at h; cases h
 ·rw [h3]; exact ⟨by simp, by dsimp only; omega⟩
theorem right59_eq {v : AuditInvoice} (hb : bilSpec v.account_ = 0) (hl : v.account_.Emptyings.length ≤ 60) (ha : v.account_.Assigns.length ≤ 60) (hw : wfB v.account_ v.Bill) (hbase : v.base_ = (baseSpec v.account_.Tariffs v.Bill.When).1) (x : ApiItem) :
  m_audit_invoice_right 40000 v x = some (rightB v.account_ v.Bill x) := by
 obtain ⟨_, _, ht, _⟩ := bilSpec_zero hb
 unfold m_audit_invoice_right rightB
 by_cases h1 : x.Kind = 1
 ·rw [if_pos h1, if_pos h1, hbase, contains_eq _ _ (Nat.lt_of_le_of_lt (baseSpec_len _ _) (by omega)) (Nat.le_trans (baseSpec_len _ _) (by omega))]
  rfl
 ·rw [if_neg h1, if_neg h1]
  have h23 : (andThen (if x.Kind = 2 then some (Step.next (ρ := Bool) (decide (x.Kind = 2))) else some (.next (decide (x.Kind = 3))))) = andThen (some (Step.next (ρ := Bool) (decide (x.Kind = 2 ∨ x.Kind = 3)))) := by
   by_cases h2 : x.Kind = 2
   ·rw [if_pos h2, decide_eq_true h2, decide_eq_true (.inl h2)]
   ·rw [if_neg h2]
    by_cases h3 : x.Kind = 3
    ·rw [decide_eq_true h3, decide_eq_true (.inr h3)]
    ·rw [decide_eq_false h3, decide_eq_false (by rintro (h | h) <;> contradiction)]
  rw [h23, andThen_next]
  by_cases hk : x.Kind = 2 ∨ x.Kind = 3
  ·rw [decide_eq_true hk, if_pos rfl, if_neg (show ¬ x.Kind = 4 by omega), if_pos hk, record_eq hl ha hw, Option.bind_some]
   dsimp only
   by_cases hr : recB v.account_ v.Bill x.Ref = true
   ·have hn : ¬ recI v.account_ x.Ref < 0 := by
     unfold recB at hr
     rw [Bool.and_eq_true, decide_eq_true_eq] at hr
     omega
    obtain ⟨i1, i2, _⟩ := recI_ok hn
    have hf := emFault_zero (em_ok hb ⟨i1, i2⟩)
    rw [hr, if_neg (by decide), if_neg hn, ck_yes ⟨i1, i2⟩, ck_yes (by unfold I64; omega), (atF_eq _ _).1, Option.bind_some, Bool.true_and]
    unfold wgtB
    by_cases he : (atF v.account_.Tariffs (Int.tdiv (ix v.account_.Emptyings (recI v.account_ x.Ref)).At 86400)).2 = 0
    ·rw [if_neg (by rw [he]; decide), ck_yes (atF_ok he ht), itProg_eq, Option.bind_some, decide_eq_true he, Bool.true_and]
     by_cases hi : (itSpec (ix v.account_.Tariffs (atF v.account_.Tariffs (Int.tdiv (ix v.account_.Emptyings (recI v.account_ x.Ref)).At 86400)).1) (ix v.account_.Emptyings (recI v.account_ x.Ref))).2 = 0
     ·rw [decide_eq_true hi, callIf_yes rfl, contains_eq _ _ (Nat.lt_of_le_of_lt (itSpec_len _ _) (by omega)) (Nat.le_trans (itSpec_len _ _) (by omega)), Option.bind_some, Bool.true_and]
     ·rw [decide_eq_false hi, callIf_no (by decide), itSpec_err hi]
      rfl
    ·rw [if_pos he, decide_eq_false he]
     rfl
   ·rw [Bool.not_eq_true] at hr
    rw [hr, if_pos (by decide)]
    rfl
  ·rw [decide_eq_false hk, if_neg (by decide)]
   by_cases h4 : x.Kind = 4
   ·rw [if_pos h4, if_pos h4]
   ·rw [if_neg h4, if_neg h4, if_neg hk]
theorem itemRight_eq {a : ApiAccount} {b : ApiBill} (hb : bilSpec a = 0) (hl : a.Emptyings.length ≤ 60) (ha : a.Assigns.length ≤ 60) (hw : wfB a b) (x : ApiItem) :
  m_recyclingref59_itemRight 40000 a b x = some (rightB a b x) := by
 obtain ⟨_, _, ht, _⟩ := bilSpec_zero hb
 unfold m_recyclingref59_itemRight rightB
 by_cases h1 : x.Kind = 1
 ·rw [if_pos h1, if_pos h1, baseRef_eq (by omega), Option.bind_some, has_eq _ _ (Nat.lt_of_le_of_lt (baseSpec_len _ _) (by omega)) (Nat.le_trans (baseSpec_len _ _) (by omega))]
  rfl
 ·rw [if_neg h1, if_neg h1]
  by_cases h4 : x.Kind = 4
  ·rw [if_pos h4, if_pos h4]
  ·rw [if_neg h4, if_neg h4]
   by_cases hk : x.Kind = 2 ∨ x.Kind = 3
   ·rw [if_neg (by simp; omega), if_pos hk, belongs59_eq hl ha hw, Option.bind_some]
    by_cases hr : recB a b x.Ref = true
    ·have hn : ¬ recI a x.Ref < 0 := by
      unfold recB at hr
      rw [Bool.and_eq_true, decide_eq_true_eq] at hr
      omega
     obtain ⟨i1, i2, _⟩ := recI_ok hn
     have hf := emFault_zero (em_ok hb ⟨i1, i2⟩)
     obtain ⟨z, e⟩ := refRecord_eq a x.Ref hl
     rw [hr, if_neg (by decide), e, Option.bind_some]
     dsimp only
     rw [if_neg hn, ck_yes (by unfold I64; omega), at_same (by omega), (atF_eq _ _).1, Option.bind_some, Bool.true_and]
     unfold wgtB
     by_cases he : (atF a.Tariffs (Int.tdiv (ix a.Emptyings (recI a x.Ref)).At 86400)).2 = 0
     ·rw [if_neg (by rw [he]; decide), ck_yes (atF_ok he ht), itRef_eq, Option.bind_some, decide_eq_true he, Bool.true_and, has_eq _ _ (Nat.lt_of_le_of_lt (itSpec_len _ _) (by omega)) (Nat.le_trans (itSpec_len _ _) (by omega)), Option.bind_some]
     ·rw [if_pos he, decide_eq_false he]
      rfl
    ·rw [Bool.not_eq_true] at hr
     rw [hr, if_pos (by decide)]
     rfl
   ·rw [if_pos (by simp; omega), if_neg hk]
end Go.Proofs.YtbnimhmoffchdaaGreatDoor
namespace Go.Proofs.YtbnimhmoffchdaaGreatDoor
attribute [local instance] jfTrue

def inAmt (x : ApiItem) : Bool := !((decide (x.Amount < -1000000000000)) || (decide (1000000000000 < x.Amount)))
def totB (b : ApiBill) : Bool := b.Items.all inAmt && decide (sumP (fun _ => true) b.Items = b.Total)
theorem inAmt_ok {x : ApiItem} (h : inAmt x = true) : -1000000000000 ≤ x.Amount ∧ x.Amount ≤ 1000000000000 := by
 unfold inAmt at h
 simp at h
 omega
theorem total_sum {l : List ApiItem} (h : ∀ x ∈ l, inAmt x = true) (hl : l.length ≤ 60) : -60000000000000 ≤ sumP (fun _ => true) l ∧ sumP (fun _ => true) l ≤ 60000000000000 := by
 have := sumP_bound (fun _ => true) (l := l) fun x hx => inAmt_ok (h x hx)
 omega
theorem balanced_eq (v : AuditInvoice) (hl : v.Bill.Items.length ≤ 60) : m_audit_invoice_balanced 40000 v = some (totB v.Bill) := by
 unfold m_audit_invoice_balanced
 refine then_exE (N := 40000) v.Bill.Items.length (fun (t : Int) i => (t, i)) (fun t => t) (fun i t => t = sumP (fun _ => true) (v.Bill.Items.take i) ∧ ∀ x ∈ v.Bill.Items.take i, inAmt x = true) (fun r => r = false ∧ totB v.Bill = false) 0 rfl ⟨rfl, by simp⟩ (by omega) (fun i t hi hv => ?_) (fun t _ => by dsimp only; rw [if_neg (by omega)]) (fun t ht => ?_) (fun r hr => by rw [hr.1, hr.2])
 ·have hs := total_sum hv.2 (by rw [List.length_take]; omega)
  rw [← hv.1] at hs
  dsimp only
  rw [if_pos (by omega), ck_yes (by omega), ix_nat hi]
  by_cases h : inAmt v.Bill.Items[i] = true
  ·left
   have h2 := inAmt_ok h
   rw [if_neg (by unfold inAmt at h; rw [Bool.not_eq_true']  at h; rw [h]; decide), ck_yes (by unfold I64; omega), ck_yes (by unfold I64; omega)]
   refine ⟨_, rfl, ?_, fun x hx => ?_⟩
   ·rw [sumP_take _ hi, hv.1, if_pos rfl]
   ·rcases (mem_take_succ hi).1 hx with hx | hx
    ·exact hv.2 x hx
    ·rw [hx]; exact h
  ·right
   rw [if_pos (by unfold inAmt at h; rw [Bool.not_eq_true, Bool.not_eq_false'] at h; exact h)]
   refine ⟨_, rfl, rfl, ?_⟩
   unfold totB
   have : v.Bill.Items.all inAmt = false := by
    rw [List.all_eq_false]
    exact ⟨_, List.getElem_mem hi, h⟩
   rw [this]; rfl
 ·rw [List.take_length] at ht
  unfold totB
  rw [List.all_eq_true.2 ht.2, ht.1]
  rfl
theorem totalRight_eq (b : ApiBill) (hl : b.Items.length ≤ 60) : m_recyclingref59_totalRight 40000 b = some (totB b) := by
 rw [← balanced_eq ⟨b, default, [], [], ()⟩ hl]
 unfold m_recyclingref59_totalRight m_audit_invoice_balanced
 congr 1
 congr 1
 funext s
 by_cases h : s.2 < (b.Items.length : Int)
 ·rw [if_pos h]
  by_cases h0 : (0 : Int) ≤ s.2
  ·have e : ∀ {α : Type} {x : Option α}, ck ((0 : Int) ≤ s.2 ∧ s.2 < (b.Items.length : Int)) x = x := fun {α x} => if_pos ⟨h0, h⟩
   rw [e, ck_yes (fun _ => ⟨h0, h⟩)]
   dsimp only
   rw [if_pos h]
   simp only [e]
  ·have e : ∀ {α : Type} {x : Option α}, ck ((0 : Int) ≤ s.2 ∧ s.2 < (b.Items.length : Int)) x = none := fun {α x} => if_neg (by omega)
   rw [e]
   dsimp only
   rw [if_pos h, e]
 ·rw [if_neg h]
  dsimp only
  rw [if_neg h]
def chgI (b : ApiBill) (ref : Int) : Int := idx (emP ref) b.Items
theorem charges_eq (v : AuditInvoice) (hl : v.Bill.Items.length ≤ 60) (ref : Int) : m_audit_invoice_charges 40000 v ref = some (chgI v.Bill ref) := by
 unfold m_audit_invoice_charges m_slices_IndexFunc_audit_invoice_charges_1
 rw [index_eq v.Bill.Items (emP ref) (fun i hi => ?_) (by rw [if_neg (by omega)]) (by omega)]
 ·rfl
 ·rw [if_pos (by omega), ck_yes (by omega), ix_nat hi]
  unfold m_audit_invoice_charges_1 emP
  rw [Option.bind_some, ck_yes (by unfold I64; omega)]
theorem billed_eq (b : ApiBill) (hl : b.Items.length ≤ 60) (ref : Int) : m_recyclingref59_billed 40000 b ref = some (b.Items.any (emP ref)) := by
 unfold m_recyclingref59_billed
 rw [loop_find b.Items (fun y => if emP ref y = true then some true else none) () (fun i hi => ?_) (by rw [if_neg (by omega)]) (by omega)]
 ·generalize b.Items = l
  induction l with
  | nil => rfl
  | cons y l ih =>
   rw [List.findSome?_cons, List.any_cons]
   cases emP ref y with
   | true => rfl
   | false => exact ih
 ·rw [if_pos (by omega), ck_yes (by omega), ck_yes (fun _ => by omega), ix_nat hi]
  unfold emP
  split
  ·rfl
  ·rw [ck_yes (by unfold I64; omega)]
def clampA (x : ApiItem) : Int := min (max x.Amount (-1000000000001 : Int)) (1000000000001 : Int)
theorem clampA_ok (x : ApiItem) : -1000000000001 ≤ clampA x ∧ clampA x ≤ 1000000000001 := by unfold clampA; omega
def credS (ref : Int) : List ApiItem → Int
 | [] => 0
 | x :: l => (if x.Ref = ref ∧ x.Kind ≠ 1 then clampA x else 0) + credS ref l
theorem credS_append (ref : Int) : ∀ a b, credS ref (a ++ b) = credS ref a + credS ref b
 | [], b => by show credS ref b = 0 + _; omega
 | x :: a, b => by show _ + credS ref (a ++ b) = (_ + credS ref a) + _; rw [credS_append ref a b]; omega
theorem credS_one (ref : Int) (x : ApiItem) : credS ref [x] = if x.Ref = ref ∧ x.Kind ≠ 1 then clampA x else 0 := by show _ + (0 : Int) = _; omega
theorem credS_bound (ref : Int) : ∀ l : List ApiItem, -((l.length : Int) * 1000000000001) ≤ credS ref l ∧ credS ref l ≤ (l.length : Int) * 1000000000001
 | [] => ⟨Int.le_refl _, Int.le_refl _⟩
 | x :: l => by
  have h1 := credS_bound ref l
  have h2 := clampA_ok x
  have e : credS ref (x :: l) = (if x.Ref = ref ∧ x.Kind ≠ 1 then clampA x else 0) + credS ref l := rfl
  rw [e, List.length_cons]
  split <;> omega
theorem and_bool (x : ApiItem) (ref : Int) : ((decide (x.Ref = ref)) && (decide (x.Kind ≠ 1))) = true ↔ x.Ref = ref ∧ x.Kind ≠ 1 := by simp
theorem credited_eq (v : AuditInvoice) (hl : v.Bill.Items.length ≤ 60) (ref : Int) : m_audit_invoice_credited 40000 v ref = some (decide (credS ref v.Bill.Items = 0)) := by
 unfold m_audit_invoice_credited
 refine then_ex (N := 40000) v.Bill.Items.length (fun (t : Int) i => (t, i)) (fun t => t) (fun i t => t = credS ref (v.Bill.Items.take i)) 0 rfl rfl (by omega) (fun i t hi hv => ?_) (fun t _ => by dsimp only; rw [if_neg (by omega)]) (fun t ht => ?_)
 ·have hb := credS_bound ref (v.Bill.Items.take i)
  have hbl : (v.Bill.Items.take i).length ≤ 60 := by rw [List.length_take]; omega
  have hc := clampA_ok v.Bill.Items[i]
  rw [← hv] at hb
  refine ⟨_, ?_, by rw [take_succ_get hi, credS_append, credS_one, ← hv]⟩
  dsimp only
  rw [if_pos (by omega), ck_yes (by omega), ix_nat hi]
  unfold clampA at hc ⊢
  by_cases h : v.Bill.Items[i].Ref = ref ∧ v.Bill.Items[i].Kind ≠ 1
  ·rw [if_pos ((and_bool _ _).2 h), ck_yes (by unfold I64; omega), andThen_next, ck_yes (by unfold I64; omega), if_pos h]
  ·rw [if_neg (fun e => h ((and_bool _ _).1 e)), andThen_next, ck_yes (by unfold I64; omega), if_neg h, Int.add_zero]
 ·rw [List.take_length] at ht
  rw [ht]
theorem charged_eq (b : ApiBill) (hl : b.Items.length ≤ 60) (ref : Int) : m_recyclingref59_charged 40000 b ref = some (credS ref b.Items) := by
 unfold m_recyclingref59_charged
 refine then_ex (N := 40000) b.Items.length (fun (t : Int) i => (t, i)) (fun t => t) (fun i t => t = credS ref (b.Items.take i)) 0 rfl rfl (by omega) (fun i t hi hv => ?_) (fun t _ => by dsimp only; rw [if_neg (by omega)]) (fun t ht => ?_)
 ·have hb := credS_bound ref (b.Items.take i)
  have hbl : (b.Items.take i).length ≤ 60 := by rw [List.length_take]; omega
  have hc := clampA_ok b.Items[i]
  rw [← hv] at hb
  refine ⟨_, ?_, by rw [take_succ_get hi, credS_append, credS_one, ← hv]⟩
  dsimp only
  have e : max (-1000000000001 : Int) (min (1000000000001 : Int) b.Items[i].Amount) = clampA b.Items[i] := by unfold clampA; omega
  rw [if_pos (by omega), ck_yes (by omega), ix_nat hi, e]
  by_cases h : b.Items[i].Ref = ref ∧ b.Items[i].Kind ≠ 1
  ·rw [if_pos ((and_bool _ _).2 h), ck_yes (by unfold I64; omega), andThen_next, ck_yes (by unfold I64; omega), if_pos h]
  ·rw [if_neg (fun e => h ((and_bool _ _).1 e)), andThen_next, ck_yes (by unfold I64; omega), if_neg h, Int.add_zero]
 ·rw [List.take_length] at ht
  rw [ht]
end Go.Proofs.YtbnimhmoffchdaaGreatDoor
namespace Go.Proofs.YtbnimhmoffchdaaGreatDoor
attribute [local instance] jfTrue

def apps {γ : Type} (n : Nat) (g : Nat → List γ) : List γ := (List.range' 0 n).flatMap g
/-- A loop that appends at most one finding at each place. -/
theorem loop_app {γ ρ : Type} {f : List γ × Int → Option (Step (List γ × Int) ρ)} {N : Nat} (n : Nat) (g : Nat → List γ) (fin : List γ → ρ) (B : Nat) (F0 : List γ) (hF0 : F0.length ≤ B) (hg : ∀ i, i < n → (g i).length ≤ 1)
  (h : ∀ (i : Nat) F, i < n → F.length ≤ B + n → f (F, (i : Int)) = some (.next (F ++ g i, (i : Int) + 1))) (he : ∀ F, f (F, (n : Int)) = some (.done (fin F))) (hN : n < N) : loopM f N (F0, 0) = some (fin (F0 ++ apps n g)) := by
 have key : ∀ (k i : Nat) (F : List γ) (M : Nat), i + k = n → k < M → F.length ≤ B + i → loopM f M (F, (i : Int)) = some (fin (F ++ (List.range' i k).flatMap g)) := by
  intro k
  induction k with
  | zero =>
   intro i F M hi hM hF
   obtain ⟨M, rfl⟩ : ∃ m, M = m + 1 := ⟨M - 1, by omega⟩
   have : i = n := by omega
   subst this
   unfold loopM
   rw [he F]
   simp
  | succ k ih =>
   intro i F M hi hM hF
   obtain ⟨M, rfl⟩ : ∃ m, M = m + 1 := ⟨M - 1, by omega⟩
   have h1 := hg i (by omega)
   have := ih (i + 1) (F ++ g i) M (by omega) (by omega) (by rw [List.length_append]; omega)
   rw [Int.natCast_add] at this
   unfold loopM
   rw [h i F (by omega) (by omega)]
   dsimp only
   rw [List.range'_succ, List.flatMap_cons, ← List.append_assoc]
   exact this
 exact key n 0 F0 N (by omega) hN hF0
theorem apps_len {γ : Type} {g : Nat → List γ} : ∀ (n : Nat), (∀ i, i < n → (g i).length ≤ 1) → (apps n g).length ≤ n := by
 have key : ∀ (k i : Nat), (∀ j, j < i + k → (g j).length ≤ 1) → ((List.range' i k).flatMap g).length ≤ k := by
  intro k
  induction k with
  | zero => intro i _; simp
  | succ k ih =>
   intro i h
   have h1 := h i (by omega)
   have h2 := ih (i + 1) fun j hj => h j (by omega)
   rw [List.range'_succ, List.flatMap_cons, List.length_append]
   omega
 exact fun n h => key n 0 fun j hj => h j (by omega)
def one (c : Bool) (x : ApiFinding) : List ApiFinding := if c = true then [x] else []
theorem one_len (c : Bool) (x : ApiFinding) : (one c x).length ≤ 1 := by unfold one; split <;> simp
theorem collect_eq {F : List ApiFinding} {k a b : Int} (h : F.length ≤ 100000) : m_audit_collector_1 40000 k a b () F = some () := by
 unfold m_audit_collector_1
 rw [ck_yes (by simp; omega)]
noncomputable def gRight (a : ApiAccount) (b : ApiBill) (k : Int) (i : Nat) : List ApiFinding := one (!rightB a b (ix b.Items i)) ⟨11, k, i⟩
def gMiss (a : ApiAccount) (b : ApiBill) (k : Int) (cnt : List Int) (j : Nat) : List ApiFinding := one (!b.Items.any (emP (ix a.Emptyings (ix cnt j)).ID)) ⟨12, k, (ix a.Emptyings (ix cnt j)).ID⟩
def gChg (a : ApiAccount) (b : ApiBill) (k : Int) (cnt : List Int) (i : Nat) : List ApiFinding :=
 one (decide ((ix b.Items i).Kind = 2) && decide (chgI b (ix b.Items i).Ref = i) && ((recB a b (ix b.Items i).Ref && !cnt.contains (recI a (ix b.Items i).Ref)) && !decide (credS (ix b.Items i).Ref b.Items = 0))) ⟨13, k, (ix b.Items i).Ref⟩
noncomputable def itemsF (a : ApiAccount) (b : ApiBill) (base : List ApiItem) (cnt : List Int) (k : Int) : List ApiFinding :=
 one (!totB b) ⟨10, k, 0⟩ ++ apps b.Items.length (gRight a b k) ++ one (base.any fun x => !hasB b.Items x) ⟨12, k, 0⟩ ++ apps cnt.length (gMiss a b k cnt) ++ apps b.Items.length (gChg a b k cnt)
theorem missBase_eq (v : AuditInvoice) (hl : v.Bill.Items.length ≤ 60) (hb : v.base_.length ≤ 8) : m_slices_ContainsFunc_audit_invoice_items_1 40000 v.base_ () v = some (v.base_.any fun x => !hasB v.Bill.Items x) := by
 unfold m_slices_ContainsFunc_audit_invoice_items_1 m_slices_IndexFunc_audit_invoice_items_1
 refine contains_loop v.base_ (fun x => !hasB v.Bill.Items x) (fun i hi => ?_) (by rw [if_neg (by omega)]) (by omega)
 rw [if_pos (by omega), ck_yes (by omega), ix_nat hi]
 unfold m_audit_invoice_items_1
 dsimp only
 rw [contains_eq _ _ (by omega) (by omega), Option.bind_some, Option.bind_some, ck_yes (by unfold I64; omega)]
theorem has73_eq (l : List Int) (x : Int) (hl : l.length ≤ 600) : m_slices_Contains_73 40000 l x = some (l.contains x) := by
 unfold m_slices_Contains_73 m_slices_Index_126
 rw [contains_loop l (fun y => decide (y = x)) (fun i hi => ?_) (by rw [if_neg (by omega)]) (by omega)]
 ·congr 1
  rw [Bool.eq_iff_iff]
  simp
 ·rw [if_pos (by omega), ck_yes (by omega), ix_nat hi, ck_yes (by unfold I64; omega)]
  by_cases hx : x = l[i]
  ·rw [if_pos hx, if_pos (by simpa using hx.symm)]
  ·rw [if_neg hx, if_neg (by simpa using fun e => hx e.symm)]
end Go.Proofs.YtbnimhmoffchdaaGreatDoor
namespace Go.Proofs.YtbnimhmoffchdaaGreatDoor
attribute [local instance] jfTrue

theorem items_eq {v : AuditInvoice} (hb : bilSpec v.account_ = 0) (hl : v.account_.Emptyings.length ≤ 60) (ha : v.account_.Assigns.length ≤ 60) (hw : wfB v.account_ v.Bill) (hi : v.Bill.Items.length ≤ 60)
  (hbase : v.base_ = (baseSpec v.account_.Tariffs v.Bill.When).1) (hcl : v.counted_.length ≤ 512) (hcm : ∀ j, j < v.counted_.length → 0 ≤ ix v.counted_ (j : Int) ∧ ix v.counted_ (j : Int) < v.account_.Emptyings.length) (k : Int) (F0 : List ApiFinding) (hF : F0.length ≤ 50000) :
  m_audit_invoice_items 40000 v () F0 k = some (F0 ++ itemsF v.account_ v.Bill v.base_ v.counted_ k) := by
 have hbl : v.base_.length ≤ 8 := by rw [hbase]; exact baseSpec_len _ _
 unfold m_audit_invoice_items
 have e1 : (Option.bind (m_audit_invoice_balanced 40000 v) fun r462 => (if (!r462) = true then Option.bind (m_audit_collector_1 40000 (10 : Int) k (0 : Int) () F0) fun _ => some (Step.next (ρ := List ApiFinding) (F0 ++ ([(ApiFinding.mk (10 : Int) k (0 : Int))]))) else some (.next F0))) = some (.next (F0 ++ one (!totB v.Bill) ⟨10, k, 0⟩)) := by
  rw [balanced_eq v hi, Option.bind_some, collect_eq (by omega), Option.bind_some]
  unfold one
  split
  ·rfl
  ·rw [List.append_nil]
 rw [e1, andThen_next]
 have l1 := one_len (!totB v.Bill) ⟨10, k, 0⟩
 rw [loop_app v.Bill.Items.length (gRight v.account_ v.Bill k) (fun F => .next F) 50001 _ (by rw [List.length_append]; omega) (fun i hi => one_len _ _) (fun i F hi hFl => ?_) (fun F => by dsimp only; rw [if_neg (by omega)]) (by omega), andThen_next]
 ·have l2 := apps_len (g := gRight v.account_ v.Bill k) v.Bill.Items.length fun i hi => one_len _ _
  generalize hF2 : F0 ++ one (!totB v.Bill) ⟨10, k, 0⟩ ++ apps v.Bill.Items.length (gRight v.account_ v.Bill k) = F2
  have lF2 : F2.length ≤ 50061 := by rw [← hF2, List.length_append, List.length_append]; omega
  have e2 : (Option.bind (m_slices_ContainsFunc_audit_invoice_items_1 40000 v.base_ () v) fun r596 => (if r596 = true then Option.bind (m_audit_collector_1 40000 (12 : Int) k (0 : Int) () F2) fun _ => some (Step.next (ρ := List ApiFinding) (F2 ++ ([(ApiFinding.mk (12 : Int) k (0 : Int))]))) else some (.next F2))) = some (.next (F2 ++ one (v.base_.any fun x => !hasB v.Bill.Items x) ⟨12, k, 0⟩)) := by
   rw [missBase_eq v hi hbl, Option.bind_some, collect_eq (by omega), Option.bind_some]
   unfold one
   split
   ·rfl
   ·rw [List.append_nil]
  rw [e2, andThen_next]
  have l3 := one_len (v.base_.any fun x => !hasB v.Bill.Items x) ⟨12, k, 0⟩
  rw [loop_app v.counted_.length (gMiss v.account_ v.Bill k v.counted_) (fun F => .next F) 50062 _ (by rw [List.length_append]; omega) (fun i hi => one_len _ _) (fun i F hi' hFl => ?_) (fun F => by dsimp only; rw [if_neg (by omega)]) (by omega), andThen_next]
  ·have l4 := apps_len (g := gMiss v.account_ v.Bill k v.counted_) v.counted_.length fun i hi => one_len _ _
   rw [loop_app v.Bill.Items.length (gChg v.account_ v.Bill k v.counted_) (fun F => F) 50600 _ (by rw [List.length_append, List.length_append]; omega) (fun i hi => one_len _ _) (fun i F hi' hFl => ?_) (fun F => by dsimp only; rw [if_neg (by omega)]) (by omega)]
   ·rw [← hF2]
    unfold itemsF
    simp only [List.append_assoc]
   ·dsimp only
    rw [if_pos (by omega), ck_yes (by omega)]
    unfold gChg one
    by_cases hk : (ix v.Bill.Items (i : Int)).Kind = 2
    ·rw [decide_eq_true hk, decide_eq_false (show ¬ (ix v.Bill.Items (i : Int)).Kind ≠ 2 by omega), callIf_yes (by decide), charges_eq v hi, Option.bind_some, Bool.false_or, Bool.true_and]
     by_cases hc : chgI v.Bill (ix v.Bill.Items (i : Int)).Ref = (i : Int)
     ·rw [decide_eq_true hc, decide_eq_false (show ¬ chgI v.Bill (ix v.Bill.Items (i : Int)).Ref ≠ (i : Int) by omega), if_neg (by decide), record_eq hl ha hw, Option.bind_some, Bool.true_and]
      dsimp only
      cases hr : recB v.account_ v.Bill (ix v.Bill.Items (i : Int)).Ref with
      | false =>
       rw [callIf_no (by decide), Bool.false_and, callIf_no (by decide), Bool.false_and, Bool.false_and, Bool.false_and, if_neg (by decide), if_neg (by decide), andThen_next, ck_yes (by unfold I64; omega), List.append_nil]
      | true =>
       have hn : ¬ recI v.account_ (ix v.Bill.Items (i : Int)).Ref < 0 := by
        unfold recB at hr
        rw [Bool.and_eq_true, decide_eq_true_eq] at hr
        omega
       rw [callIf_yes (by decide), if_neg hn, has73_eq _ _ (by omega), Option.bind_some, Bool.true_and]
       cases hcn : v.counted_.contains (recI v.account_ (ix v.Bill.Items (i : Int)).Ref) with
       | true =>
        rw [callIf_no (by decide), if_neg (by simp), if_neg (by simp), andThen_next, ck_yes (by unfold I64; omega), List.append_nil]
       | false =>
        rw [callIf_yes (by decide), credited_eq v hi, Option.bind_some]
        cases hcr : decide (credS (ix v.Bill.Items (i : Int)).Ref v.Bill.Items = 0) with
        | true => rw [if_neg (by decide), if_neg (by decide), andThen_next, ck_yes (by unfold I64; omega), List.append_nil]
        | false => rw [if_pos (by decide), if_pos (by decide), collect_eq (by omega), Option.bind_some, andThen_next, ck_yes (by unfold I64; omega)]
     ·rw [decide_eq_false hc, decide_eq_true (show chgI v.Bill (ix v.Bill.Items (i : Int)).Ref ≠ (i : Int) from hc), if_pos (by decide), andThen_next, ck_yes (by unfold I64; omega), Bool.false_and, if_neg (by decide), List.append_nil]
    ·rw [decide_eq_false hk, decide_eq_true (show (ix v.Bill.Items (i : Int)).Kind ≠ 2 from hk), callIf_no (by decide), Bool.true_or, if_pos (by decide), andThen_next, ck_yes (by unfold I64; omega), Bool.false_and, Bool.false_and, if_neg (by decide), List.append_nil]
  ·dsimp only
   rw [if_pos (by omega), ck_yes (by omega), ck_yes (hcm i hi'), charges_eq v hi, Option.bind_some]
   unfold gMiss one
   have he : v.Bill.Items.any (emP (ix v.account_.Emptyings (ix v.counted_ (i : Int))).ID) = decide (0 ≤ chgI v.Bill (ix v.account_.Emptyings (ix v.counted_ (i : Int))).ID) := (idx_any _ _).symm
   rw [he]
   by_cases hc : chgI v.Bill (ix v.account_.Emptyings (ix v.counted_ (i : Int))).ID < 0
   ·rw [if_pos hc, decide_eq_false (by omega), if_pos (by decide), collect_eq (by omega), Option.bind_some, andThen_next, ck_yes (by unfold I64; omega)]
   ·rw [if_neg hc, decide_eq_true (by omega), if_neg (by decide), andThen_next, ck_yes (by unfold I64; omega), List.append_nil]
 ·dsimp only
  rw [if_pos (by omega), ck_yes (by omega), right59_eq hb hl ha hw hbase, Option.bind_some]
  unfold gRight one
  cases hr : rightB v.account_ v.Bill (ix v.Bill.Items (i : Int)) with
  | false => rw [if_pos (by decide), if_pos (by decide), collect_eq (by omega), Option.bind_some, andThen_next, ck_yes (by unfold I64; omega)]
  | true => rw [if_neg (by decide), if_neg (by decide), andThen_next, ck_yes (by unfold I64; omega), List.append_nil]
end Go.Proofs.YtbnimhmoffchdaaGreatDoor
namespace Go.Proofs.YtbnimhmoffchdaaGreatDoor
attribute [local instance] jfTrue

theorem loop_any {α ρ : Type} {f : Int → Option (Step Int ρ)} {N : Nat} (l : List α) (p : α → Bool) (r1 r0 : ρ) (h : ∀ (i : Nat) (hi : i < l.length), f (i : Int) = if p l[i] = true then some (.done r1) else some (.next ((i : Int) + 1)))
  (he : f (l.length : Int) = some (.done r0)) (hN : l.length < N) : loopM f N 0 = some (if l.any p = true then r1 else r0) := by
 have key : ∀ (k i M : Nat), i + k = l.length → k < M → loopM f M (i : Int) = some (if (l.drop i).any p = true then r1 else r0) := by
  intro k
  induction k with
  | zero =>
   intro i M hi hM
   obtain ⟨M, rfl⟩ : ∃ m, M = m + 1 := ⟨M - 1, by omega⟩
   have : i = l.length := by omega
   subst this
   unfold loopM
   rw [he]
   simp
  | succ k ih =>
   intro i M hi hM
   obtain ⟨M, rfl⟩ : ∃ m, M = m + 1 := ⟨M - 1, by omega⟩
   have hil : i < l.length := by omega
   have := ih (i + 1) M (by omega) (by omega)
   rw [Int.natCast_add] at this
   unfold loopM
   rw [h i hil, List.drop_eq_getElem_cons hil, List.any_cons]
   cases hp : p l[i] with
   | true => simp
   | false =>
    rw [if_neg (by decide), Bool.false_or]
    exact this
 exact key l.length 0 N (by omega) hN
theorem in_eq (l : List Int) (x : Int) (hl : l.length ≤ 600) : m_recyclingref59_in 40000 l x = some (l.contains x) := by
 unfold m_recyclingref59_in
 rw [loop_any l (fun y => decide (y = x)) (.done true) (.next ()) (fun i hi => ?_) (by rw [if_neg (by omega)]) (by omega)]
 ·have e : l.contains x = l.any fun y => decide (y = x) := by
   rw [Bool.eq_iff_iff]
   simp
  rw [e]
  cases l.any fun y => decide (y = x) <;> rfl
 ·rw [if_pos (by omega), ck_yes (by omega), ix_nat hi, ck_yes (by unfold I64; omega)]
  by_cases hx : l[i] = x
  ·rw [if_pos hx, if_pos (by simpa using hx)]
  ·rw [if_neg hx, if_neg (by simpa using hx)]
theorem flatMap_one {γ : Type} (g : Nat → γ) : ∀ m : List Nat, (m.flatMap fun i => [g i]) = m.map g
 | [] => rfl
 | y :: m => by rw [List.flatMap_cons, List.map_cons, flatMap_one g m]; rfl
theorem apps_map {γ α : Type} [Inhabited α] (l : List α) (g : α → γ) : apps l.length (fun i => [g (ix l (i : Int))]) = l.map g := by
 unfold apps
 rw [flatMap_one (fun i => g (ix l (i : Int))), ← List.range_eq_range']
 refine List.ext_getElem (by simp) fun j h1 h2 => ?_
 have hj : j < l.length := by simpa using h2
 rw [List.getElem_map, List.getElem_map, List.getElem_range, ix_nat hj]
theorem wf_win {a : ApiAccount} {b : ApiBill} (h : wfB a b) : ¬ winBad b.When := by
 unfold wfB at h
 unfold winBad
 omega
def cntI (a : ApiAccount) (b : ApiBill) : List Int := mkIdx a b.Household b.When
theorem counting59_eq {a : ApiAccount} {b : ApiBill} (hb : bilSpec a = 0) (ha : a.Assigns.length ≤ 60) (hw : wfB a b) : m_recyclingref59_counting 40000 a b = some ((cntI a b).map fun i => (ix a.Emptyings i).ID) := by
 have hw' := hw
 unfold wfB at hw'
 unfold m_recyclingref59_counting
 have hlen : (cntI a b).length ≤ 512 := mkIdx_len hb (wf_win hw) _
 rw [ck_yes (by unfold I64; omega), ck_yes (by unfold I64; omega), refOf_eq (by omega) _ (by omega) (by omega), Option.bind_some]
 have e : (emOf a.Emptyings a.Assigns b.Household (ApiWindow.mk (b.When.From * (86400 : Int)) (b.When.To * (86400 : Int))) a.Gap).1 = cntI a b := rfl
 rw [e]
 rw [loop_app (cntI a b).length (fun i => [(ix a.Emptyings (ix (cntI a b) i)).ID]) (fun F => .next F) 0 [] (by simp) (fun i hi => by simp) (fun i F hi hF => ?_) (fun F => by dsimp only; rw [if_neg (by omega)]) (by omega)]
 ·rw [andThen_next, List.nil_append, apps_map (cntI a b) fun i => (ix a.Emptyings i).ID]
 ·have hm := mkIdx_ok hb (wf_win hw) (h := b.Household) (i := (cntI a b)[i]) (List.getElem_mem hi)
  dsimp only
  rw [if_pos (by omega), ck_yes (by omega), ck_yes (by rw [ix_nat hi]; exact hm.1), ck_yes (by simp; omega), ck_yes (by unfold I64; omega)]
end Go.Proofs.YtbnimhmoffchdaaGreatDoor
namespace Go.Proofs.YtbnimhmoffchdaaGreatDoor
attribute [local instance] jfTrue

theorem apps_succ {γ : Type} (g : Nat → List γ) (n : Nat) : apps (n + 1) g = apps n g ++ g n := by
 unfold apps
 rw [← List.range_eq_range', ← List.range_eq_range', List.range_succ, List.flatMap_append, List.flatMap_cons, List.flatMap_nil, List.append_nil]
theorem chg_first {b : ApiBill} {i : Nat} (hi : i < b.Items.length) (hk : b.Items[i].Kind = 2) : decide (chgI b b.Items[i].Ref = (i : Int)) = !(b.Items.take i).any (emP b.Items[i].Ref) := by
 have hp : emP b.Items[i].Ref b.Items[i] = true := by unfold emP; simp [hk]
 cases ha : (b.Items.take i).any (emP b.Items[i].Ref) with
 | true =>
  refine decide_eq_false fun e => ?_
  obtain ⟨k, e1, hk1, _, h3⟩ := idx_pos (p := emP b.Items[i].Ref) (l := b.Items) (by unfold chgI at e; omega)
  unfold chgI at e
  have hki : k = i := by omega
  subst hki
  obtain ⟨x, hx, hpx⟩ := List.any_eq_true.1 ha
  obtain ⟨j, hj, rfl⟩ := List.mem_take_iff_getElem.1 hx
  have := h3 j (by omega)
  rw [this] at hpx
  cases hpx
 | false =>
  refine decide_eq_true ?_
  unfold chgI idx
  rw [(List.findIdx?_eq_some_iff_getElem (p := emP b.Items[i].Ref) (xs := b.Items) (i := i)).2 ⟨hi, hp, fun j hj => by
   have := List.any_eq_false.1 ha (b.Items[j]'(by omega)) (List.mem_take_iff_getElem.2 ⟨j, by omega, rfl⟩)
   exact this⟩]
def idsI (a : ApiAccount) (b : ApiBill) : List Int := (cntI a b).map fun i => (ix a.Emptyings i).ID
theorem ids_contains {a : ApiAccount} {b : ApiBill} (hb : bilSpec a = 0) (hw : wfB a b) {ref : Int} (hr : recB a b ref = true) : (idsI a b).contains ref = (cntI a b).contains (recI a ref) := by
 have hn : ¬ recI a ref < 0 := by
  unfold recB at hr
  rw [Bool.and_eq_true, decide_eq_true_eq] at hr
  omega
 obtain ⟨i1, i2, i3⟩ := recI_ok hn
 obtain ⟨_, h2, _⟩ := bilSpec_zero hb
 obtain ⟨_, _, hnd⟩ := emCheck_zero h2
 rw [Bool.eq_iff_iff, List.contains_iff_mem, List.contains_iff_mem]
 unfold idsI
 rw [List.mem_map]
 constructor
 ·rintro ⟨i, hi, e⟩
  have hm := (mkIdx_ok hb (wf_win hw) (h := b.Household) hi).1
  obtain ⟨x, rfl⟩ := Int.eq_ofNat_of_zero_le hm.1
  obtain ⟨y, hy⟩ := Int.eq_ofNat_of_zero_le i1
  have hxl : x < a.Emptyings.length := by omega
  have hyl : y < a.Emptyings.length := by omega
  have := nodup_get hnd (i := x) (j := y) (by simpa using hxl) (by simpa using hyl) (by
   rw [List.getElem_map, List.getElem_map]
   rw [ix_nat hxl] at e
   rw [hy, ix_nat hyl] at i3
   rw [e, i3])
  rw [hy, ← this]
  exact hi
 ·intro hi
  exact ⟨_, hi, i3⟩
theorem missing_eq {a : ApiAccount} {b : ApiBill} (hb : bilSpec a = 0) (ha : a.Assigns.length ≤ 60) (hw : wfB a b) (hi : b.Items.length ≤ 60) (k : Int) :
  m_recyclingref59_missing 40000 a b k = some (one ((baseSpec a.Tariffs b.When).1.any fun x => !hasB b.Items x) ⟨12, k, 0⟩ ++ apps (cntI a b).length (gMiss a b k (cntI a b))) := by
 have hbl := baseSpec_len a.Tariffs b.When
 have hlen : (cntI a b).length ≤ 512 := mkIdx_len hb (wf_win hw) _
 have hil : (idsI a b).length = (cntI a b).length := by unfold idsI; simp
 unfold m_recyclingref59_missing
 rw [baseRef_eq (by omega), Option.bind_some]
 rw [loop_any (baseSpec a.Tariffs b.When).1 (fun x => !hasB b.Items x) (.next [⟨12, k, 0⟩]) (.next []) (fun i hi' => ?_) (by rw [if_neg (by omega)]) (by omega)]
 ·have e1 : (if ((baseSpec a.Tariffs b.When).1.any fun x => !hasB b.Items x) = true then Step.next (ρ := List ApiFinding) [(⟨12, k, 0⟩ : ApiFinding)] else .next []) = .next (one ((baseSpec a.Tariffs b.When).1.any fun x => !hasB b.Items x) ⟨12, k, 0⟩) := by
   unfold one
   split <;> rfl
  rw [e1, andThen_next, counting59_eq hb ha hw, Option.bind_some]
  have l1 := one_len ((baseSpec a.Tariffs b.When).1.any fun x => !hasB b.Items x) ⟨12, k, 0⟩
  show andThen (loopM _ _ _) _ = _
  have e2 : ((cntI a b).map fun i => (ix a.Emptyings i).ID) = idsI a b := rfl
  rw [e2]
  rw [loop_app (idsI a b).length (gMiss a b k (cntI a b)) (fun F => .next F) 1 _ l1 (fun i hi => one_len _ _) (fun i F hi' hF => ?_) (fun F => by dsimp only; rw [if_neg (by omega)]) (by omega), andThen_next, hil]
  have hic : i < (cntI a b).length := by omega
  have e3 : ix (idsI a b) (i : Int) = (ix a.Emptyings (ix (cntI a b) (i : Int))).ID := by
   rw [ix_nat hi', ix_nat hic]
   simp [idsI]
  dsimp only
  rw [if_pos (by omega), ck_yes (by omega), e3, billed_eq b hi, Option.bind_some]
  unfold gMiss one
  split
  ·rw [ck_yes (by omega), ck_yes (by simp; omega), andThen_next, ck_yes (by unfold I64; omega)]
  ·rw [andThen_next, ck_yes (by unfold I64; omega), List.append_nil]
 ·rw [if_pos (by omega), ck_yes (by omega), ix_nat hi', has_eq _ _ (by omega) (by omega), Option.bind_some]
  split
  ·rw [ck_yes (by simp)]; rfl
  ·rw [ck_yes (by unfold I64; omega)]
end Go.Proofs.YtbnimhmoffchdaaGreatDoor
