/- Layer 59 in plain words: items that are right, totals, charges. -/
import Derived.Test.YtbnimhmoffchdaaGreatDoorWAu3
namespace Go.Proofs.YtbnimhmoffchdaaGreatDoor
attribute [local instance] jfTrue

theorem baseSpec_len (l : List ApiTariff) (w : ApiWindow) : (baseSpec l w).1.length ≤ 8 := by
  unfold baseSpec
  split
  · simp
  · rename_i h
    split
    · simp
    · split
      · simp
      · obtain ⟨_, h8, _⟩ := tarSpec_zero (Decidable.not_not.1 h)
        have : ∀ k, (baseL l w k).length ≤ k := fun k => by
          induction k with
          | zero => simp [baseL]
          | succ k ih => rw [baseL_succ, List.length_append]; have := baseI_len l w k; omega
        exact Nat.le_trans (this _) h8
theorem itSpec_len (t : ApiTariff) (x : ApiEmptying) : (itSpec t x).1.length ≤ 2 := by
  unfold itSpec
  split
  · simp
  · split <;> simp
theorem itSpec_err {t : ApiTariff} {x : ApiEmptying} (h : (itSpec t x).2 ≠ 0) : (itSpec t x).1 = [] := by
  unfold itSpec at h ⊢
  split
  · rfl
  · rename_i h1
    rw [if_neg h1] at h
    split at h <;> exact absurd rfl h
noncomputable def wgtB (a : ApiAccount) (x : ApiItem) : Bool :=
  decide ((atF a.Tariffs (Int.tdiv (ix a.Emptyings (recI a x.Ref)).At 86400)).2 = 0) && hasB (itSpec (ix a.Tariffs (atF a.Tariffs (Int.tdiv (ix a.Emptyings (recI a x.Ref)).At 86400)).1) (ix a.Emptyings (recI a x.Ref))).1 x
noncomputable def rightB (a : ApiAccount) (b : ApiBill) (x : ApiItem) : Bool :=
  if x.Kind = 1 then hasB (baseSpec a.Tariffs b.When).1 x else if x.Kind = 4 then decide (x.Amount < 0) else if x.Kind = 2 ∨ x.Kind = 3 then recB a b x.Ref && wgtB a x else false
theorem atF_ok {l : List ApiTariff} {d : Int} (h : (atF l d).2 = 0) (ht : tarSpec l = 0) : 0 ≤ (atF l d).1 ∧ (atF l d).1 < l.length := by
  have h1 := (atF_eq l d).2
  unfold atP at h1
  rcases h1 with ⟨h2, _⟩ | ⟨_, ⟨_, h3⟩ | ⟨_, ⟨h3, _⟩ | ⟨k, h3, h4, _⟩⟩⟩
  · exact absurd ht h2
  · rw [h3] at h; cases h
  · rw [h3] at h; cases h
  · rw [h3]; exact ⟨by simp, by dsimp only; omega⟩
theorem right59_eq {v : AuditInvoice} (hb : bilSpec v.account_ = 0) (hl : v.account_.Emptyings.length ≤ 60) (ha : v.account_.Assigns.length ≤ 60) (hw : wfB v.account_ v.Bill) (hbase : v.base_ = (baseSpec v.account_.Tariffs v.Bill.When).1) (x : ApiItem) :
    m_audit_invoice_right 40000 v x = some (rightB v.account_ v.Bill x) := by
  obtain ⟨_, _, ht, _⟩ := bilSpec_zero hb
  unfold m_audit_invoice_right rightB
  by_cases h1 : x.Kind = 1
  · rw [if_pos h1, if_pos h1, hbase, contains_eq _ _ (Nat.lt_of_le_of_lt (baseSpec_len _ _) (by omega)) (Nat.le_trans (baseSpec_len _ _) (by omega))]
    rfl
  · rw [if_neg h1, if_neg h1]
    have h23 : (andThen (if x.Kind = 2 then some (Step.next (ρ := Bool) (decide (x.Kind = 2))) else some (.next (decide (x.Kind = 3))))) = andThen (some (Step.next (ρ := Bool) (decide (x.Kind = 2 ∨ x.Kind = 3)))) := by
      by_cases h2 : x.Kind = 2
      · rw [if_pos h2, decide_eq_true h2, decide_eq_true (.inl h2)]
      · rw [if_neg h2]
        by_cases h3 : x.Kind = 3
        · rw [decide_eq_true h3, decide_eq_true (.inr h3)]
        · rw [decide_eq_false h3, decide_eq_false (by rintro (h | h) <;> contradiction)]
    rw [h23, andThen_next]
    by_cases hk : x.Kind = 2 ∨ x.Kind = 3
    · rw [decide_eq_true hk, if_pos rfl, if_neg (show ¬ x.Kind = 4 by omega), if_pos hk, record_eq hl ha hw, Option.bind_some]
      dsimp only
      by_cases hr : recB v.account_ v.Bill x.Ref = true
      · have hn : ¬ recI v.account_ x.Ref < 0 := by
          unfold recB at hr
          rw [Bool.and_eq_true, decide_eq_true_eq] at hr
          omega
        obtain ⟨i1, i2, _⟩ := recI_ok hn
        have hf := emFault_zero (em_ok hb ⟨i1, i2⟩)
        rw [hr, if_neg (by decide), if_neg hn, ck_yes ⟨i1, i2⟩, ck_yes (by unfold I64; omega), (atF_eq _ _).1, Option.bind_some, Bool.true_and]
        unfold wgtB
        by_cases he : (atF v.account_.Tariffs (Int.tdiv (ix v.account_.Emptyings (recI v.account_ x.Ref)).At 86400)).2 = 0
        · rw [if_neg (by rw [he]; decide), ck_yes (atF_ok he ht), itProg_eq, Option.bind_some, decide_eq_true he, Bool.true_and]
          by_cases hi : (itSpec (ix v.account_.Tariffs (atF v.account_.Tariffs (Int.tdiv (ix v.account_.Emptyings (recI v.account_ x.Ref)).At 86400)).1) (ix v.account_.Emptyings (recI v.account_ x.Ref))).2 = 0
          · rw [decide_eq_true hi, callIf_yes rfl, contains_eq _ _ (Nat.lt_of_le_of_lt (itSpec_len _ _) (by omega)) (Nat.le_trans (itSpec_len _ _) (by omega)), Option.bind_some, Bool.true_and]
          · rw [decide_eq_false hi, callIf_no (by decide), itSpec_err hi]
            rfl
        · rw [if_pos he, decide_eq_false he]
          rfl
      · rw [Bool.not_eq_true] at hr
        rw [hr, if_pos (by decide)]
        rfl
    · rw [decide_eq_false hk, if_neg (by decide)]
      by_cases h4 : x.Kind = 4
      · rw [if_pos h4, if_pos h4]
      · rw [if_neg h4, if_neg h4, if_neg hk]
end Go.Proofs.YtbnimhmoffchdaaGreatDoor
