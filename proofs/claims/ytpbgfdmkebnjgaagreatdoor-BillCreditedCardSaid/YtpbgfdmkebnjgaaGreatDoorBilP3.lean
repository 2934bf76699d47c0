/- Layer 54 in plain words: the check of an account. -/
import Derived.Test.YtpbgfdmkebnjgaaGreatDoorBilP1
import Derived.Test.YtpbgfdmkebnjgaaGreatDoorBLChecks
import Derived.Test.YtpbgfdmkebnjgaaGreatDoorBEmP1
import Derived.Test.YtpbgfdmkebnjgaaGreatDoorBAcc3
namespace Go.Proofs.YtpbgfdmkebnjgaaGreatDoor

theorem bil_same (a : ApiAccount) : m_recyclingref54_Check 40000 a = m_bill_Check 40000 a := by
  unfold m_recyclingref54_Check m_bill_Check
  rw [conRef_eq, conProg_eq, hhRef_eq, hhProg_eq, refECheck_eq (by omega), progECheck_eq (by omega), tarRef_eq (by omega), tarProg_eq (by omega)]
theorem bil_ex (a : ApiAccount) : ∃ v, m_bill_Check 40000 a = some v := by
  unfold m_bill_Check
  rw [conProg_eq, hhProg_eq, progECheck_eq (by omega), tarProg_eq (by omega)]
  simp only [Option.bind_some]
  (repeat' split) <;> exact ⟨_, rfl⟩
theorem great_ex (a : ApiAccount) : ∃ v, m_recyclinglaw54_great 40000 a = some v ∧ True := by
  unfold m_recyclinglaw54_great
  split
  · exact ⟨true, rfl, trivial⟩
  · rename_i h
    simp only [Bool.or_eq_true, decide_eq_true_eq, not_or] at h
    refine then_postE _ a.Households.length (fun (_ : Unit) i => i) (fun _ => ()) (fun _ _ => True) () rfl trivial (by omega) (fun i t hi ht => ?_) (fun t _ => by (try simp only); rw [if_neg (by omega)]) (fun t ht => ?_)
    · have h1 : ((i : Int)) < (a.Households.length : Int) := by omega
      have h2 : I64 ((i : Int) + 1) := by unfold I64; omega
      try simp only
      rw [if_pos h1, ck_true ⟨by omega, h1⟩, ck_true h2]
      split
      · exact .inr ⟨true, rfl, trivial⟩
      · exact .inl ⟨(), rfl, trivial⟩
    · try simp only
      refine then_postE _ a.Containers.length (fun (_ : Unit) i => i) (fun _ => ()) (fun _ _ => True) () rfl trivial (by omega) (fun i t hi ht => ?_) (fun t _ => by (try simp only); rw [if_neg (by omega)]) (fun t ht => ⟨false, rfl, trivial⟩)
      have h1 : ((i : Int)) < (a.Containers.length : Int) := by omega
      have h2 : I64 ((i : Int) + 1) := by unfold I64; omega
      try simp only
      rw [if_pos h1, ck_true ⟨by omega, h1⟩, ck_true h2]
      split
      · exact .inr ⟨true, rfl, trivial⟩
      · exact .inl ⟨(), rfl, trivial⟩
theorem lawBChecks_eq (a : ApiAccount) : m_recyclinglaw54_BillChecks 40000 a = some true := by
  unfold m_recyclinglaw54_BillChecks
  obtain ⟨g, eg, _⟩ := great_ex a
  obtain ⟨v, ev⟩ := bil_ex a
  rw [eg, bil_same, ev, bilAwake_eq]
  simp only [Option.bind_some]
  split
  · rfl
  · simp [callIf]
end Go.Proofs.YtpbgfdmkebnjgaaGreatDoor
