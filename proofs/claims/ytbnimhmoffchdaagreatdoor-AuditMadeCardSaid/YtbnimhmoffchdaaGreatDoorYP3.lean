/- Layer 54 in plain words: the check of an account. -/
import Derived.Test.YtbnimhmoffchdaaGreatDoorYP1
import Derived.Test.YtbnimhmoffchdaaGreatDoorYEmP1
import Derived.Test.YtbnimhmoffchdaaGreatDoorYAcc3
namespace Go.Proofs.YtbnimhmoffchdaaGreatDoor

theorem bil_same (a : ApiAccount) : m_recyclingref54_Check 40000 a = m_bill_Check 40000 a := by
  unfold m_recyclingref54_Check m_bill_Check
  rw [conRef_eq, conProg_eq, hhRef_eq, hhProg_eq, refECheck_eq (by omega), progECheck_eq (by omega), tarRef_eq (by omega), tarProg_eq (by omega)]
end Go.Proofs.YtbnimhmoffchdaaGreatDoor
