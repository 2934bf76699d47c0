/- Layer 57 in plain words: the checks. -/
import Derived.Test.YtljogldcejcikaaGreatZCmpP1
import Derived.Test.YtljogldcejcikaaGreatZCmp7
namespace Go.Proofs.YtljogldcejcikaaGreat

def cmCheck (c : ApiComplaint) : Int := if c.Bill < 1 ∨ 1000000 < c.Bill ∨ c.Item < 0 ∨ 512 ≤ c.Item ∨ c.At < 0 ∨ 3155759999 < c.At then 1 else if c.Kind < 1 ∨ 3 < c.Kind then 21 else 0
theorem cmCheck_eq (N : Nat) (c : ApiComplaint) : m_complaint_Check N c = some (cmCheck c) := by
  unfold m_complaint_Check cmCheck
  simp only [Bool.or_eq_true, decide_eq_true_eq]
  (repeat' split) <;> first | rfl | (exfalso; omega)
theorem cmCheck_ref (N : Nat) (c : ApiComplaint) : m_recyclingref57_Check N c = some (cmCheck c) := cmCheck_eq N c
def cmDisputed (b : ApiBill) (c : ApiComplaint) : ApiItem × Bool :=
  if c.Item < 0 ∨ (b.Items.length : Int) ≤ c.Item then (⟨0, 0, 0, 0, 0⟩, false) else (ix b.Items c.Item, decide ((ix b.Items c.Item).Kind = 2) || decide ((ix b.Items c.Item).Kind = 3))
theorem disputed_eq (N : Nat) (b : ApiBill) (c : ApiComplaint) : m_complaint_disputed N b c = some (cmDisputed b c) := by
  unfold m_complaint_disputed cmDisputed
  simp only [Bool.or_eq_true, decide_eq_true_eq]
  split
  · rfl
  · rw [ck_true (by omega)]
theorem refDisputed_eq (N : Nat) (b : ApiBill) (c : ApiComplaint) : m_recyclingref57_disputed N b c = some (cmDisputed b c) := disputed_eq N b c
end Go.Proofs.YtljogldcejcikaaGreat
