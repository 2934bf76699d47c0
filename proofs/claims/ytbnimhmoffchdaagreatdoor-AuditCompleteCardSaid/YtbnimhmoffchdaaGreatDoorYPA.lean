/- Layer 54 in plain words: what must be seen. -/
import Derived.Test.YtbnimhmoffchdaaGreatDoorKD
import Derived.Test.YtbnimhmoffchdaaGreatDoorZR1
import Derived.Test.YtbnimhmoffchdaaGreatDoorYEmP1
import Derived.Test.YtbnimhmoffchdaaGreatDoorYAcc3
namespace Go.Proofs.YtbnimhmoffchdaaGreatDoor

end Go.Proofs.YtbnimhmoffchdaaGreatDoor
namespace Go.Proofs.YtbnimhmoffchdaaGreatDoor

def sumP (p : ApiItem → Bool) : List ApiItem → Int
 | [] => 0
 | x :: l => (if p x = true then x.Amount else 0) + sumP p l
theorem sumP_cons (p : ApiItem → Bool) (x : ApiItem) (l : List ApiItem) : sumP p (x :: l) = (if p x = true then x.Amount else 0) + sumP p l := rfl
theorem sumP_append (p : ApiItem → Bool) : ∀ (l1 l2 : List ApiItem), sumP p (l1 ++ l2) = sumP p l1 + sumP p l2
 | [], l2 => by simp [sumP]
 | x :: l1, l2 => by
  rw [List.cons_append, sumP_cons, sumP_cons, sumP_append p l1 l2]
  omega
theorem sumP_one (p : ApiItem → Bool) (x : ApiItem) : sumP p [x] = if p x = true then x.Amount else 0 := by rw [sumP_cons]; exact Int.add_zero _
theorem sumP_take (p : ApiItem → Bool) {l : List ApiItem} {i : Nat} (hi : i < l.length) : sumP p (l.take (i + 1)) = sumP p (l.take i) + if p l[i] = true then l[i].Amount else 0 := by
 rw [take_succ_get hi, sumP_append, sumP_one]
def okAmt (l : List ApiItem) : Prop := ∀ x ∈ l, -1000000000000 ≤ x.Amount ∧ x.Amount ≤ 1000000000000
theorem sumP_bound (p : ApiItem → Bool) : ∀ {l : List ApiItem}, okAmt l → -(1000000000000 * (l.length : Int)) ≤ sumP p l ∧ sumP p l ≤ 1000000000000 * (l.length : Int)
 | [], _ => ⟨Int.le_refl _, Int.le_refl _⟩
 | x :: l, h => by
  have h1 := h x (List.mem_cons_self ..)
  have h2 := sumP_bound p (l := l) fun y hy => h y (List.mem_cons_of_mem _ hy)
  rw [sumP_cons, List.length_cons]
  split <;> omega
def emP (ref : Int) (x : ApiItem) : Bool := decide (x.Kind = 2) && decide (x.Ref = ref)
def chP (ref : Int) (x : ApiItem) : Bool := decide (x.Ref = ref) && (decide (x.Kind = 2) || decide (x.Kind = 3))
def crP (ref : Int) (x : ApiItem) : Bool := decide (x.Ref = ref) && decide (x.Kind = 4)
def reP (ref : Int) (x : ApiItem) : Bool := (decide (x.Ref = ref) && decide (2 ≤ x.Kind)) && decide (x.Kind ≤ 4)
theorem any_take_succ {α : Type} (p : α → Bool) {l : List α} {i : Nat} (hi : i < l.length) : (l.take (i + 1)).any p = ((l.take i).any p || p l[i]) := by
 rw [take_succ_get hi, List.any_append, List.any_cons, List.any_nil, Bool.or_false]
def noBill : ApiBill := ⟨0, 0, ⟨0, 0⟩, [], 0⟩
def badAmt (x : ApiItem) : Bool := !(decide (-1000000000000 ≤ x.Amount) && decide (x.Amount ≤ 1000000000000))
def cmCredit (b : ApiBill) (ref n : Int) : ApiBill × Int :=
 if 512 ≤ b.Items.length then (noBill, 8)
 else if (((!(decide (-1000000000000 ≤ b.Total) && decide (b.Total ≤ 1000000000000)) || b.Items.any badAmt) || decide (n < 1)) || decide (1000000000000 < n)) = true then (noBill, 1)
 else if b.Items.any (emP ref) = true then
  if sumP (chP ref) b.Items < -sumP (crP ref) b.Items + n then (noBill, 1)
  else (⟨b.ID, b.Household, b.When, b.Items ++ [⟨4, ref, 1, -n, -n⟩], b.Total - n⟩, 0)
 else (noBill, 7)
end Go.Proofs.YtbnimhmoffchdaaGreatDoor
namespace Go.Proofs.YtbnimhmoffchdaaGreatDoor

theorem bil_same (a : ApiAccount) : m_recyclingref54_Check 40000 a = m_bill_Check 40000 a := by
 unfold m_recyclingref54_Check m_bill_Check
 rw [conRef_eq, conProg_eq, hhRef_eq, hhProg_eq, refECheck_eq (by omega), progECheck_eq (by omega), tarRef_eq (by omega), tarProg_eq (by omega)]
end Go.Proofs.YtbnimhmoffchdaaGreatDoor
