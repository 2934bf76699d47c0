/- Layer 59 in plain words: totals, charges, credits. -/
import Derived.Test.YtbnimhmoffchdaaGreatDoorWAu4
namespace Go.Proofs.YtbnimhmoffchdaaGreatDoor
attribute [local instance] jfTrue

def inAmt (x : ApiItem) : Bool := !((decide (x.Amount < -1000000000000)) || (decide (1000000000000 < x.Amount)))
def totB (b : ApiBill) : Bool := b.Items.all inAmt && decide (sumP (fun _ => true) b.Items = b.Total)
theorem inAmt_ok {x : ApiItem} (h : inAmt x = true) : -1000000000000 ≤ x.Amount ∧ x.Amount ≤ 1000000000000 := by
  unfold inAmt at h
  simp at h
  omega
theorem total_sum {l : List ApiItem} (h : ∀ x ∈ l, inAmt x = true) (hl : l.length ≤ 512) : -512000000000000 ≤ sumP (fun _ => true) l ∧ sumP (fun _ => true) l ≤ 512000000000000 := by
  have := sumP_bound (fun _ => true) (l := l) fun x hx => inAmt_ok (h x hx)
  omega
theorem balanced_eq (v : AuditInvoice) (hl : v.Bill.Items.length ≤ 512) : m_audit_invoice_balanced 40000 v = some (totB v.Bill) := by
  unfold m_audit_invoice_balanced
  refine then_exE (N := 40000) v.Bill.Items.length (fun (t : Int) i => (t, i)) (fun t => t) (fun i t => t = sumP (fun _ => true) (v.Bill.Items.take i) ∧ ∀ x ∈ v.Bill.Items.take i, inAmt x = true) (fun r => r = false ∧ totB v.Bill = false) 0 rfl ⟨rfl, by simp⟩ (by omega) (fun i t hi hv => ?_) (fun t _ => by dsimp only; rw [if_neg (by omega)]) (fun t ht => ?_) (fun r hr => by rw [hr.1, hr.2])
  · have hs := total_sum hv.2 (by rw [List.length_take]; omega)
    rw [← hv.1] at hs
    dsimp only
    rw [if_pos (by omega), ck_yes (by omega), ix_nat hi]
    by_cases h : inAmt v.Bill.Items[i] = true
    · left
      have h2 := inAmt_ok h
      rw [if_neg (by unfold inAmt at h; rw [Bool.not_eq_true']  at h; rw [h]; decide), ck_yes (by unfold I64; omega), ck_yes (by unfold I64; omega)]
      refine ⟨_, rfl, ?_, fun x hx => ?_⟩
      · rw [sumP_take _ hi, hv.1, if_pos rfl]
      · rcases (mem_take_succ hi).1 hx with hx | hx
        · exact hv.2 x hx
        · rw [hx]; exact h
    · right
      rw [if_pos (by unfold inAmt at h; rw [Bool.not_eq_true, Bool.not_eq_false'] at h; exact h)]
      refine ⟨_, rfl, rfl, ?_⟩
      unfold totB
      have : v.Bill.Items.all inAmt = false := by
        rw [List.all_eq_false]
        exact ⟨_, List.getElem_mem hi, h⟩
      rw [this]; rfl
  · rw [List.take_length] at ht
    unfold totB
    rw [List.all_eq_true.2 ht.2, ht.1]
    rfl
def chgI (b : ApiBill) (ref : Int) : Int := idx (emP ref) b.Items
theorem charges_eq (v : AuditInvoice) (hl : v.Bill.Items.length ≤ 512) (ref : Int) : m_audit_invoice_charges 40000 v ref = some (chgI v.Bill ref) := by
  unfold m_audit_invoice_charges m_slices_IndexFunc_audit_invoice_charges_1
  rw [index_eq v.Bill.Items (emP ref) (fun i hi => ?_) (by rw [if_neg (by omega)]) (by omega)]
  · rfl
  · rw [if_pos (by omega), ck_yes (by omega), ix_nat hi]
    unfold m_audit_invoice_charges_1 emP
    rw [Option.bind_some, ck_yes (by unfold I64; omega)]
def clampA (x : ApiItem) : Int := min (max x.Amount (-1000000000001 : Int)) (1000000000001 : Int)
theorem clampA_ok (x : ApiItem) : -1000000000001 ≤ clampA x ∧ clampA x ≤ 1000000000001 := by unfold clampA; omega
def credS (ref : Int) : List ApiItem → Int
  | [] => 0
  | x :: l => (if x.Ref = ref ∧ x.Kind ≠ 1 then clampA x else 0) + credS ref l
theorem credS_append (ref : Int) : ∀ a b, credS ref (a ++ b) = credS ref a + credS ref b
  | [], b => by show credS ref b = 0 + _; omega
  | x :: a, b => by show _ + credS ref (a ++ b) = (_ + credS ref a) + _; rw [credS_append ref a b]; omega
theorem credS_one (ref : Int) (x : ApiItem) : credS ref [x] = if x.Ref = ref ∧ x.Kind ≠ 1 then clampA x else 0 := by show _ + (0 : Int) = _; omega
theorem credS_bound (ref : Int) : ∀ l : List ApiItem, -((l.length : Int) * 1000000000001) ≤ credS ref l ∧ credS ref l ≤ (l.length : Int) * 1000000000001
  | [] => ⟨Int.le_refl _, Int.le_refl _⟩
  | x :: l => by
    have h1 := credS_bound ref l
    have h2 := clampA_ok x
    have e : credS ref (x :: l) = (if x.Ref = ref ∧ x.Kind ≠ 1 then clampA x else 0) + credS ref l := rfl
    rw [e, List.length_cons]
    split <;> omega
theorem and_bool (x : ApiItem) (ref : Int) : ((decide (x.Ref = ref)) && (decide (x.Kind ≠ 1))) = true ↔ x.Ref = ref ∧ x.Kind ≠ 1 := by simp
theorem credited_eq (v : AuditInvoice) (hl : v.Bill.Items.length ≤ 512) (ref : Int) : m_audit_invoice_credited 40000 v ref = some (decide (credS ref v.Bill.Items = 0)) := by
  unfold m_audit_invoice_credited
  refine then_ex (N := 40000) v.Bill.Items.length (fun (t : Int) i => (t, i)) (fun t => t) (fun i t => t = credS ref (v.Bill.Items.take i)) 0 rfl rfl (by omega) (fun i t hi hv => ?_) (fun t _ => by dsimp only; rw [if_neg (by omega)]) (fun t ht => ?_)
  · have hb := credS_bound ref (v.Bill.Items.take i)
    have hbl : (v.Bill.Items.take i).length ≤ 512 := by rw [List.length_take]; omega
    have hc := clampA_ok v.Bill.Items[i]
    rw [← hv] at hb
    refine ⟨_, ?_, by rw [take_succ_get hi, credS_append, credS_one, ← hv]⟩
    dsimp only
    rw [if_pos (by omega), ck_yes (by omega), ix_nat hi]
    unfold clampA at hc ⊢
    by_cases h : v.Bill.Items[i].Ref = ref ∧ v.Bill.Items[i].Kind ≠ 1
    · rw [if_pos ((and_bool _ _).2 h), ck_yes (by unfold I64; omega), andThen_next, ck_yes (by unfold I64; omega), if_pos h]
    · rw [if_neg (fun e => h ((and_bool _ _).1 e)), andThen_next, ck_yes (by unfold I64; omega), if_neg h, Int.add_zero]
  · rw [List.take_length] at ht
    rw [ht]
end Go.Proofs.YtbnimhmoffchdaaGreatDoor
