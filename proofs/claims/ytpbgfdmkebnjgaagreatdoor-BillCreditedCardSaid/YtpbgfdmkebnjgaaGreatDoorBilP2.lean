/- Layer 54 in plain words: credits. -/
import Derived.Test.YtpbgfdmkebnjgaaGreatDoorBilP1
namespace Go.Proofs.YtpbgfdmkebnjgaaGreatDoor

def sumP (p : ApiItem → Bool) : List ApiItem → Int
  | [] => 0
  | x :: l => (if p x = true then x.Amount else 0) + sumP p l
theorem sumP_cons (p : ApiItem → Bool) (x : ApiItem) (l : List ApiItem) : sumP p (x :: l) = (if p x = true then x.Amount else 0) + sumP p l := rfl
theorem sumP_append (p : ApiItem → Bool) : ∀ (l1 l2 : List ApiItem), sumP p (l1 ++ l2) = sumP p l1 + sumP p l2
  | [], l2 => by simp [sumP]
  | x :: l1, l2 => by
    rw [List.cons_append, sumP_cons, sumP_cons, sumP_append p l1 l2]
    omega
theorem sumP_one (p : ApiItem → Bool) (x : ApiItem) : sumP p [x] = if p x = true then x.Amount else 0 := by rw [sumP_cons]; exact Int.add_zero _
theorem sumP_take (p : ApiItem → Bool) {l : List ApiItem} {i : Nat} (hi : i < l.length) : sumP p (l.take (i + 1)) = sumP p (l.take i) + if p l[i] = true then l[i].Amount else 0 := by
  rw [take_succ_get hi, sumP_append, sumP_one]
def okAmt (l : List ApiItem) : Prop := ∀ x ∈ l, -1000000000000 ≤ x.Amount ∧ x.Amount ≤ 1000000000000
theorem sumP_bound (p : ApiItem → Bool) : ∀ {l : List ApiItem}, okAmt l → -(1000000000000 * (l.length : Int)) ≤ sumP p l ∧ sumP p l ≤ 1000000000000 * (l.length : Int)
  | [], _ => ⟨Int.le_refl _, Int.le_refl _⟩
  | x :: l, h => by
    have h1 := h x (List.mem_cons_self ..)
    have h2 := sumP_bound p (l := l) fun y hy => h y (List.mem_cons_of_mem _ hy)
    rw [sumP_cons, List.length_cons]
    split <;> omega
theorem sumP_small (p : ApiItem → Bool) {l : List ApiItem} (h : okAmt l) (hl : l.length ≤ 512) (i : Nat) : -512000000000000 ≤ sumP p (l.take i) ∧ sumP p (l.take i) ≤ 512000000000000 := by
  have h1 := sumP_bound p (l := l.take i) fun x hx => h x (List.mem_of_mem_take hx)
  have h2 : (l.take i).length ≤ 512 := by rw [List.length_take]; omega
  omega
theorem sumP_small' (p : ApiItem → Bool) {l : List ApiItem} (h : okAmt l) (hl : l.length ≤ 512) : -512000000000000 ≤ sumP p l ∧ sumP p l ≤ 512000000000000 := by
  have := sumP_small p h hl l.length
  rwa [List.take_length] at this
theorem sumP_add {p q r : ApiItem → Bool} (h : ∀ x, (if p x = true then x.Amount else 0) = (if q x = true then x.Amount else 0) + (if r x = true then x.Amount else 0)) : ∀ l : List ApiItem, sumP p l = sumP q l + sumP r l
  | [] => rfl
  | x :: l => by
    rw [sumP_cons, sumP_cons, sumP_cons, sumP_add h l]
    have := h x
    omega
def emP (ref : Int) (x : ApiItem) : Bool := decide (x.Kind = 2) && decide (x.Ref = ref)
def chP (ref : Int) (x : ApiItem) : Bool := decide (x.Ref = ref) && (decide (x.Kind = 2) || decide (x.Kind = 3))
def crP (ref : Int) (x : ApiItem) : Bool := decide (x.Ref = ref) && decide (x.Kind = 4)
def reP (ref : Int) (x : ApiItem) : Bool := (decide (x.Ref = ref) && decide (2 ≤ x.Kind)) && decide (x.Kind ≤ 4)
theorem reP_sum (ref : Int) (l : List ApiItem) : sumP (reP ref) l = sumP (chP ref) l + sumP (crP ref) l := sumP_add (fun x => by
  unfold reP chP crP
  simp only [Bool.and_eq_true, Bool.or_eq_true, decide_eq_true_eq]
  (repeat' split) <;> omega) l

theorem any_take_succ {α : Type} (p : α → Bool) {l : List α} {i : Nat} (hi : i < l.length) : (l.take (i + 1)).any p = ((l.take i).any p || p l[i]) := by
  rw [take_succ_get hi, List.any_append, List.any_cons, List.any_nil, Bool.or_false]
def noBill : ApiBill := ⟨0, 0, ⟨0, 0⟩, [], 0⟩
def badAmt (x : ApiItem) : Bool := !(decide (-1000000000000 ≤ x.Amount) && decide (x.Amount ≤ 1000000000000))
theorem okAmt_of {l : List ApiItem} (h : l.any badAmt = false) : okAmt l := fun x hx => by
  rw [List.any_eq_false] at h
  have := h x hx
  unfold badAmt at this
  simpa [Bool.and_eq_true] using this
def cmCredit (b : ApiBill) (ref n : Int) : ApiBill × Int :=
  if 512 ≤ b.Items.length then (noBill, 8)
  else if (((!(decide (-1000000000000 ≤ b.Total) && decide (b.Total ≤ 1000000000000)) || b.Items.any badAmt) || decide (n < 1)) || decide (1000000000000 < n)) = true then (noBill, 1)
  else if b.Items.any (emP ref) = true then
    if sumP (chP ref) b.Items < -sumP (crP ref) b.Items + n then (noBill, 1)
    else (⟨b.ID, b.Household, b.When, b.Items ++ [⟨4, ref, 1, -n, -n⟩], b.Total - n⟩, 0)
  else (noBill, 7)
theorem account_eq {N : Nat} {l : List ApiItem} (hN : l.length < N) (hl : l.length ≤ 512) (ha : okAmt l) (ref : Int) : m_bill_account N l ref = some (sumP (chP ref) l, -sumP (crP ref) l, l.any (emP ref)) := by
  unfold m_bill_account
  refine then_ex l.length (fun (t : Int × Int × Bool) i => (t.1, t.2.1, t.2.2, i)) (fun t => t) (fun i t => t = (sumP (chP ref) (l.take i), -sumP (crP ref) (l.take i), (l.take i).any (emP ref))) (0, 0, false) rfl rfl (by omega) (fun i t hi ht => ?_) (fun t _ => by simp only; rw [if_neg (by omega)]) (fun t ht => ?_)
  · have h1 : ((i : Int)) < (l.length : Int) := by omega
    have h2 : I64 ((i : Int) + 1) := by unfold I64; omega
    have h3 := sumP_small (chP ref) ha hl i
    have h3' := sumP_small (crP ref) ha hl i
    have h4 := ha _ (List.getElem_mem hi)
    refine ⟨(sumP (chP ref) (l.take (i + 1)), -sumP (crP ref) (l.take (i + 1)), (l.take (i + 1)).any (emP ref)), ?_, rfl⟩
    rw [sumP_take (chP ref) hi, sumP_take (crP ref) hi, any_take_succ _ hi, ht]
    generalize sumP (chP ref) (l.take i) = u at *
    generalize sumP (crP ref) (l.take i) = v at *
    generalize (l.take i).any (emP ref) = a
    simp only
    rw [if_pos h1, ck_true ⟨by omega, h1⟩, ix_nat hi]
    generalize l[i] = x at *
    rw [wr64_in (n := u + x.Amount) (by unfold I64; omega), wr64_in (n := -v - x.Amount) (by unfold I64; omega)]
    unfold chP crP emP
    by_cases hx : x.Ref = ref
    · rw [if_neg (fun h => h hx)]
      simp only [hx, decide_true, Bool.true_and, Bool.and_true, Bool.or_eq_true, decide_eq_true_eq]
      by_cases k2 : x.Kind = 2
      · rw [if_pos k2, andThen_next, andThen_next, ck_true h2, if_pos (Or.inl k2), if_neg (by omega)]
        simp [k2]
      · by_cases k3 : x.Kind = 3
        · rw [if_neg k2, if_pos k3, andThen_next, andThen_next, ck_true h2, if_pos (Or.inr k3), if_neg (by omega)]
          simp [k2]
        · by_cases k4 : x.Kind = 4
          · rw [if_neg k2, if_neg k3, if_pos k4, Option.map_some, andThen_done, andThen_next, ck_true h2, if_neg (by simp [k2, k3]), if_pos k4]
            simp only [Int.add_zero, k2, decide_false, Bool.or_false]
            have : -v - x.Amount = -(v + x.Amount) := by omega
            rw [this]
          · rw [if_neg k2, if_neg k3, if_neg k4, andThen_done, andThen_next, ck_true h2, if_neg (by simp [k2, k3]), if_neg k4]
            simp [k2]
    · rw [if_pos hx, andThen_next, ck_true h2]
      simp [hx]
  · rw [List.take_length] at ht
    rw [ht]
theorem ex_triple {α β γ : Type} {m : Option (α × β × γ)} {b : γ} (h : ∃ r, m = some r ∧ r.2.2 = b) : ∃ c d, m = some (c, d, b) := by
  obtain ⟨r, e, h⟩ := h
  exact ⟨r.1, r.2.1, by rw [e, ← h]⟩
/-- Whether an emptying is known, whatever the amounts. -/
theorem account_known {N : Nat} {l : List ApiItem} (hN : l.length < N) (hl : l.length ≤ 512) (ref : Int) : ∃ c d, m_bill_account N l ref = some (c, d, l.any (emP ref)) := by
  unfold m_bill_account
  refine ex_triple ?_
  refine then_postE (fun r : Int × Int × Bool => r.2.2 = l.any (emP ref)) l.length (fun (t : Int × Int × Bool) i => (t.1, t.2.1, t.2.2, i)) (fun t => t) (fun i t => t.2.2 = (l.take i).any (emP ref)) (0, 0, false) rfl rfl hN (fun i t hi ht => .inl ?_) (fun t _ => by simp only; rw [if_neg (by omega)]) (fun t ht => ⟨_, rfl, by rw [List.take_length] at ht; exact ht⟩)
  have h1 : ((i : Int)) < (l.length : Int) := by omega
  have h2 : I64 ((i : Int) + 1) := by unfold I64; omega
  rw [any_take_succ _ hi, ← ht]
  simp only
  rw [if_pos h1, ck_true ⟨by omega, h1⟩, ix_nat hi]
  generalize l[i] = x at *
  unfold emP
  by_cases hx : x.Ref = ref
  · rw [if_neg (fun h => h hx)]
    by_cases k2 : x.Kind = 2
    · rw [if_pos k2, andThen_next, andThen_next, ck_true h2]
      exact ⟨(_, _, true), rfl, by simp [k2, hx]⟩
    · rw [if_neg k2]
      by_cases k3 : x.Kind = 3
      · rw [if_pos k3, andThen_next, andThen_next, ck_true h2]
        exact ⟨(_, _, t.2.2), rfl, by simp [k2]⟩
      · rw [if_neg k3]
        by_cases k4 : x.Kind = 4
        · rw [if_pos k4, Option.map_some, andThen_done, andThen_next, ck_true h2]
          exact ⟨(_, _, t.2.2), rfl, by simp [k2]⟩
        · rw [if_neg k4, andThen_done, andThen_next, ck_true h2]
          exact ⟨(_, _, t.2.2), rfl, by simp [k2]⟩
  · rw [if_pos hx, andThen_next, ck_true h2]
    exact ⟨(_, _, t.2.2), rfl, by simp [hx]⟩
theorem copy_zero {α : Type} (l : List α) (z : α) : copyAt (List.replicate (Int.toNat (l.length : Int)) z) 0 l (min (List.length (List.replicate (Int.toNat (l.length : Int)) z) - 0) l.length) = l := by
  simp [copyAt]
theorem credit_eq {N : Nat} (hN : 700 < N) (b : ApiBill) (ref n : Int) : m_bill_Credit N b ref n = some (cmCredit b ref n) := by
  unfold m_bill_Credit cmCredit
  by_cases h512 : 512 ≤ b.Items.length
  · rw [if_pos (by omega), if_pos h512]; rfl
  · rw [if_neg (by omega), if_neg h512]
    have hc : m_slices_ContainsFunc_bill_Credit_1 N b.Items = some (b.Items.any badAmt) := by
      unfold m_slices_ContainsFunc_bill_Credit_1 m_slices_IndexFunc_bill_Credit_1 m_bill_Credit_1 m_bill_money
      refine contains_loop b.Items badAmt (fun i hi => ?_) (by rw [if_neg (by omega)]) (by omega)
      have h1 : ((i : Int)) < (b.Items.length : Int) := by omega
      have h2 : I64 ((i : Int) + 1) := by unfold I64; omega
      rw [if_pos h1, ck_true ⟨by omega, h1⟩, ix_nat hi, Option.bind_some, Option.bind_some, ck_true h2]
      rfl
    unfold m_bill_money
    rw [Option.bind_some, hc]
    generalize hm : (decide (-1000000000000 ≤ b.Total) && decide (b.Total ≤ 1000000000000)) = m
    have hcall : ∀ k : Bool → Option (ApiBill × Int), callIf ((!(!m)) = true) (some (b.Items.any badAmt)) k = k (m && b.Items.any badAmt) := fun k => by
      cases m <;> rfl
    rw [hcall]
    by_cases hb : (((!m || b.Items.any badAmt) || decide (n < 1)) || decide (1000000000000 < n)) = true
    · rw [if_pos (by cases m <;> simp_all), if_pos hb]; rfl
    · rw [if_neg (by cases m <;> simp_all), if_neg hb]
      simp only [Bool.or_eq_true, not_or, Bool.not_eq_true, Bool.not_eq_false', decide_eq_false_iff_not] at hb
      obtain ⟨⟨⟨b1, b2⟩, b3⟩, b4⟩ := hb
      have ha := okAmt_of b2
      rw [b1] at hm
      simp only [Bool.and_eq_true, decide_eq_true_eq] at hm
      rw [account_eq (by omega) (by omega) ha, Option.bind_some]
      simp only
      cases he : b.Items.any (emP ref) with
      | false => rfl
      | true =>
        have h3 := sumP_small' (chP ref) ha (by omega)
        have h3' := sumP_small' (crP ref) ha (by omega)
        rw [if_neg (by decide), if_pos rfl, ck_true (by unfold I64; omega)]
        by_cases hs : sumP (chP ref) b.Items < -sumP (crP ref) b.Items + n
        · rw [if_pos hs, if_pos hs]; rfl
        · rw [if_neg hs, if_neg hs, ck_true (by unfold I64; omega), ck_true ⟨by omega, by omega, by omega⟩, ck_true (by unfold I64; omega), ck_true (by unfold I64; omega), copy_zero, ck_true (by simp only [List.length_cons, List.length_nil]; omega), ck_true (by unfold I64; omega)]
theorem sameItems_self {N : Nat} {l : List ApiItem} (hN : l.length < N) (hl : l.length ≤ 1000) : m_recyclingref53_Same N l l = some true := by
  unfold m_recyclingref53_Same
  rw [if_neg (fun h => h rfl)]
  refine then_ex l.length (fun (_ : Unit) i => i) (fun _ => ()) (fun _ _ => True) () rfl trivial hN (fun i t hi _ => ?_) (fun t _ => by rw [if_neg (by omega)]) (fun t _ => rfl)
  have h1 : ((i : Int)) < (l.length : Int) := by omega
  have h2 : I64 ((i : Int) + 1) := by unfold I64; omega
  rw [if_pos h1, ck_true ⟨by omega, h1⟩, ck_true ⟨by omega, h1⟩, if_neg (fun h => h rfl), ck_true h2]
  exact ⟨(), rfl, trivial⟩
theorem cmCredit_len (b : ApiBill) (ref n : Int) : (cmCredit b ref n).1.Items.length ≤ 512 := by
  unfold cmCredit
  split
  · exact Nat.zero_le _
  · split
    · exact Nat.zero_le _
    · split
      · split
        · exact Nat.zero_le _
        · simp only [List.length_append, List.length_cons, List.length_nil]; omega
      · exact Nat.zero_le _
end Go.Proofs.YtpbgfdmkebnjgaaGreatDoor
