/- Layer 57 in plain words: what must be seen, the checks, the rests, the credits. -/
import Derived.Test.YtljogldcejcikaaGreatDPlain3
import Derived.Test.YtljogldcejcikaaGreatZCmpAwake
namespace Go.Proofs.YtljogldcejcikaaGreat

theorem cmpAwake_10000 : m_recyclinglaw57_awake 10000 = some true := by decide +kernel

/-! ### Sums of amounts -/
def sumP (p : ApiItem → Bool) : List ApiItem → Int
  | [] => 0
  | x :: l => (if p x = true then x.Amount else 0) + sumP p l
theorem sumP_cons (p : ApiItem → Bool) (x : ApiItem) (l : List ApiItem) : sumP p (x :: l) = (if p x = true then x.Amount else 0) + sumP p l := rfl
theorem sumP_append (p : ApiItem → Bool) : ∀ (l1 l2 : List ApiItem), sumP p (l1 ++ l2) = sumP p l1 + sumP p l2
  | [], l2 => by simp [sumP]
  | x :: l1, l2 => by
    rw [List.cons_append, sumP_cons, sumP_cons, sumP_append p l1 l2]
    omega
theorem sumP_one (p : ApiItem → Bool) (x : ApiItem) : sumP p [x] = if p x = true then x.Amount else 0 := by rw [sumP_cons]; exact Int.add_zero _
theorem sumP_take (p : ApiItem → Bool) {l : List ApiItem} {i : Nat} (hi : i < l.length) : sumP p (l.take (i + 1)) = sumP p (l.take i) + if p l[i] = true then l[i].Amount else 0 := by
  rw [take_succ_get hi, sumP_append, sumP_one]
def okAmt (l : List ApiItem) : Prop := ∀ x ∈ l, -1000000000000 ≤ x.Amount ∧ x.Amount ≤ 1000000000000
theorem sumP_bound (p : ApiItem → Bool) : ∀ {l : List ApiItem}, okAmt l → -(1000000000000 * (l.length : Int)) ≤ sumP p l ∧ sumP p l ≤ 1000000000000 * (l.length : Int)
  | [], _ => ⟨Int.le_refl _, Int.le_refl _⟩
  | x :: l, h => by
    have h1 := h x (List.mem_cons_self ..)
    have h2 := sumP_bound p (l := l) fun y hy => h y (List.mem_cons_of_mem _ hy)
    rw [sumP_cons, List.length_cons]
    split <;> omega
theorem sumP_small (p : ApiItem → Bool) {l : List ApiItem} (h : okAmt l) (hl : l.length ≤ 512) (i : Nat) : -512000000000000 ≤ sumP p (l.take i) ∧ sumP p (l.take i) ≤ 512000000000000 := by
  have h1 := sumP_bound p (l := l.take i) fun x hx => h x (List.mem_of_mem_take hx)
  have h2 : (l.take i).length ≤ 512 := by rw [List.length_take]; omega
  omega
theorem sumP_small' (p : ApiItem → Bool) {l : List ApiItem} (h : okAmt l) (hl : l.length ≤ 512) : -512000000000000 ≤ sumP p l ∧ sumP p l ≤ 512000000000000 := by
  have := sumP_small p h hl l.length
  rwa [List.take_length] at this
theorem sumP_add {p q r : ApiItem → Bool} (h : ∀ x, (if p x = true then x.Amount else 0) = (if q x = true then x.Amount else 0) + (if r x = true then x.Amount else 0)) : ∀ l : List ApiItem, sumP p l = sumP q l + sumP r l
  | [] => rfl
  | x :: l => by
    rw [sumP_cons, sumP_cons, sumP_cons, sumP_add h l]
    have := h x
    omega
def emP (ref : Int) (x : ApiItem) : Bool := decide (x.Kind = 2) && decide (x.Ref = ref)
def chP (ref : Int) (x : ApiItem) : Bool := decide (x.Ref = ref) && (decide (x.Kind = 2) || decide (x.Kind = 3))
def crP (ref : Int) (x : ApiItem) : Bool := decide (x.Ref = ref) && decide (x.Kind = 4)
def reP (ref : Int) (x : ApiItem) : Bool := (decide (x.Ref = ref) && decide (2 ≤ x.Kind)) && decide (x.Kind ≤ 4)
theorem reP_sum (ref : Int) (l : List ApiItem) : sumP (reP ref) l = sumP (chP ref) l + sumP (crP ref) l := sumP_add (fun x => by
  unfold reP chP crP
  simp only [Bool.and_eq_true, Bool.or_eq_true, decide_eq_true_eq]
  (repeat' split) <;> omega) l

/-! ### Which bills are readable -/
def cmRead (l : List ApiItem) : Int := if 512 < l.length then 8 else match l.findSome? (fun x => if x.Amount < -1000000000000 ∨ 1000000000000 < x.Amount then some (1 : Int) else none) with
  | some e => e
  | none => 0
theorem cmRead_zero {l : List ApiItem} (h : cmRead l = 0) : l.length ≤ 512 ∧ okAmt l := by
  unfold cmRead at h
  split at h
  · omega
  · split at h
    · rename_i e he
      obtain ⟨x, _, hx⟩ := List.exists_of_findSome?_eq_some he
      split at hx
      · injection hx with hx; omega
      · cases hx
    · rename_i he
      rw [List.findSome?_eq_none_iff] at he
      refine ⟨by omega, fun x hx => ?_⟩
      have := he x hx
      split at this
      · cases this
      · omega
theorem readable_eq {N : Nat} (hN : 600 < N) (b : ApiBill) : m_complaint_readable N b = some (cmRead b.Items) := by
  unfold m_complaint_readable cmRead
  by_cases h : 512 < b.Items.length
  · rw [if_pos (by omega), if_pos h]
  · rw [if_neg (by omega), if_neg h]
    rw [loop_find b.Items (fun x => if x.Amount < -1000000000000 ∨ 1000000000000 < x.Amount then some (1 : Int) else none) () (fun i hi => by
      have h1 : ((i : Int)) < (b.Items.length : Int) := by omega
      have h2 : I64 ((i : Int) + 1) := by unfold I64; omega
      rw [if_pos h1, ck_true ⟨by omega, h1⟩, ix_nat hi]
      simp only [Bool.or_eq_true, decide_eq_true_eq]
      by_cases hz : b.Items[i].Amount < -1000000000000 ∨ 1000000000000 < b.Items[i].Amount
      · rw [if_pos hz, if_pos hz]
      · rw [if_neg hz, if_neg hz, ck_true h2]) (by rw [if_neg (by omega)]) (by omega)]
    cases b.Items.findSome? (fun x => if x.Amount < -1000000000000 ∨ 1000000000000 < x.Amount then some (1 : Int) else none) <;> rfl
theorem items_eq {N : Nat} (hN : 600 < N) (b : ApiBill) : m_recyclingref57_items N b = some (cmRead b.Items) := by
  unfold m_recyclingref57_items cmRead
  by_cases h : 512 < b.Items.length
  · rw [if_pos (by omega), if_pos h]
  · rw [if_neg (by omega), if_neg h]
    rw [loop_find b.Items (fun x => if x.Amount < -1000000000000 ∨ 1000000000000 < x.Amount then some (1 : Int) else none) () (fun i hi => by
      have h1 : ((i : Int)) < (b.Items.length : Int) := by omega
      have h2 : I64 ((i : Int) + 1) := by unfold I64; omega
      rw [if_pos h1, ck_true ⟨by omega, h1⟩, ck_true (fun _ => ⟨by omega, h1⟩), ix_nat hi]
      simp only [Bool.or_eq_true, decide_eq_true_eq]
      by_cases hz : b.Items[i].Amount < -1000000000000 ∨ 1000000000000 < b.Items[i].Amount
      · rw [if_pos hz, if_pos hz]
      · rw [if_neg hz, if_neg hz, ck_true h2]) (by rw [if_neg (by omega)]) (by omega)]
    cases b.Items.findSome? (fun x => if x.Amount < -1000000000000 ∨ 1000000000000 < x.Amount then some (1 : Int) else none) <;> rfl
theorem emptied_eq {N : Nat} (b : ApiBill) (hN : b.Items.length < N) (hl : b.Items.length ≤ 600) (ref : Int) : m_complaint_emptied N b ref = some (b.Items.any (emP ref)) := by
  have : m_slices_ContainsFunc_complaint_emptied_1 N b.Items ref = some (b.Items.any (emP ref)) := by
    unfold m_slices_ContainsFunc_complaint_emptied_1 m_slices_IndexFunc_complaint_emptied_1 m_complaint_emptied_1
    refine contains_loop b.Items (emP ref) (fun i hi => ?_) (by rw [if_neg (by omega)]) hN
    have h1 : ((i : Int)) < (b.Items.length : Int) := by omega
    have h2 : I64 ((i : Int) + 1) := by unfold I64; omega
    rw [if_pos h1, ck_true ⟨by omega, h1⟩, ix_nat hi, Option.bind_some, ck_true h2]
    rfl
  unfold m_complaint_emptied
  rw [this]
  rfl

/-! ### The rest -/
def cmRest (l : List ApiItem) (ref : Int) : Int × Int := if cmRead l ≠ 0 then (0, cmRead l) else if l.any (emP ref) = true then (sumP (reP ref) l, 0) else (0, 7)
theorem rest_eq {N : Nat} (hN : 700 < N) (b : ApiBill) (ref : Int) : m_complaint_Rest N b ref = some (cmRest b.Items ref) := by
  unfold m_complaint_Rest cmRest
  rw [readable_eq (by omega), Option.bind_some]
  by_cases hr : cmRead b.Items ≠ 0
  · rw [if_pos hr, if_pos hr]
  · rw [if_neg hr, if_neg hr]
    obtain ⟨hl, ha⟩ := cmRead_zero (Decidable.not_not.1 hr)
    rw [emptied_eq b (by omega) (by omega), Option.bind_some]
    cases he : b.Items.any (emP ref) with
    | false => rfl
    | true =>
      rw [if_neg (by decide), if_pos rfl]
      refine then_ex b.Items.length (fun (t : Int) i => (t, i)) (fun t => t) (fun i t => t = sumP (reP ref) (b.Items.take i)) 0 rfl rfl (by omega) (fun i t hi ht => ?_) (fun t _ => by simp only; rw [if_neg (by omega)]) (fun t ht => ?_)
      · have h1 : ((i : Int)) < (b.Items.length : Int) := by omega
        have h2 : I64 ((i : Int) + 1) := by unfold I64; omega
        have h3 := sumP_small (reP ref) ha hl i
        have h4 := ha _ (List.getElem_mem hi)
        have h5 := sumP_take (reP ref) hi
        simp only
        rw [if_pos h1, ck_true ⟨by omega, h1⟩, ix_nat hi]
        change ∃ t', andThen (if reP ref b.Items[i] = true then _ else _) _ = _ ∧ _
        by_cases hp : reP ref b.Items[i] = true
        · rw [if_pos hp, ck_true (by unfold I64; omega), andThen_next, ck_true h2]
          exact ⟨_, rfl, by rw [h5, if_pos hp, ht]⟩
        · rw [if_neg hp, andThen_next, ck_true h2]
          exact ⟨_, rfl, by rw [h5, if_neg hp, ht]; omega⟩
      · rw [List.take_length] at ht
        rw [ht]
theorem any_take_succ {α : Type} (p : α → Bool) {l : List α} {i : Nat} (hi : i < l.length) : (l.take (i + 1)).any p = ((l.take i).any p || p l[i]) := by
  rw [take_succ_get hi, List.any_append, List.any_cons, List.any_nil, Bool.or_false]
theorem refRest_eq {N : Nat} (hN : 700 < N) (b : ApiBill) (ref : Int) : m_recyclingref57_Rest N b ref = some (cmRest b.Items ref) := by
  unfold m_recyclingref57_Rest cmRest
  rw [items_eq (by omega), Option.bind_some]
  by_cases hr : cmRead b.Items ≠ 0
  · rw [if_pos hr, if_pos hr]
  · rw [if_neg hr, if_neg hr]
    obtain ⟨hl, ha⟩ := cmRead_zero (Decidable.not_not.1 hr)
    refine then_ex b.Items.length (fun (t : Int × Int × Bool) i => (t.1, t.2.1, t.2.2, i)) (fun t => t) (fun i t => t = (sumP (chP ref) (b.Items.take i), -sumP (crP ref) (b.Items.take i), (b.Items.take i).any (emP ref))) (0, 0, false) rfl rfl (by omega) (fun i t hi ht => ?_) (fun t _ => by simp only; rw [if_neg (by omega)]) (fun t ht => ?_)
    · have h1 : ((i : Int)) < (b.Items.length : Int) := by omega
      have h2 : I64 ((i : Int) + 1) := by unfold I64; omega
      have h3 := sumP_small (chP ref) ha hl i
      have h3' := sumP_small (crP ref) ha hl i
      have h4 := ha _ (List.getElem_mem hi)
      refine ⟨(sumP (chP ref) (b.Items.take (i + 1)), -sumP (crP ref) (b.Items.take (i + 1)), (b.Items.take (i + 1)).any (emP ref)), ?_, rfl⟩
      rw [sumP_take (chP ref) hi, sumP_take (crP ref) hi, any_take_succ _ hi, ht]
      generalize sumP (chP ref) (b.Items.take i) = u at *
      generalize sumP (crP ref) (b.Items.take i) = v at *
      generalize (b.Items.take i).any (emP ref) = a
      simp only
      rw [if_pos h1, ck_true ⟨by omega, h1⟩, ix_nat hi]
      generalize b.Items[i] = x at *
      unfold chP crP emP
      by_cases hx : x.Ref = ref
      · rw [if_neg (fun h => h hx)]
        simp only [hx, decide_true, Bool.true_and, Bool.and_true, Bool.or_eq_true, decide_eq_true_eq]
        by_cases k2 : x.Kind = 2
        · have k4 : ¬ x.Kind = 4 := by omega
          simp only [k2, if_pos, andThen_next, true_or]
          rw [ck_true (by unfold I64; omega), andThen_next, if_neg (by decide), andThen_next, ck_true h2, if_neg (by decide)]
          simp
        · by_cases k3 : x.Kind = 3
          · simp only [k3, or_true, if_pos]
            rw [if_neg (by decide), andThen_next, ck_true (by unfold I64; omega), andThen_next, if_neg (by decide), andThen_next, ck_true h2, if_neg (by decide)]
            simp
          · simp only [k2, k3, or_self, if_false, andThen_next]
            by_cases k4 : x.Kind = 4
            · rw [if_pos k4, ck_true (by unfold I64; omega), andThen_next, ck_true h2, if_pos k4]
              simp only [Int.add_zero, decide_false, Bool.or_false]
              congr 3
              have : v - 0 = v := by omega
              congr 2
              omega
            · rw [if_neg k4, andThen_next, ck_true h2, if_neg k4]
              simp
      · rw [if_pos hx, andThen_next, ck_true h2]
        simp [hx]
    · rw [List.take_length] at ht
      subst ht
      simp only
      cases he : b.Items.any (emP ref) with
      | false => rfl
      | true =>
        have h3 := sumP_small' (chP ref) ha hl
        have h3' := sumP_small' (crP ref) ha hl
        rw [if_neg (by decide), if_pos rfl, ck_true (by unfold I64; omega), reP_sum]
        congr 2
        omega
end Go.Proofs.YtljogldcejcikaaGreat
