/- Layer 54 in plain words: credits never exceed what was charged. -/
import Derived.Test.YtpbgfdmkebnjgaaGreatDoorBilP7
import Derived.Test.YtpbgfdmkebnjgaaGreatDoorBLCredited
namespace Go.Proofs.YtpbgfdmkebnjgaaGreatDoor

theorem sumP_filter (p q : ApiItem → Bool) : ∀ l : List ApiItem, sumP p (l.filter q) = sumP (fun x => q x && p x) l
  | [] => rfl
  | x :: l => by
    rw [List.filter_cons, sumP_cons]
    cases hq : q x with
    | true => rw [if_pos rfl, sumP_cons, sumP_filter p q l]; simp
    | false => rw [if_neg (by decide), sumP_filter p q l]; simp
theorem sumP_congr {p q : ApiItem → Bool} : ∀ {l : List ApiItem}, (∀ x ∈ l, p x = q x) → sumP p l = sumP q l
  | [], _ => rfl
  | x :: l, h => by rw [sumP_cons, sumP_cons, h x (List.mem_cons_self ..), sumP_congr fun y hy => h y (List.mem_cons_of_mem _ hy)]
theorem sumP_nonneg (p : ApiItem → Bool) : ∀ {l : List ApiItem}, (∀ x ∈ l, 0 ≤ x.Amount) → 0 ≤ sumP p l
  | [], _ => Int.le_refl _
  | x :: l, h => by
    have h1 := h x (List.mem_cons_self ..)
    have h2 := sumP_nonneg p (l := l) fun y hy => h y (List.mem_cons_of_mem _ hy)
    rw [sumP_cons]
    split <;> omega
def nbP (x : ApiItem) : Bool := decide (x.Kind = 2) || decide (x.Kind = 3)
def notRef (k : Int) (x : ApiItem) : Bool := decide (x.Ref ≠ k)
theorem nb_split (k : Int) (l : List ApiItem) : sumP nbP l = sumP (chP k) l + sumP nbP (l.filter (notRef k)) := by
  rw [sumP_filter]
  refine sumP_add (fun x => ?_) l
  unfold chP notRef nbP
  by_cases h : x.Ref = k
  · simp [h]
  · simp [h]
theorem cr_split (k : Int) {l : List ApiItem} (hl : ∀ x ∈ l, x.Kind = 4) : sumA l = sumP (crP k) l + sumA (l.filter (notRef k)) := by
  unfold sumA
  rw [sumP_filter, sumP_congr (p := fun _ => true) (q := fun x => crP k x || notRef k x) fun x hx => by
    unfold crP notRef
    rw [hl x hx]
    by_cases h : x.Ref = k <;> simp [h]]
  refine sumP_add (fun x => ?_) l
  unfold crP notRef
  by_cases h : x.Ref = k
  · simp [h]
  · simp [h]
theorem crP_filter (j k : Int) (l : List ApiItem) : sumP (crP j) (l.filter (notRef k)) = if j = k then 0 else sumP (crP j) l := by
  rw [sumP_filter]
  split
  · rename_i h
    subst h
    refine sumP_none fun x _ => ?_
    unfold crP notRef
    by_cases h : x.Ref = j <;> simp [h]
  · rename_i h
    refine sumP_congr fun x _ => ?_
    unfold crP notRef
    by_cases h2 : x.Ref = j
    · simp [h2, h]
    · simp [h2]
theorem chP_filter (j k : Int) (l : List ApiItem) : sumP (chP j) (l.filter (notRef k)) = if j = k then 0 else sumP (chP j) l := by
  rw [sumP_filter]
  split
  · rename_i h
    subst h
    refine sumP_none fun x _ => ?_
    unfold chP notRef
    by_cases h : x.Ref = j <;> simp [h]
  · rename_i h
    refine sumP_congr fun x _ => ?_
    unfold chP notRef
    by_cases h2 : x.Ref = j
    · simp [h2, h]
    · simp [h2]
/-- What is credited, over all emptyings, is not more than what is charged for them. -/
theorem credits_le : ∀ (n : Nat) (X Y : List ApiItem), X.length ≤ n → (∀ x ∈ X, x.Kind = 4) → (∀ y ∈ Y, 0 ≤ y.Amount) → (∀ k, -sumP (crP k) X ≤ sumP (chP k) Y) → -sumA X ≤ sumP nbP Y
  | n, [], Y, _, _, hY, _ => by
    have := sumP_nonneg nbP hY
    show -(0 : Int) ≤ _
    omega
  | 0, x :: X, Y, hn, _, _, _ => by simp at hn
  | n + 1, x :: X, Y, hn, hX, hY, h => by
    have h1 := credits_le n ((x :: X).filter (notRef x.Ref)) (Y.filter (notRef x.Ref)) (by
      rw [List.filter_cons]
      have : notRef x.Ref x = false := by unfold notRef; simp
      rw [this, if_neg (by decide)]
      have := List.length_filter_le (notRef x.Ref) X
      simp at hn
      omega) (fun y hy => hX y (List.mem_filter.1 hy).1) (fun y hy => hY y (List.mem_filter.1 hy).1) (fun k => by
      rw [crP_filter, chP_filter]
      split
      · omega
      · exact h k)
    have h2 := h x.Ref
    rw [cr_split x.Ref hX, nb_split x.Ref Y]
    omega
theorem sumA_append (a b : List ApiItem) : sumA (a ++ b) = sumA a + sumA b := sumP_append _ a b
theorem sumA_split {m : List ApiItem} (hk : ∀ x ∈ m, itKind x) : sumA m = sumP (fun x => decide (x.Kind = 1)) m + sumP nbP m := by
  unfold sumA
  rw [sumP_congr (p := fun _ => true) (q := fun x => decide (x.Kind = 1) || nbP x) fun x hx => by
    have := hk x hx
    unfold itKind at this
    unfold nbP
    rcases this with h | ⟨h | h, _⟩ <;> simp [h]]
  refine sumP_add (fun x => ?_) m
  unfold nbP
  by_cases h1 : x.Kind = 1
  · simp [h1]
  · simp [h1]
theorem cmCredit_zero {b : ApiBill} {ref n : Int} (h : (cmCredit b ref n).2 = 0) : b.Items.length < 512 ∧ (1 ≤ n ∧ n ≤ 1000000000000) ∧ b.Items.any (emP ref) = true ∧ -sumP (crP ref) b.Items + n ≤ sumP (chP ref) b.Items ∧
    cmCredit b ref n = (⟨b.ID, b.Household, b.When, b.Items ++ [⟨4, ref, 1, -n, -n⟩], b.Total - n⟩, 0) := by
  unfold cmCredit at h ⊢
  split at h
  · cases h
  · rename_i h1
    split at h
    · cases h
    · rename_i h2
      split at h
      · rename_i h3
        split at h
        · cases h
        · rename_i h4
          rw [if_neg h1, if_neg h2, if_pos h3, if_neg h4]
          simp only [Bool.or_eq_true, decide_eq_true_eq, not_or] at h2
          exact ⟨by omega, by omega, h3, by omega, rfl⟩
      · cases h
structure CrInv (m cr : List ApiItem) : Prop where
  one : ∀ x ∈ cr, x.Kind = 4 ∧ crBad x = false ∧ m.any (emP x.Ref) = true
  two : ∀ k, -sumP (crP k) cr ≤ sumP (chP k) m
  len : (m ++ cr).length ≤ 512
theorem CrInv.amt {m cr : List ApiItem} (h : CrInv m cr) : okAmt cr := fun x hx => by
  have := (h.one x hx).2.1
  unfold crBad at this
  simp only [Bool.or_eq_false_iff, decide_eq_false_iff_not] at this
  omega
theorem CrInv.spec {m cr : List ApiItem} (h : CrInv m cr) : crSpec m cr = 0 := by
  have h1 : cr.findSome? (crOne m) = none := by
    rw [List.findSome?_eq_none_iff]
    intro x hx
    obtain ⟨_, h2, h3⟩ := h.one x hx
    unfold crOne
    rw [h2, h3]
    simp
  have h2 : cr.findSome? (crTwo m cr) = none := by
    rw [List.findSome?_eq_none_iff]
    intro x hx
    have := h.two x.Ref
    unfold crTwo
    rw [decide_eq_false (by omega : ¬ sumP (chP x.Ref) m < -sumP (crP x.Ref) cr), Bool.and_false]
    rfl
  unfold crSpec
  rw [h1]
  simp only
  rw [h2]
theorem CrInv.step {m cr : List ApiItem} (hk : ∀ x ∈ m, itKind x) (h : CrInv m cr) {ref n : Int} (hn : 1 ≤ n ∧ n ≤ 1000000000000) (hl : (m ++ cr).length < 512) (ha : (m ++ cr).any (emP ref) = true) (hs : -sumP (crP ref) (m ++ cr) + n ≤ sumP (chP ref) (m ++ cr)) : CrInv m (cr ++ [⟨4, ref, 1, -n, -n⟩]) := by
  have hc : ∀ x ∈ cr, x.Kind = 4 := fun x hx => (h.one x hx).1
  rw [own_known hc] at ha
  rw [own_charged hc, own_credited hk] at hs
  refine ⟨fun x hx => ?_, fun k => ?_, ?_⟩
  · rcases List.mem_append.1 hx with hx | hx
    · exact h.one x hx
    · rw [List.mem_singleton] at hx
      subst hx
      refine ⟨rfl, ?_, ha⟩
      unfold crBad
      simp only [Bool.or_eq_false_iff, decide_eq_false_iff_not]
      omega
  · have := h.two k
    rw [sumP_append, sumP_one]
    unfold crP
    simp only
    by_cases hr : ref = k
    · subst hr
      simp
      unfold crP at hs
      omega
    · simp [hr]
      unfold crP at this
      omega
  · rw [← List.append_assoc, List.length_append]
    simp only [List.length_cons, List.length_nil]
    omega
theorem credited_right {a : ApiAccount} {id h : Int} {w : ApiWindow} (hz : (mkSpec a id h w).2 = 0) {cr : List ApiItem} (hc : CrInv (mkItems a h w) cr) : rightSpec a ⟨id, h, w, mkItems a h w ++ cr, sumA (mkItems a h w ++ cr)⟩ = 0 := by
  obtain ⟨_, _, hl, hM⟩ := mkSpec_zero hz
  unfold rightSpec
  simp only
  rw [hM]
  have hany : cr.any (fun x => decide (x.Kind ≠ 4)) = false := by
    rw [List.any_eq_false]
    intro x hx
    rw [(hc.one x hx).1]
    decide
  have hlen := hc.len
  rw [if_neg (fun h => h rfl), if_neg (by omega), List.take_left, List.drop_left, if_neg (by rw [List.length_append]; simp), hany, if_neg (by decide), hc.spec, if_neg (fun h => h rfl), if_neg (fun h => h rfl)]
theorem credit_step {m : List ApiItem} (hm : okAmt m) (hk : ∀ x ∈ m, itKind x) {cr : List ApiItem} (hc : CrInv m cr) {id h ref n : Int} {w : ApiWindow} (hz : (cmCredit ⟨id, h, w, m ++ cr, sumA (m ++ cr)⟩ ref n).2 = 0) :
    1 ≤ n ∧ I64 (sumA (m ++ cr) - n) ∧ CrInv m (cr ++ [⟨4, ref, 1, -n, -n⟩]) ∧ sumA (m ++ cr) - n = sumA (m ++ (cr ++ [⟨4, ref, 1, -n, -n⟩])) ∧
      cmCredit ⟨id, h, w, m ++ cr, sumA (m ++ cr)⟩ ref n = (⟨id, h, w, m ++ (cr ++ [⟨4, ref, 1, -n, -n⟩]), sumA (m ++ (cr ++ [⟨4, ref, 1, -n, -n⟩]))⟩, 0) := by
  obtain ⟨h1, h2, h3, h4, h5⟩ := cmCredit_zero hz
  simp only at h1 h3 h4 h5
  have hla : okAmt (m ++ cr) := fun x hx => by
    rcases List.mem_append.1 hx with hx | hx
    · exact hm x hx
    · exact hc.amt x hx
  have hb := sumP_small' (fun _ => true) hla hc.len
  have e1 : sumA (m ++ cr) - n = sumA (m ++ (cr ++ [⟨4, ref, 1, -n, -n⟩])) := by
    rw [← List.append_assoc, sumA_append (m ++ cr)]
    have : sumA [(⟨4, ref, 1, -n, -n⟩ : ApiItem)] = -n := Int.add_zero _
    omega
  refine ⟨h2.1, ?_, hc.step hk h2 h1 h3 h4, e1, ?_⟩
  · have : sumA (m ++ cr) = sumP (fun _ => true) (m ++ cr) := rfl
    unfold I64
    omega
  · rw [h5, e1, List.append_assoc]
theorem item_nonneg {a : ApiAccount} (ha : bilSpec a = 0) {w : ApiWindow} (hb : (baseSpec a.Tariffs w).2 = 0) (h : Int) : ∀ x ∈ mkItems a h w, 0 ≤ x.Amount := fun x hx => by
  obtain ⟨_, hw, _⟩ := baseSpec_zero hb
  obtain ⟨_, _, ht, _⟩ := bilSpec_zero ha
  unfold mkItems at hx
  rcases List.mem_append.1 hx with hx | hx
  · obtain ⟨i, hi, hx⟩ := List.mem_flatMap.1 hx
    have hi' := List.mem_range.1 hi
    unfold baseI at hx
    split at hx
    · rename_i hp
      rw [List.mem_singleton] at hx
      subst hx
      have h4 := tar_ix ht hi'
      exact (mul_boxB (Int.le_of_lt hp) (baseN_le (l := a.Tariffs) hw i) h4.2.1 h4.2.2).1
    · cases hx
  · obtain ⟨i, hi, hx⟩ := List.mem_flatMap.1 hx
    obtain ⟨k, e, hk⟩ := at_ok ha hb hi
    have h1 := tarSpec_all ht _ (List.getElem_mem hk)
    rw [← ix_nat hk] at h1
    have h2 := usB_iff h1.2.1
    unfold emIt itSpec at hx
    rw [e] at hx
    simp only at hx
    split at hx
    · cases hx
    · rename_i hbad
      have hz : (wgtSpec (ix a.Tariffs (k : Int)) (ix a.Emptyings i).Mass).2 = 0 := by
        refine Decidable.byContradiction fun h => hbad (.inl h)
      obtain ⟨h5, h6, h7⟩ := wgtSpec_ok hz
      have h8 := mul_boxT h5.1 h5.2 h7.1 h7.2
      split at hx
      · rcases List.mem_cons.1 hx with rfl | hx
        · exact h6.1
        · rw [List.mem_singleton] at hx
          subst hx
          exact h8.1
      · rw [List.mem_singleton] at hx
        subst hx
        exact h6.1
theorem lawBCredited_eq (a : ApiAccount) (x : Recyclinglaw54Ask) (l : List Arr2Int) : m_recyclinglaw54_BillCredited 40000 a x l = some true := by
  unfold m_recyclinglaw54_BillCredited
  obtain ⟨g, eg, _⟩ := great_ex a
  rw [eg, Option.bind_some, bilAwake_eq, make_eq]
  by_cases hg : (g || decide (20 < (l.length : Int))) = true
  · rw [if_pos hg]; rfl
  · rw [if_neg hg, Option.bind_some]
    have hl20 : l.length ≤ 20 := by
      simp only [Bool.or_eq_true, decide_eq_true_eq, not_or] at hg
      omega
    by_cases hz : (mkSpec a x.ID x.Household x.When).2 ≠ 0
    · rw [if_pos hz]; rfl
    · rw [if_neg hz]
      have hz' := Decidable.not_not.1 hz
      obtain ⟨ha, hb, hml, hM⟩ := mkSpec_zero hz'
      have hm := mkItems_ok ha hb x.Household
      have hk := mkItems_kind ha hb x.Household
      have hnn := item_nonneg ha hb x.Household
      have hR := fun cr => credited_right (cr := cr) hz'
      rw [hM]
      simp only
      generalize mkItems a x.Household x.When = m at *
      have h0 : CrInv m [] := by
        refine ⟨(fun y hy => by cases hy), fun k => ?_, by rw [List.append_nil]; exact hml⟩
        have := sumP_nonneg (chP k) hnn
        show -(0 : Int) ≤ _
        omega
      refine then_ex (res := some true) l.length (fun (t : List ApiItem) i => (sumA (m ++ t), x.ID, x.Household, x.When.From, x.When.To, m ++ t, sumA (m ++ t), i)) (fun t => (x.ID, x.Household, x.When.From, x.When.To, m ++ t, sumA (m ++ t))) (fun _ t => CrInv m t) [] (by simp) h0 (by omega) (fun i t hi ht => ?_) (fun t _ => by simp only; rw [if_neg (by omega)]) (fun t ht => ?_)
      · have h1 : ((i : Int)) < (l.length : Int) := by omega
        have h2 : I64 ((i : Int) + 1) := by unfold I64; omega
        have h3 : (0 : Int) ≤ (i : Int) ∧ (i : Int) < (l.length : Int) := ⟨by omega, h1⟩
        simp only
        rw [if_pos h1, ck_true h3, ck_true h3, credit_eq (by omega), Option.bind_some]
        generalize (ix l (i : Int)).E0 = ref
        generalize (ix l (i : Int)).E1 = n
        by_cases hc : (cmCredit ⟨x.ID, x.Household, ⟨x.When.From, x.When.To⟩, m ++ t, sumA (m ++ t)⟩ ref n).2 ≠ 0
        · rw [if_pos hc, andThen_next, ck_true h2]
          exact ⟨t, rfl, ht⟩
        · rw [if_neg hc]
          obtain ⟨c1, c2, c3, c4, c5⟩ := credit_step hm hk ht (Decidable.not_not.1 hc)
          rw [ck_true h3, ck_true c2, ck_true h3, c5]
          simp only
          rw [if_neg (by
            rw [c4]
            simp
            omega), andThen_next, ck_true h2, c4]
          exact ⟨_, rfl, c3⟩
      · simp only
        rw [right_eq, Option.bind_some, show rightSpec a ⟨x.ID, x.Household, ⟨x.When.From, x.When.To⟩, m ++ t, sumA (m ++ t)⟩ = 0 from hR t ht, if_neg (fun h => h rfl)]
        refine then_ex m.length (fun (t : Int) i => (t, i)) (fun t => t) (fun i t => t = sumP (fun x => decide (x.Kind = 1)) (m.take i)) 0 rfl rfl (by omega) (fun i t hi ht => ⟨sumP (fun x => decide (x.Kind = 1)) (m.take (i + 1)), ?_, rfl⟩) (fun t _ => by simp only; rw [if_neg (by omega)]) (fun u hu => ?_)
        · have h1 : ((i : Int)) < (m.length : Int) := by omega
          have h2 : I64 ((i : Int) + 1) := by unfold I64; omega
          have h3 := sumP_small (fun x => decide (x.Kind = 1)) hm hml i
          have h4 := hm _ (List.getElem_mem hi)
          rw [sumP_take _ hi, ht]
          generalize sumP (fun x => decide (x.Kind = 1)) (m.take i) = u at *
          simp only
          rw [if_pos h1, ck_true ⟨by omega, h1⟩, ix_nat hi]
          by_cases hq : m[i].Kind = 1
          · rw [if_pos hq, ck_true ⟨by omega, h1⟩, ck_true (by unfold I64; omega), andThen_next, ck_true h2, if_pos (decide_eq_true hq)]
          · rw [if_neg hq, andThen_next, ck_true h2, if_neg (by simpa using hq), Int.add_zero]
        · rw [List.take_length] at hu
          have h5 := credits_le t.length t m (Nat.le_refl _) (fun y hy => (ht.one y hy).1) hnn ht.two
          have h6 := sumA_split hk
          have h7 : u ≤ sumA (m ++ t) := by
            rw [sumA_append]
            omega
          try simp only
          rw [decide_eq_true h7]
          rfl
end Go.Proofs.YtpbgfdmkebnjgaaGreatDoor
