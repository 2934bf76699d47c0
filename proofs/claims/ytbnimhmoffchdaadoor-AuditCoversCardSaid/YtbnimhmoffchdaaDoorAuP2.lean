/- Layer 59 in plain words: AuditCovers. -/
import Derived.Test.YtbnimhmoffchdaaDoorAuP1
namespace Go.Proofs.YtbnimhmoffchdaaDoor
attribute [local instance] jfTrue

def badF (n : Nat) (x : ApiFee) : Bool := (((decide (x.Material < 0)) || (decide ((n : Int) ≤ x.Material))) || (decide (x.Amount < 0))) || (decide (1000000000000 < x.Amount))
theorem badF_ok (n : Nat) (x : ApiFee) : badF n x = false ↔ inR n x = true ∧ okA x = true := by
  unfold badF inR okA
  simp
  omega
theorem msum_bound (m : Int) : ∀ l : List ApiFee, (∀ x ∈ l, okA x = true) → 0 ≤ msum m l ∧ msum m l ≤ (l.length : Int) * 1000000000000
  | [], _ => ⟨Int.le_refl _, Int.le_refl _⟩
  | x :: l, h => by
    have h1 := msum_bound m l fun y hy => h y (List.mem_cons_of_mem _ hy)
    have h2 := h x (List.mem_cons_self ..)
    unfold okA at h2
    simp at h2
    have e : msum m (x :: l) = (if x.Material = m then x.Amount else 0) + msum m l := rfl
    rw [e, List.length_cons]
    split <;> omega
theorem covers_eq (costs : List Int) (l : List ApiFee) (hc : costs.length ≤ 16) (hf : l.length ≤ 512) :
    m_fee_Covers 10000 costs l = some (decide ((∀ x ∈ l, inR costs.length x = true ∧ okA x = true) ∧ ∀ j, j < costs.length → costs.getD j 0 = msum j l)) := by
  unfold m_fee_Covers
  rw [if_neg (by omega)]
  unfold m_slices_Clone
  rw [ck_pos (by omega), Option.bind_some]
  refine then_exE (N := 10000) l.length (fun (_ : Unit) (i : Int) => i) (fun _ => ()) (fun i _ => ∀ x ∈ l.take i, badF costs.length x = false) (fun r => r = false ∧ ∃ x ∈ l, badF costs.length x = true) () rfl (by simp) (by omega) (fun i t hi hv => ?_) (fun t _ => ?_) (fun t ht => ?_) (fun r hr => ?_)
  · rw [if_pos (by omega), ck_pos (by omega), ix_nat hi]
    by_cases h : badF costs.length l[i] = true
    · right
      refine ⟨false, ?_, rfl, _, List.getElem_mem hi, h⟩
      unfold badF at h
      rw [if_pos h]
    · left
      refine ⟨(), ?_, ?_⟩
      · unfold badF at h
        rw [if_neg h, ck_pos (by unfold I64; omega)]
      · intro x hx
        rcases (mem_take_succ hi).1 hx with hx | hx
        · exact hv x hx
        · rw [hx]; simpa using h
  · rw [if_neg (by omega)]
  · rw [List.take_length] at ht
    have hok : ∀ x ∈ l, inR costs.length x = true ∧ okA x = true := fun x hx => (badF_ok _ _).1 (ht x hx)
    rw [ck_pos (by omega)]
    refine then_ex (N := 10000) l.length (fun (L : List Int) (i : Int) => (L, i)) (fun L => L) (fun i L => L.length = costs.length ∧ ∀ j, j < costs.length → L.getD j 0 = msum j (l.take i)) _ rfl ⟨by simp, fun j hj => ?_⟩ (by omega) (fun i L hi hv => ?_) (fun L _ => ?_) (fun L hL => ?_)
    · rw [List.getD_eq_getElem?_getD, List.getElem?_replicate]
      simp [hj, msum]
    · have hx := hok l[i] (List.getElem_mem hi)
      have h1 := hx.1
      have h2 := hx.2
      unfold inR at h1
      unfold okA at h2
      simp at h1 h2
      obtain ⟨m, hm⟩ : ∃ m : Nat, l[i].Material = (m : Int) := ⟨l[i].Material.toNat, by omega⟩
      have hml : m < L.length := by omega
      have hLm : L[m] = msum m (l.take i) := by
        have := hv.2 m (by omega)
        rwa [List.getD_eq_getElem?_getD, List.getElem?_eq_getElem hml] at this
      have hb := msum_bound (m : Int) (l.take i) fun x hx => (hok x (List.mem_of_mem_take hx)).2
      have hbl : (l.take i).length ≤ 512 := by rw [List.length_take]; omega
      dsimp only
      rw [if_pos (by omega), ck_pos (by omega), ix_nat hi, ck_pos (by omega), hm, ix_nat hml, hLm, ck_pos (by unfold I64; omega), ck_pos (by omega), ck_pos (by unfold I64; omega)]
      refine ⟨_, rfl, by simpa using hv.1, fun j hj => ?_⟩
      rw [take_succ_get hi, msum_append, msum_one, hm, List.getD_eq_getElem?_getD, List.getElem?_set]
      by_cases hjm : m = j
      · subst hjm
        simp [hml]
      · have e1 : ¬ ((m : Int) = (j : Int)) := by omega
        have e2 := hv.2 j hj
        rw [List.getD_eq_getElem?_getD] at e2
        rw [if_neg (by simpa using hjm), if_neg e1, e2]
        omega
    · dsimp only
      rw [if_neg (by omega)]
    · rw [List.take_length] at hL
      rw [equal_eq (by omega) (by omega), Option.bind_some]
      congr 1
      rw [decide_eq_decide]
      constructor
      · intro e
        subst e
        exact ⟨hok, hL.2⟩
      · rintro ⟨_, h⟩
        refine List.ext_getElem hL.1.symm fun j h1 h2 => ?_
        have a1 := h j h1
        have a2 := hL.2 j h1
        rw [List.getD_eq_getElem?_getD, List.getElem?_eq_getElem h1] at a1
        rw [List.getD_eq_getElem?_getD, List.getElem?_eq_getElem h2] at a2
        exact a1.trans a2.symm
  · obtain ⟨rfl, x, hx, hb⟩ := hr
    congr 1
    refine (decide_eq_false fun h => ?_).symm
    have := (badF_ok costs.length x).2 (h.1 x hx)
    rw [this] at hb
    cases hb
theorem lawCovers_eq (p : ApiBooks) : m_recyclinglaw59_AuditCovers 10000 p = some true := by
  unfold m_recyclinglaw59_AuditCovers
  have hex : m_exampleHolds 10000 = some true := rfl
  by_cases hbig : 16 < p.Costs.length ∨ 512 < p.Fees.length
  · have : m_audit_Fees 10000 p = some ([], 8) := by
      unfold m_audit_Fees
      rw [if_pos]
      rw [Bool.or_eq_true, decide_eq_true_eq, decide_eq_true_eq]
      omega
    rw [this, Option.bind_some, if_pos (by rw [decide_eq_true (show ((([] : List ApiFinding), (8 : Int)).2 ≠ 0) by decide)]; rfl), hex]
    rfl
  · obtain ⟨F, hF, hiff⟩ := fees_eq p (by omega) (by omega)
    rw [hF, Option.bind_some]
    by_cases h0 : (p.Costs.length : Int) = 0
    · rw [if_pos (by simp [h0]), hex]
      rfl
    · rw [if_neg (by simp; intro h; rw [h] at h0; exact h0 rfl), covers_eq p.Costs p.Fees (by omega) (by omega), Option.bind_some]
      have key : F = [] ↔ ((∀ x ∈ p.Fees, inR p.Costs.length x = true ∧ okA x = true) ∧ ∀ j, j < p.Costs.length → p.Costs.getD j 0 = msum j p.Fees) := by
        rw [hiff]
        constructor
        · rintro ⟨ha, hb⟩
          have hall : ∀ x ∈ p.Fees, inR p.Costs.length x = true ∧ okA x = true := fun x hx => by
            refine ⟨hb x hx, ?_⟩
            have h1 := hb x hx
            unfold inR at h1
            simp at h1
            have h2 := (ha x.Material.toNat (by omega)).1
            rw [(gF_fold _ _ _).1, Bool.true_and, List.all_eq_true] at h2
            have h3 := h2 x hx
            rw [Bool.or_eq_true, decide_eq_true_eq] at h3
            exact h3.resolve_left (by omega)
          refine ⟨hall, fun j hj => ?_⟩
          rw [← (ha j hj).2, (gF_fold _ _ _).2 (fun x hx _ => (hall x hx).2) rfl]
          omega
        · rintro ⟨ha, hb⟩
          refine ⟨fun j hj => ⟨?_, ?_⟩, fun x hx => (ha x hx).1⟩
          · rw [(gF_fold _ _ _).1, Bool.true_and, List.all_eq_true]
            intro x hx
            rw [(ha x hx).2, Bool.or_true]
          · rw [(gF_fold _ _ _).2 (fun x hx _ => (ha x hx).2) rfl, hb j hj]
            omega
      have e : (decide ((F.length : Int) = 0)) = decide ((∀ x ∈ p.Fees, inR p.Costs.length x = true ∧ okA x = true) ∧ ∀ j, j < p.Costs.length → p.Costs.getD j 0 = msum j p.Fees) := by
        rw [decide_eq_decide, ← key]
        constructor
        · intro h; exact List.eq_nil_of_length_eq_zero (by omega)
        · intro h; rw [h]; rfl
      dsimp only
      rw [e]
      simp [callIf, hex]
end Go.Proofs.YtbnimhmoffchdaaDoor
