/- Layer 57 in plain words: the reference decides alike. -/
import Derived.Test.YtljogldcejcikaaGreatZCmpP3
import Derived.Test.YtljogldcejcikaaGreatZAcc3
import Derived.Test.YtljogldcejcikaaGreatZCmpLDecides
namespace Go.Proofs.YtljogldcejcikaaGreat

theorem few_ex (a : ApiAccount) (b : ApiBill) : ∃ v, m_recyclinglaw57_few 10000 a b = some v ∧ (v = true → a.Emptyings.length ≤ 600 ∧ b.Items.length ≤ 600) := by
  unfold m_recyclinglaw57_few
  split
  · exact ⟨false, rfl, fun h => by cases h⟩
  · rename_i h
    simp only [Bool.or_eq_true, decide_eq_true_eq, not_or] at h
    refine then_postE _ a.Households.length (fun (_ : Unit) i => i) (fun _ => ()) (fun _ _ => True) () rfl trivial (by omega) (fun i t hi ht => ?_) (fun t _ => by (try simp only); rw [if_neg (by omega)]) (fun t ht => ?_)
    · have h1 : ((i : Int)) < (a.Households.length : Int) := by omega
      have h2 : I64 ((i : Int) + 1) := by unfold I64; omega
      try simp only
      rw [if_pos h1, ck_true ⟨by omega, h1⟩, ck_true h2]
      split
      · exact .inr ⟨false, rfl, fun h => by cases h⟩
      · exact .inl ⟨(), rfl, trivial⟩
    · try simp only
      refine then_postE _ a.Containers.length (fun (_ : Unit) i => i) (fun _ => ()) (fun _ _ => True) () rfl trivial (by omega) (fun i t hi ht => ?_) (fun t _ => by (try simp only); rw [if_neg (by omega)]) (fun t ht => ⟨true, rfl, fun _ => by omega⟩)
      have h1 : ((i : Int)) < (a.Containers.length : Int) := by omega
      have h2 : I64 ((i : Int) + 1) := by unfold I64; omega
      try simp only
      rw [if_pos h1, ck_true ⟨by omega, h1⟩, ck_true h2]
      split
      · exact .inr ⟨false, rfl, fun h => by cases h⟩
      · exact .inl ⟨(), rfl, trivial⟩
theorem refBil_eq (a : ApiAccount) : m_recyclingref54_Check 10000 a = some (bilOf a) := by
  rw [← (bilOf_eq a).1]
  unfold m_recyclingref54_Check m_bill_Check
  rw [conRef_eq, conProg_eq, hhRef_eq, hhProg_eq, refECheck_eq (by omega), progECheck_eq (by omega), tarRef_eq (by omega), tarProg_eq (by omega)]
theorem record_eq {N : Nat} {l : List ApiEmptying} (hN : l.length < N) (hl : l.length ≤ 600) (ref : Int) : m_recyclingref57_record N l ref = some (match emIx l ref with | some i => (i : Int) | none => -1) := by
  refine Eq.trans ?_ (gIndex_eq hN hl ⟨0, ref, 0, 0, 0⟩)
  unfold m_recyclingref57_record m_slices_IndexFunc_complaint_gathered_1 m_complaint_gathered_1
  simp only [Option.bind_some, decide_eq_true_eq]
theorem refCnt_eq (a : ApiAccount) (i : Int) : ∃ v, m_recyclingref57_counts 10000 a i = some v ∧ (v = true ↔ i ∈ (emCounts a.Emptyings a.Gap).1) := by
  have hl := emCounts_len a.Emptyings a.Gap
  unfold m_recyclingref57_counts
  rw [refCounts_eq (by omega), Option.bind_some]
  generalize (emCounts a.Emptyings a.Gap).1 = l at *
  refine then_postE _ l.length (fun (_ : Unit) i => i) (fun _ => ()) (fun k _ => i ∉ l.take k) () rfl (by simp) (by omega) (fun k t hk ht => ?_) (fun t _ => by (try simp only); rw [if_neg (by omega)]) (fun t ht => ⟨false, rfl, (fun h => by cases h), fun h => by rw [List.take_length] at ht; exact absurd h ht⟩)
  have h1 : ((k : Int)) < (l.length : Int) := by omega
  try simp only
  rw [if_pos h1, ck_true ⟨by omega, h1⟩, ix_nat hk, ck_true (by unfold I64; omega)]
  by_cases h : l[k] = i
  · rw [if_pos h]
    exact .inr ⟨true, rfl, fun _ => h ▸ List.getElem_mem hk, fun _ => rfl⟩
  · rw [if_neg h]
    exact .inl ⟨(), rfl, fun hm => (mem_take_succ hk).1 hm |>.elim ht fun e => h e.symm⟩
theorem wgtOf_spec (t : ApiTariff) (x : ApiEmptying) : wgtOf t x = if 1 < (itSpec t x).1.length then (ix (itSpec t x).1 1).Amount else 0 := by
  unfold wgtOf
  rw [itProg_eq]
  rfl
theorem refWeight_eq (t : ApiTariff) (x : ApiEmptying) : m_recyclingref57_weight 10000 t x = some (wgtOf t x) := by
  unfold m_recyclingref57_weight
  rw [itRef_eq, Option.bind_some, wgtOf_spec]
  unfold itSpec
  by_cases h1 : (wgtSpec t x.Mass).2 ≠ 0 ∨ x.ID < 1 ∨ 1000000 < x.ID
  · rw [if_pos h1]; rfl
  · rw [if_neg h1]
    by_cases h2 : 0 < (wgtSpec t x.Mass).1
    · rw [if_pos h2]; rfl
    · rw [if_neg h2]; rfl
theorem refCredit57_eq {a : ApiAccount} {x : ApiItem} {i j k rest : Int} (hk : 1 ≤ k ∧ k ≤ 3) (h0 : 0 ≤ i ∧ i < a.Emptyings.length) (hj : 0 ≤ j ∧ j < a.Tariffs.length) (ha : -1000000000000 ≤ x.Amount ∧ x.Amount ≤ 1000000000000) :
    m_recyclingref57_credit 10000 a x i j k rest = some (cmGround a k i (ix a.Tariffs j) x rest) := by
  unfold m_recyclingref57_credit cmGround
  rw [ck_true h0]
  by_cases k1 : k = 1
  · rw [if_pos k1, if_pos k1]
    split <;> rfl
  · by_cases k2 : k = 2
    · rw [if_neg k1, if_neg k1, if_pos k2, if_pos k2]
      obtain ⟨v, e, hv⟩ := refCnt_eq a i
      rw [e]
      cases hvo : (ix a.Emptyings i).Void with
      | true => rfl
      | false =>
        cases v with
        | true => rw [if_neg (fun h => h.2 (hv.1 rfl))]; rfl
        | false => rw [if_pos ⟨rfl, fun h => by cases hv.2 h⟩]; rfl
    · have k3 : k = 3 := by omega
      rw [if_neg k1, if_neg k1, if_neg k2, if_neg k2, if_pos k3, ck_true hj, refWeight_eq, Option.bind_some]
      have hw := wgtOf_le (ix a.Tariffs j) (ix a.Emptyings i)
      rw [ck_true (by unfold I64; omega)]
      by_cases h3 : x.Kind = 3
      · rw [if_neg (show ¬ (x.Kind ≠ 3) from fun h => h h3)]
        by_cases h4 : x.Amount - wgtOf (ix a.Tariffs j) (ix a.Emptyings i) < rest
        · rw [if_pos (show (decide (x.Kind = 3) && decide (x.Amount - wgtOf (ix a.Tariffs j) (ix a.Emptyings i) < rest)) = true by simp [h3, h4]), andThen_done]
          congr 1
          omega
        · rw [if_neg (show ¬ (decide (x.Kind = 3) && decide (x.Amount - wgtOf (ix a.Tariffs j) (ix a.Emptyings i) < rest)) = true by simp [h4]), if_pos h3, andThen_done]
          congr 1
          omega
      · rw [if_neg (show ¬ (decide (x.Kind = 3) && decide (x.Amount - wgtOf (ix a.Tariffs j) (ix a.Emptyings i) < rest)) = true by simp [h3]), if_neg h3, if_pos h3]
        rfl
theorem refDecide_eq (a : ApiAccount) (b : ApiBill) (c : ApiComplaint) (d : Int) : m_recyclingref57_Decide 10000 a b c d = some (cmDec (cmErr a b c) b c (cmG a b c) d) := by
  unfold m_recyclingref57_Decide cmDec cmErr
  obtain ⟨_, h1⟩ := bilOf_eq a
  rw [refBil_eq, Option.bind_some, cmCheck_ref, Option.bind_some, items_eq (by omega), Option.bind_some]
  by_cases z1 : bilOf a ≠ 0
  · rw [if_pos z1, if_pos z1, if_pos z1]
  · rw [if_neg z1, if_neg z1]
    by_cases z2 : cmCheck c ≠ 0
    · rw [if_pos z2, if_pos z2, if_pos z2]
    · rw [if_neg z2, if_neg z2]
      by_cases z3 : c.Bill ≠ b.ID
      · rw [if_pos z3, if_pos z3]; rfl
      · rw [if_neg z3, if_neg z3, if_neg (show ¬ ((0 : Int) ≠ 0) from fun h => h rfl)]
        simp only [Bool.or_eq_true, decide_eq_true_eq, or_assoc]
        by_cases z4 : d < 0 ∨ 36524 < d ∨ b.When.From < 0 ∨ b.When.To < b.When.From ∨ 36525 < b.When.To
        · rw [if_pos z4, if_pos z4]
        · rw [if_neg z4, if_neg z4]
          by_cases z5 : cmRead b.Items ≠ 0
          · rw [if_pos z5, if_pos z5]
          · rw [if_neg z5, if_neg z5]
            obtain ⟨hl, ha⟩ := cmRead_zero (Decidable.not_not.1 z5)
            have hem := (h1 (Decidable.not_not.1 z1)).1
            obtain ⟨el, ef, en⟩ := emCheck_zero hem
            have hk := cmCheck_kind (Decidable.not_not.1 z2)
            unfold cmG
            rw [refDisputed_eq, Option.bind_some, refRest_eq (by omega), Option.bind_some, record_eq (by omega) (by omega), Option.bind_some]
            cases hdis : (cmDisputed b c).2 with
            | false => rfl
            | true =>
              rw [if_neg (by decide)]
              cases hany : b.Items.any (emP (cmDisputed b c).1.Ref) with
              | false =>
                have : (cmRest b.Items (cmDisputed b c).1.Ref).2 = 7 := by
                  unfold cmRest
                  rw [if_neg z5, hany]
                  rfl
                rw [if_pos (.inl (by rw [this]; decide)), if_neg (show ¬ (true = true ∧ false = true) from fun h => by cases h.2)]
              | true =>
                have : (cmRest b.Items (cmDisputed b c).1.Ref).2 = 0 := by
                  unfold cmRest
                  rw [if_neg z5, if_pos hany]
                rw [if_pos (show true = true ∧ true = true from ⟨rfl, rfl⟩)]
                cases hi : emIx a.Emptyings (cmDisputed b c).1.Ref with
                | none => rw [if_pos (show (cmRest b.Items (cmDisputed b c).1.Ref).2 ≠ 0 ∨ (-1 : Int) < 0 from .inr (by decide))]
                | some i =>
                  obtain ⟨hi1, hi2⟩ := emIx_some hi
                  have hf := emFault_zero (ef _ (List.getElem_mem hi1))
                  have hat : I64 (ix a.Emptyings (i : Int)).At := by rw [ix_nat hi1]; unfold I64; omega
                  obtain ⟨t1, t2⟩ := tarOf_eq a.Tariffs (Int.tdiv (ix a.Emptyings (i : Int)).At 86400)
                  simp only
                  rw [if_neg (show ¬ ((cmRest b.Items (cmDisputed b c).1.Ref).2 ≠ 0 ∨ (i : Int) < 0) by omega), ck_true ⟨by omega, by omega⟩, ck_true hat, at_same (by omega), t1, Option.bind_some]
                  unfold cmVersion
                  by_cases z7 : (tarOf a.Tariffs (Int.tdiv (ix a.Emptyings (i : Int)).At 86400)).2 ≠ 0
                  · rw [if_pos z7, if_pos z7]
                  · rw [if_neg z7, if_neg z7, ck_true (by unfold I64; omega), ck_true (by unfold I64; omega)]
                    simp only
                    by_cases z8 : (b.When.To + d) * 86400 < c.At
                    · rw [if_pos z8, if_pos z8]
                    · rw [if_neg z8, if_neg z8, refCredit57_eq hk ⟨by omega, by omega⟩ (t2 (Decidable.not_not.1 z7)) (disputed_amt ha c), Option.bind_some]
                      by_cases z9 : 0 < cmGround a c.Kind (i : Int) (ix a.Tariffs (tarOf a.Tariffs (Int.tdiv (ix a.Emptyings (i : Int)).At 86400)).1) (cmDisputed b c).1 (cmRest b.Items (cmDisputed b c).1.Ref).1
                      · rw [if_pos z9, if_neg (by omega)]
                      · rw [if_neg z9, if_pos (by omega)]
theorem lawCDecides_eq (x : Recyclinglaw57Case) : m_recyclinglaw57_ComplaintDecides 10000 x = some true := by
  unfold m_recyclinglaw57_ComplaintDecides
  obtain ⟨v, e, _⟩ := few_ex x.Account x.Bill
  rw [e, Option.bind_some, cmpAwake_10000, decide_eq, refDecide_eq]
  split
  · rfl
  · simp [callIf]
end Go.Proofs.YtljogldcejcikaaGreat
