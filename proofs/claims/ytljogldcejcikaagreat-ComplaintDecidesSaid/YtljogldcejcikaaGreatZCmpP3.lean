/- Layer 57 in plain words: what is decided, and by what. -/
import Derived.Test.YtljogldcejcikaaGreatZAccE1
import Derived.Test.YtljogldcejcikaaGreatZCmpP2
namespace Go.Proofs.YtljogldcejcikaaGreat

/-- The emptying that a complaint is about. -/
def emIx (l : List ApiEmptying) (ref : Int) : Option Nat := l.findIdx? fun x => decide (x.ID = ref)
theorem emIx_some {l : List ApiEmptying} {ref : Int} {i : Nat} (h : emIx l ref = some i) : i < l.length ∧ (ix l (i : Int)).ID = ref := by
  unfold emIx at h
  rw [List.findIdx?_eq_some_iff_getElem] at h
  obtain ⟨hi, hp, _⟩ := h
  rw [ix_nat hi]
  exact ⟨hi, of_decide_eq_true hp⟩
theorem gIndex_eq {N : Nat} {l : List ApiEmptying} (hN : l.length < N) (hl : l.length ≤ 600) (x : ApiItem) : m_slices_IndexFunc_complaint_gathered_1 N l x = some (match emIx l x.Ref with | some i => (i : Int) | none => -1) := by
  unfold m_slices_IndexFunc_complaint_gathered_1 m_complaint_gathered_1
  refine then_exE l.length (fun (_ : Unit) i => i) (fun _ => ()) (fun i _ => ∀ y ∈ l.take i, y.ID ≠ x.Ref) (fun r => ∃ (i : Nat) (hi : i < l.length), r = (i : Int) ∧ l[i].ID = x.Ref ∧ ∀ y ∈ l.take i, y.ID ≠ x.Ref) () rfl (by simp) hN (fun i t hi ht => ?_) (fun t _ => by (try simp only); rw [if_neg (by omega)]) (fun t ht => ?_) (fun r ⟨i, hi, hr, e, hn⟩ => ?_)
  · have h1 : ((i : Int)) < (l.length : Int) := by omega
    have h2 : I64 ((i : Int) + 1) := by unfold I64; omega
    try simp only
    rw [if_pos h1, ck_true ⟨by omega, h1⟩, ix_nat hi, Option.bind_some, ck_true h2]
    by_cases he : l[i].ID = x.Ref
    · rw [if_pos (by simpa using he)]
      exact .inr ⟨_, rfl, i, hi, rfl, he, ht⟩
    · rw [if_neg (by simpa using he)]
      exact .inl ⟨(), rfl, fun y hy => (mem_take_succ hi).1 hy |>.elim (ht y) fun e => by rw [e]; exact he⟩
  · rw [List.take_length] at ht
    have : emIx l x.Ref = none := by
      unfold emIx
      rw [List.findIdx?_eq_none_iff]
      intro y hy
      simpa using ht y hy
    rw [this]
  · have : emIx l x.Ref = some i := by
      unfold emIx
      rw [List.findIdx?_eq_some_iff_getElem]
      refine ⟨hi, by simpa using e, fun j hj => ?_⟩
      have := hn l[j] (by rw [List.mem_take_iff_getElem]; exact ⟨j, by omega, rfl⟩)
      simpa using this
    rw [this, hr]
def tarOf (l : List ApiTariff) (d : Int) : Int × Int := (m_tariff_At 10000 l d).getD (0, 0)
theorem tarOf_eq (l : List ApiTariff) (d : Int) : m_tariff_At 10000 l d = some (tarOf l d) ∧ ((tarOf l d).2 = 0 → 0 ≤ (tarOf l d).1 ∧ (tarOf l d).1 < l.length) := by
  obtain ⟨r, e, h⟩ := at_ex (N := 10000) (by omega) l d
  have : tarOf l d = r := by unfold tarOf; rw [e]; rfl
  rw [this]
  exact ⟨e, h⟩
/-- The price of an emptying's weight. -/
def wgtOf (t : ApiTariff) (x : ApiEmptying) : Int := if 1 < ((m_tariff_Items 10000 t x).getD ([], 0)).1.length then (ix ((m_tariff_Items 10000 t x).getD ([], 0)).1 1).Amount else 0
def cmGround (a : ApiAccount) (k : Int) (i : Int) (t : ApiTariff) (x : ApiItem) (rest : Int) : Int :=
  if k = 1 then (if (ix a.Emptyings i).Void = true then rest else 0)
  else if k = 2 then (if (ix a.Emptyings i).Void = false ∧ i ∉ (emCounts a.Emptyings a.Gap).1 then rest else 0)
  else if x.Kind ≠ 3 then 0 else min (x.Amount - wgtOf t (ix a.Emptyings i)) rest
theorem wgtOf_le (t : ApiTariff) (x : ApiEmptying) : 0 ≤ wgtOf t x ∧ wgtOf t x ≤ 107374200000 := by
  obtain ⟨r, e, hl, h⟩ := items_ex 10000 t x
  unfold wgtOf
  rw [e, Option.getD_some]
  split
  · exact h ‹_›
  · omega
def cmVersion (a : ApiAccount) (i : Nat) : Int × Int := tarOf a.Tariffs (Int.tdiv (ix a.Emptyings (i : Int)).At 86400)
/-- What a complaint is decided by: the credit that the records support, if it concerns an emptying of the account. -/
def cmG (a : ApiAccount) (b : ApiBill) (c : ApiComplaint) : Option Int :=
  if (cmDisputed b c).2 = true ∧ b.Items.any (emP (cmDisputed b c).1.Ref) = true then
    match emIx a.Emptyings (cmDisputed b c).1.Ref with
    | none => none
    | some i => if (cmVersion a i).2 ≠ 0 then none else some (cmGround a c.Kind (i : Int) (ix a.Tariffs (cmVersion a i).1) (cmDisputed b c).1 (cmRest b.Items (cmDisputed b c).1.Ref).1)
  else none
theorem contains_eq {N : Nat} {l : List Int} (hN : l.length < N) (hl : l.length ≤ 600) (x : Int) : m_slices_Contains N l x = some (l.any fun y => decide (x = y)) := by
  unfold m_slices_Contains m_slices_Index
  refine contains_loop l (fun y => decide (x = y)) (fun i hi => ?_) (by rw [if_neg (by omega)]) hN
  have h1 : ((i : Int)) < (l.length : Int) := by omega
  have h2 : I64 ((i : Int) + 1) := by unfold I64; omega
  rw [if_pos h1, ck_true ⟨by omega, h1⟩, ix_nat hi, ck_true h2]
  simp only [decide_eq_true_eq]
theorem emCounts_len (l : List ApiEmptying) (gap : Int) : (emCounts l gap).1.length ≤ 512 := by
  unfold emCounts
  split
  · exact Nat.zero_le _
  · rename_i h
    have h1 := (emCheck_zero (Decidable.not_not.1 h)).1
    split
    · exact Nat.zero_le _
    · have := emKeep_len l gap (emOrder l) []
      rw [emOrder_len] at this
      simp only [List.length_nil, Nat.zero_add] at this
      exact Nat.le_trans this h1
theorem ground_eq {m : ComplaintMatter} {k : Int} (h0 : 0 ≤ m.index_) (h1 : m.index_ < m.account_.Emptyings.length) (ha : -1000000000000 ≤ m.item_.Amount ∧ m.item_.Amount ≤ 1000000000000) :
    Option.bind (m_complaint_grounds 10000 k) (fun r => m_if_recycling_complaint_credit 10000 r m) = some (cmGround m.account_ k m.index_ m.version_ m.item_ m.rest_) := by
  unfold m_complaint_grounds cmGround
  by_cases k1 : k = 1
  · rw [if_pos k1, if_pos k1, Option.bind_some]
    unfold m_if_recycling_complaint_credit m_complaint_never_credit
    rw [if_pos rfl, ck_true ⟨h0, h1⟩]
    split <;> rfl
  · by_cases k2 : k = 2
    · rw [if_neg k1, if_neg k1, if_pos k2, if_pos k2, Option.bind_some]
      unfold m_if_recycling_complaint_credit m_complaint_twice_credit
      have hl := emCounts_len m.account_.Emptyings m.account_.Gap
      rw [if_neg (by decide), if_pos rfl, progECounts_eq (by omega), Option.bind_some, ck_true ⟨h0, h1⟩, contains_eq (by omega) (by omega)]
      unfold callIf
      cases hv : (ix m.account_.Emptyings m.index_).Void with
      | true => simp
      | false =>
        simp only [Bool.not_false, if_true, Option.bind_some, Bool.true_and, true_and]
        by_cases hm : m.index_ ∈ (emCounts m.account_.Emptyings m.account_.Gap).1
        · have : ((emCounts m.account_.Emptyings m.account_.Gap).1.any fun y => decide (m.index_ = y)) = true := List.any_eq_true.2 ⟨_, hm, by simp⟩
          rw [this, if_neg (by decide), if_neg (fun h => h hm)]
        · have : ((emCounts m.account_.Emptyings m.account_.Gap).1.any fun y => decide (m.index_ = y)) = false := by
            rw [List.any_eq_false]
            intro y hy e
            exact hm ((of_decide_eq_true e) ▸ hy)
          rw [this, if_pos (by decide), if_pos hm]
    · rw [if_neg k1, if_neg k1, if_neg k2, if_neg k2, Option.bind_some]
      unfold m_if_recycling_complaint_credit m_complaint_weight_credit
      rw [if_neg (by decide), if_neg (by decide), if_pos rfl]
      by_cases h3 : m.item_.Kind ≠ 3
      · rw [if_pos h3, if_pos h3]
      · rw [if_neg h3, if_neg h3, ck_true ⟨h0, h1⟩]
        have hw := wgtOf_le m.version_ (ix m.account_.Emptyings m.index_)
        obtain ⟨r, e, _⟩ := items_ex 10000 m.version_ (ix m.account_.Emptyings m.index_)
        unfold wgtOf at hw ⊢
        rw [e, Option.getD_some] at hw ⊢
        rw [Option.bind_some]
        by_cases hl : 1 < r.1.length
        · rw [if_pos hl] at hw ⊢
          rw [if_pos (by omega), ck_true ⟨by omega, by omega⟩, andThen_next, ck_true (by unfold I64; omega)]
        · rw [if_neg hl] at hw ⊢
          rw [if_neg (by omega), andThen_next, ck_true (by unfold I64; omega)]
def cmDec (e0 : Int) (b : ApiBill) (c : ApiComplaint) (g : Option Int) (d : Int) : ApiRuling × Int :=
  if e0 ≠ 0 then (⟨0, 0⟩, e0)
  else if d < 0 ∨ 36524 < d ∨ b.When.From < 0 ∨ b.When.To < b.When.From ∨ 36525 < b.When.To then (⟨0, 0⟩, 1)
  else if cmRead b.Items ≠ 0 then (⟨0, 0⟩, cmRead b.Items)
  else match g with
    | none => (⟨0, 7⟩, 0)
    | some n => if (b.When.To + d) * 86400 < c.At then (⟨0, 31⟩, 0) else if 0 < n then (⟨n, 0⟩, 0) else (⟨0, 13⟩, 0)
def bilOf (a : ApiAccount) : Int := (m_bill_Check 10000 a).getD 0
theorem bilOf_eq (a : ApiAccount) : m_bill_Check 10000 a = some (bilOf a) ∧ (bilOf a = 0 → emCheck a.Emptyings 256 16 = 0 ∧ 0 ≤ a.Gap ∧ a.Gap ≤ 86400) := by
  obtain ⟨v, e, h⟩ := bilCheck_ex (N := 10000) (by omega) a
  have : bilOf a = v := by unfold bilOf; rw [e]; rfl
  rw [this]
  exact ⟨e, h⟩
def cmErr (a : ApiAccount) (b : ApiBill) (c : ApiComplaint) : Int := if bilOf a ≠ 0 then bilOf a else if cmCheck c ≠ 0 then cmCheck c else if c.Bill ≠ b.ID then 34 else 0
theorem cmCheck_kind {c : ApiComplaint} (h : cmCheck c = 0) : 1 ≤ c.Kind ∧ c.Kind ≤ 3 := by
  unfold cmCheck at h
  (repeat' split at h) <;> omega
theorem disputed_amt {b : ApiBill} (ha : okAmt b.Items) (c : ApiComplaint) : -1000000000000 ≤ (cmDisputed b c).1.Amount ∧ (cmDisputed b c).1.Amount ≤ 1000000000000 := by
  unfold cmDisputed
  split
  · simp
  · rename_i h
    have hi : c.Item.toNat < b.Items.length := by omega
    have e : c.Item = ((c.Item.toNat : Nat) : Int) := by omega
    simp only
    rw [e, ix_nat hi]
    exact ha _ (List.getElem_mem hi)
theorem decide_eq (a : ApiAccount) (b : ApiBill) (c : ApiComplaint) (d : Int) : m_complaint_Decide 10000 a b c d = some (cmDec (cmErr a b c) b c (cmG a b c) d) := by
  unfold m_complaint_Decide cmDec cmErr
  obtain ⟨e1, h1⟩ := bilOf_eq a
  rw [e1, Option.bind_some, cmCheck_eq, Option.bind_some, readable_eq (by omega), Option.bind_some]
  by_cases z1 : bilOf a ≠ 0
  · rw [if_pos z1, if_pos z1, if_pos z1]
  · rw [if_neg z1, if_neg z1]
    by_cases z2 : cmCheck c ≠ 0
    · rw [if_pos z2, if_pos z2, if_pos z2]
    · rw [if_neg z2, if_neg z2]
      by_cases z3 : c.Bill ≠ b.ID
      · rw [if_pos z3, if_pos z3]; rfl
      · rw [if_neg z3, if_neg z3, if_neg (show ¬ ((0 : Int) ≠ 0) from fun h => h rfl)]
        simp only [Bool.or_eq_true, decide_eq_true_eq, or_assoc]
        by_cases z4 : d < 0 ∨ 36524 < d ∨ b.When.From < 0 ∨ b.When.To < b.When.From ∨ 36525 < b.When.To
        · rw [if_pos z4, if_pos z4]
        · rw [if_neg z4, if_neg z4]
          by_cases z5 : cmRead b.Items ≠ 0
          · rw [if_pos z5, if_pos z5]
          · rw [if_neg z5, if_neg z5]
            obtain ⟨hl, ha⟩ := cmRead_zero (Decidable.not_not.1 z5)
            have hem := (h1 (Decidable.not_not.1 z1)).1
            obtain ⟨el, ef, en⟩ := emCheck_zero hem

            unfold m_complaint_gathered cmG
            rw [disputed_eq, Option.bind_some, emptied_eq b (by omega) (by omega), gIndex_eq (by omega) (by omega), Option.bind_some]
            have hcall : ∀ (u v : Bool) {ρ : Type} (k : Bool → Option ρ), callIf ((!(!u)) = true) (some v) k = k (u && v) := fun u v _ k => by cases u <;> rfl
            rw [hcall]
            by_cases z6 : (cmDisputed b c).2 = true ∧ b.Items.any (emP (cmDisputed b c).1.Ref) = true
            · rw [if_neg (by rw [z6.1, z6.2]; decide), if_pos z6]
              cases hi : emIx a.Emptyings (cmDisputed b c).1.Ref with
              | none => rfl
              | some i =>
                obtain ⟨hi1, hi2⟩ := emIx_some hi
                have hf := emFault_zero (ef _ (List.getElem_mem hi1))
                simp only
                have hat : I64 (ix a.Emptyings (i : Int)).At := by rw [ix_nat hi1]; unfold I64; omega
                obtain ⟨t1, t2⟩ := tarOf_eq a.Tariffs (Int.tdiv (ix a.Emptyings (i : Int)).At 86400)
                rw [if_neg (by omega), ck_true ⟨by omega, by omega⟩, ck_true hat, t1, Option.bind_some]
                unfold cmVersion
                by_cases z7 : (tarOf a.Tariffs (Int.tdiv (ix a.Emptyings (i : Int)).At 86400)).2 ≠ 0
                · rw [if_pos z7, if_pos z7]; rfl
                · rw [if_neg z7, if_neg z7, rest_eq (by omega), Option.bind_some, ck_true (t2 (Decidable.not_not.1 z7)), Option.bind_some]
                  simp only [Bool.not_true, Bool.false_eq_true, if_false]
                  rw [ck_true (by unfold I64; omega), ck_true (by unfold I64; omega)]
                  by_cases z8 : (b.When.To + d) * 86400 < c.At
                  · rw [if_pos z8, if_pos z8]
                  · rw [if_neg z8, if_neg z8]
                    generalize hm : ComplaintMatter.mk _ _ _ _ _ = m
                    have := ground_eq (m := m) (k := c.Kind) (by rw [← hm]; simp only; omega) (by rw [← hm]; simp only; omega) (by rw [← hm]; exact disputed_amt ha c)
                    rw [← Option.bind_assoc, this, Option.bind_some, ← hm]
                    split <;> rfl
            · have : ((!(cmDisputed b c).2 || !((cmDisputed b c).2 && b.Items.any (emP (cmDisputed b c).1.Ref)))) = true := by
                cases h1 : (cmDisputed b c).2 <;> cases h2 : b.Items.any (emP (cmDisputed b c).1.Ref) <;> simp_all
              rw [if_pos this, if_neg z6]
              rfl
end Go.Proofs.YtljogldcejcikaaGreat
