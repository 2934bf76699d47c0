/- Accounts, the program: that each check answers, and what it answers for. -/
import Derived.Test.YtljogldcejcikaaGreatDPlain3
import Derived.Test.YtljogldcejcikaaGreatZEmP2
import Derived.Test.YtljogldcejcikaaGreatZCmp3
namespace Go.Proofs.YtljogldcejcikaaGreat

theorem index_ex {n N : Nat} {f : Int → Option (Step Int (Step Unit Int))} (hN : n < N)
    (h : ∀ i : Nat, i < n → ∃ b : Bool, f (i : Int) = if b = true then some (.done (.done (i : Int))) else some (.next ((i : Int) + 1)))
    (he : f (n : Int) = some (.done (.next ()))) : ∃ r, Option.bind (andThen (loopM f N 0) (fun _ => some (-1))) (fun r : Int => some (decide (0 ≤ r))) = some r := by
  obtain ⟨r, e, _⟩ := then_postE (k := fun _ => some (-1)) (fun _ : Int => True) n (fun (_ : Unit) i => i) (fun _ => ()) (fun _ _ => True) () rfl trivial hN (fun i t hi _ => by
    obtain ⟨b, hb⟩ := h i hi
    cases b with
    | true => exact .inr ⟨_, hb, trivial⟩
    | false => exact .inl ⟨(), hb, trivial⟩) (fun t _ => he) (fun t _ => ⟨_, rfl, trivial⟩)
  rw [e]
  exact ⟨_, rfl⟩
theorem ident_ex {N : Nat} (hN : 40 < N) (s : ByteArray) : ∃ v, m_ident_Valid N s = some v ∧ (v = true → s.size ≤ 32) := by
  unfold m_ident_Valid m_ident_letter
  by_cases h1 : s.size < 1 ∨ 32 < s.size
  · have e1 : (decide ((s.size : Int) < 1) || decide (32 < (s.size : Int))) = true := by simp only [Bool.or_eq_true, decide_eq_true_eq]; omega
    rw [e1, ck_true (fun h => absurd h (by decide))]
    exact ⟨false, rfl, fun h => by cases h⟩
  · have e1 : (decide ((s.size : Int) < 1) || decide (32 < (s.size : Int))) = false := by rw [Bool.or_eq_false_iff]; simp only [decide_eq_false_iff_not]; omega
    rw [e1, ck_true (fun _ => ⟨by omega, by omega⟩)]
    simp only [callIf, Bool.not_false, if_true, Option.bind_some, Bool.false_or]
    split
    · exact ⟨false, rfl, fun h => by cases h⟩
    · refine then_postE (fun v => v = true → s.size ≤ 32) (s.size - 1) (fun (_ : Unit) i => i + 1) (fun _ => ()) (fun _ _ => True) () rfl trivial (by omega) (fun i t hi _ => ?_) (fun t _ => by (try simp only); rw [if_neg (by omega)]) (fun t _ => ⟨true, rfl, fun _ => by omega⟩)
      have h3 : I64 ((i : Int) + 1 + 1) := by unfold I64; omega
      try simp only
      rw [if_pos (by omega), ck_true ⟨by omega, by omega⟩]
      split
      · exact .inr ⟨false, rfl, fun h => by cases h⟩
      · rw [ck_true h3]; exact .inl ⟨(), rfl, trivial⟩
theorem con1_ex {N : Nat} (hN : 40 < N) (x : ApiContainer) (m n : Int) : ∃ v, m_container_check N x m n = some v ∧ (v = 0 → x.ID.size ≤ 32) := by
  unfold m_container_check
  obtain ⟨v, e, h⟩ := ident_ex hN x.ID
  rw [e, Option.bind_some]
  cases v with
  | false => exact ⟨5, rfl, fun h => by cases h⟩
  | true =>
    rw [if_neg (by decide)]
    (repeat' split) <;> exact ⟨_, rfl, fun _ => h rfl⟩
theorem con_ex {N : Nat} (hN : 400 < N) (l : List ApiContainer) (m n : Int) : ∃ v, m_container_Check N l m n = some v ∧ (v = 0 → l.length ≤ 256) := by
  unfold m_container_Check
  by_cases h512 : 256 < l.length
  · rw [if_pos (by omega)]; exact ⟨8, rfl, fun h => by cases h⟩
  · rw [if_neg (by omega)]
    refine then_postE _ l.length (fun (_ : Unit) i => i) (fun _ => ()) (fun i _ => ∀ x ∈ l.take i, x.ID.size ≤ 32) () rfl (by simp) (by omega) (fun i t hi ht => ?_) (fun t _ => by (try simp only); rw [if_neg (by omega)]) (fun t ht => ?_)
    · have h1 : ((i : Int)) < (l.length : Int) := by omega
      have h2 : I64 ((i : Int) + 1) := by unfold I64; omega
      obtain ⟨v, e, h⟩ := con1_ex (N := N) (by omega) l[i] m n
      try simp only
      rw [if_pos h1, ck_true ⟨by omega, h1⟩, ix_nat hi, e, Option.bind_some]
      by_cases hz : v ≠ 0
      · rw [if_pos hz]; exact .inr ⟨v, rfl, fun h => absurd h hz⟩
      · rw [if_neg hz, ck_true h2]
        exact .inl ⟨(), rfl, fun x hx => (mem_take_succ hi).1 hx |>.elim (ht x) fun e => by rw [e]; exact h (Decidable.not_not.1 hz)⟩
    · rw [List.take_length] at ht
      try simp only
      refine then_postE _ l.length (fun (t : List (ByteArray × Bool)) i => (t, i)) (fun _ => ()) (fun _ _ => True) [] rfl trivial (by omega) (fun i t hi _ => ?_) (fun t _ => by simp only; rw [if_neg (by omega)]) (fun t _ => ⟨0, rfl, fun _ => by omega⟩)
      have h1 : ((i : Int)) < (l.length : Int) := by omega
      have h2 : I64 ((i : Int) + 1) := by unfold I64; omega
      have h3 : ByteArray.size l[i].ID ≤ 9223372036854775807 := by have := ht l[i] (List.getElem_mem hi); omega
      simp only
      rw [if_pos h1, ck_true ⟨by omega, h1⟩, ix_nat hi, ck_true h3, ck_true h3, ck_true h2]
      split
      · exact .inr ⟨_, rfl, fun h => by cases h⟩
      · exact .inl ⟨_, rfl, trivial⟩
theorem people_ex {N : Nat} (hN : 400 < N) (l : List ApiHousehold) : ∃ v, m_household_people N l = some v ∧ True := by
  unfold m_household_people
  by_cases h512 : 256 < l.length
  · rw [if_pos (by omega)]; exact ⟨8, rfl, trivial⟩
  · rw [if_neg (by omega)]
    refine then_postE _ l.length (fun (_ : Unit) i => i) (fun _ => ()) (fun _ _ => True) () rfl trivial (by omega) (fun i t hi ht => ?_) (fun t _ => by (try simp only); rw [if_neg (by omega)]) (fun t ht => ?_)
    · have h1 : ((i : Int)) < (l.length : Int) := by omega
      have h2 : I64 ((i : Int) + 1) := by unfold I64; omega
      obtain ⟨v, e, _⟩ := ident_ex (N := N) (by omega) l[i].ID
      try simp only
      rw [if_pos h1, ck_true ⟨by omega, h1⟩, ix_nat hi, e, Option.bind_some, ck_true h2]
      split
      · exact .inr ⟨_, rfl, trivial⟩
      · split
        · exact .inr ⟨_, rfl, trivial⟩
        · exact .inl ⟨(), rfl, trivial⟩
    · try simp only
      refine then_postE _ l.length (fun (_ : Unit) i => i) (fun _ => ()) (fun _ _ => True) () rfl trivial (by omega) (fun i t hi _ => ?_) (fun t _ => by (try simp only); rw [if_neg (by omega)]) (fun t _ => ⟨0, rfl, trivial⟩)
      have h1 : ((i : Int)) < (l.length : Int) := by omega
      have h2 : I64 ((i : Int) + 1) := by unfold I64; omega
      have hc : ∃ v, m_slices_ContainsFunc_household_people_1 N (List.take (Int.toNat (i : Int)) l) l[i] = some v := by
        unfold m_slices_ContainsFunc_household_people_1 m_slices_IndexFunc_household_people_1 m_household_people_1
        refine index_ex (n := (List.take (Int.toNat (i : Int)) l).length) (by rw [List.length_take]; omega) (fun k hk => ?_) (by rw [if_neg (by omega)])
        have h4 : k < 300 := by rw [List.length_take] at hk; omega
        have h3 : I64 ((k : Int) + 1) := by unfold I64; omega
        rw [if_pos (by omega), ck_true ⟨by omega, by omega⟩, Option.bind_some, ck_true h3]
        exact ⟨_, rfl⟩
      obtain ⟨v, e⟩ := hc
      try simp only
      rw [if_pos h1, ck_true ⟨by omega, h1⟩, ck_true ⟨by omega, by omega⟩, ix_nat hi, e, Option.bind_some, ck_true h2]
      split
      · exact .inr ⟨_, rfl, trivial⟩
      · exact .inl ⟨(), rfl, trivial⟩
theorem hh_ex {N : Nat} (hN : 700 < N) (l : List ApiHousehold) (m : Int) (s : List ApiAssign) : ∃ v, m_household_Check N l m s = some v ∧ True := by
  unfold m_household_Check
  split
  · exact ⟨1, rfl, trivial⟩
  · obtain ⟨v, e, _⟩ := people_ex (N := N) (by omega) l
    rw [e, Option.bind_some]
    split
    · exact ⟨_, rfl, trivial⟩
    · by_cases h512 : 512 < s.length
      · rw [if_pos (by omega)]; exact ⟨8, rfl, trivial⟩
      · rw [if_neg (by omega)]
        refine then_postE _ s.length (fun (_ : Unit) i => i) (fun _ => ()) (fun _ _ => True) () rfl trivial (by omega) (fun i t hi ht => ?_) (fun t _ => by (try simp only); rw [if_neg (by omega)]) (fun t ht => ?_)
        · have h1 : ((i : Int)) < (s.length : Int) := by omega
          have h2 : I64 ((i : Int) + 1) := by unfold I64; omega
          unfold m_household_valid
          try simp only
          rw [if_pos h1, ck_true ⟨by omega, h1⟩, ix_nat hi, Option.bind_some, ck_true h2]
          split
          · exact .inr ⟨_, rfl, trivial⟩
          · split
            · exact .inr ⟨_, rfl, trivial⟩
            · exact .inl ⟨(), rfl, trivial⟩
        · try simp only
          refine then_postE _ s.length (fun (_ : Unit) i => i) (fun _ => ()) (fun _ _ => True) () rfl trivial (by omega) (fun i t hi _ => ?_) (fun t _ => by (try simp only); rw [if_neg (by omega)]) (fun t _ => ⟨0, rfl, trivial⟩)
          have h1 : ((i : Int)) < (s.length : Int) := by omega
          have h2 : I64 ((i : Int) + 1) := by unfold I64; omega
          have hc : ∃ v, m_slices_ContainsFunc_household_Check_1 N (List.take (Int.toNat (i : Int)) s) s[i] = some v := by
            unfold m_slices_ContainsFunc_household_Check_1 m_slices_IndexFunc_household_Check_1 m_household_Check_1 m_household_common m_household_empty
            refine index_ex (n := (List.take (Int.toNat (i : Int)) s).length) (by rw [List.length_take]; omega) (fun k hk => ?_) (by rw [if_neg (by omega)])
            have h4 : k < 600 := by rw [List.length_take] at hk; omega
            have h3 : I64 ((k : Int) + 1) := by unfold I64; omega
            rw [if_pos (by omega), ck_true ⟨by omega, by omega⟩, ck_true h3]
            by_cases hc : (ix (List.take (Int.toNat (i : Int)) s) (k : Int)).Container = s[i].Container
            · simp only [callIf, hc, decide_true, if_true, Option.bind_some]; exact ⟨_, rfl⟩
            · simp only [callIf, hc, decide_false, Bool.false_eq_true, if_false, Option.bind_some]; exact ⟨false, rfl⟩
          obtain ⟨v, e⟩ := hc
          try simp only
          rw [if_pos h1, ck_true ⟨by omega, h1⟩, ck_true ⟨by omega, by omega⟩, ix_nat hi, e, Option.bind_some, ck_true h2]
          split
          · exact .inr ⟨_, rfl, trivial⟩
          · exact .inl ⟨(), rfl, trivial⟩

/-! ### Tariffs -/
theorem usable_ex (N : Nat) (t : ApiTariff) : ∃ v, m_tariff_usable N t = some v ∧ (v = true → (0 ≤ t.Empty ∧ t.Empty ≤ 100000) ∧ (0 ≤ t.Kilo ∧ t.Kilo ≤ 100000) ∧ 0 ≤ t.Free ∧ t.Free ≤ 1000) := by
  unfold m_tariff_usable m_tariff_between
  simp only [callIf, Option.bind_some]
  by_cases h1 : (decide (0 ≤ t.Base) && decide (t.Base ≤ 100000)) = true
  · rw [h1]
    by_cases h2 : (decide (0 ≤ t.Empty) && decide (t.Empty ≤ 100000)) = true
    · rw [if_pos rfl, h2, Bool.true_and, if_pos rfl]
      by_cases h3 : (decide (0 ≤ t.Kilo) && decide (t.Kilo ≤ 100000)) = true
      · rw [h3, Bool.true_and, if_pos rfl, Bool.true_and]
        refine ⟨_, rfl, fun h4 => ?_⟩
        simp only [Bool.and_eq_true, decide_eq_true_eq] at h2 h3 h4
        exact ⟨h2, h3, h4⟩
      · rw [Bool.not_eq_true] at h3
        rw [h3]
        exact ⟨false, rfl, fun h => by cases h⟩
    · rw [Bool.not_eq_true] at h2
      rw [if_pos rfl, h2]
      exact ⟨false, rfl, fun h => by cases h⟩
  · rw [Bool.not_eq_true] at h1
    rw [h1]
    exact ⟨false, rfl, fun h => by cases h⟩
theorem tar_ex {N : Nat} (hN : 40 < N) (l : List ApiTariff) : ∃ v, m_tariff_Check N l = some v ∧ (v = 0 → l.length ≤ 8) := by
  unfold m_tariff_Check m_tariff_between
  by_cases h0 : l.length = 0
  · rw [if_pos (by omega)]; exact ⟨10, rfl, fun h => by cases h⟩
  · rw [if_neg (by omega)]
    by_cases h8 : 8 < l.length
    · rw [if_pos (by omega)]; exact ⟨8, rfl, fun h => by cases h⟩
    · rw [if_neg (by omega)]
      refine then_postE _ l.length (fun (_ : Unit) i => i) (fun _ => ()) (fun _ _ => True) () rfl trivial (by omega) (fun i t hi ht => ?_) (fun t _ => by (try simp only); rw [if_neg (by omega)]) (fun t ht => ?_)
      · have h1 : ((i : Int)) < (l.length : Int) := by omega
        have h2 : I64 ((i : Int) + 1) := by unfold I64; omega
        obtain ⟨v, e, _⟩ := usable_ex N l[i]
        try simp only
        rw [if_pos h1, ck_true ⟨by omega, h1⟩, ix_nat hi, Option.bind_some, e, ck_true h2]
        unfold callIf
        split
        · rw [Option.bind_some]
          split
          · exact .inr ⟨1, rfl, fun h => by cases h⟩
          · exact .inl ⟨(), rfl, trivial⟩
        · dsimp only
          split
          · exact .inr ⟨1, rfl, fun h => by cases h⟩
          · exact .inl ⟨(), rfl, trivial⟩
      · try simp only
        refine then_postE _ (l.length - 1) (fun (_ : Unit) i => i + 1) (fun _ => ()) (fun _ _ => True) () rfl trivial (by omega) (fun i t hi _ => ?_) (fun t _ => by (try simp only); rw [if_neg (by omega)]) (fun t _ => ⟨0, rfl, fun _ => by omega⟩)
        have h2 : I64 ((i : Int) + 1 + 1) := by unfold I64; omega
        have h3 : I64 ((i : Int) + 1 - 1) := by unfold I64; omega
        try simp only
        rw [if_pos (by omega), ck_true ⟨by omega, by omega⟩, ck_true h3, ck_true ⟨by omega, by omega⟩, ck_true h2]
        split
        · exact .inr ⟨9, rfl, fun h => by cases h⟩
        · exact .inl ⟨(), rfl, trivial⟩
theorem at_ex {N : Nat} (hN : 40 < N) (l : List ApiTariff) (d : Int) : ∃ r, m_tariff_At N l d = some r ∧ (r.2 = 0 → 0 ≤ r.1 ∧ r.1 < l.length) := by
  unfold m_tariff_At m_tariff_between
  obtain ⟨v, e, hv⟩ := tar_ex hN l
  rw [e, Option.bind_some]
  by_cases hz : v ≠ 0
  · rw [if_pos hz]; exact ⟨_, rfl, fun h => absurd h hz⟩
  · have h8 := hv (Decidable.not_not.1 hz)
    rw [if_neg hz, Option.bind_some]
    split
    · exact ⟨_, rfl, fun h => by cases h⟩
    · rw [ck_true (by unfold I64; omega)]
      refine then_postE _ l.length (fun (_ : Unit) i => (l.length : Int) - 1 - i) (fun _ => ()) (fun _ _ => True) () (by omega) trivial (by omega) (fun i t hi _ => ?_) (fun t _ => by (try simp only); rw [if_neg (by omega)]) (fun t _ => ⟨_, rfl, fun h => by cases h⟩)
      try simp only
      rw [if_pos (by omega), ck_true ⟨by omega, by omega⟩, ck_true (by unfold I64; omega)]
      split
      · exact .inr ⟨_, rfl, fun _ => ⟨by simp only; omega, by simp only; omega⟩⟩
      · refine .inl ⟨(), ?_, trivial⟩
        have : (l.length : Int) - 1 - (i : Int) - 1 = (l.length : Int) - 1 - ((i : Int) + 1) := by omega
        rw [this]
theorem mul_box {a b : Int} (ha : 0 ≤ a) (ha' : a ≤ 1073742) (hb : 0 ≤ b) (hb' : b ≤ 100000) : 0 ≤ a * b ∧ a * b ≤ 107374200000 := by
  refine ⟨Int.mul_nonneg ha hb, ?_⟩
  have := Int.mul_le_mul ha' hb' hb (by omega : (0 : Int) ≤ 1073742)
  omega
theorem weight_ex (N : Nat) (t : ApiTariff) (s : ApiSpan) : ∃ r, m_tariff_Weight N t s = some r ∧ (r.2 = 0 → (0 ≤ r.1 ∧ r.1 ≤ 1073742) ∧ (0 ≤ t.Empty ∧ t.Empty ≤ 100000) ∧ (0 ≤ t.Kilo ∧ t.Kilo ≤ 100000)) := by
  unfold m_tariff_Weight m_tariff_weighed
  obtain ⟨v, e, hv⟩ := usable_ex N t
  rw [e, Option.bind_some]
  cases v with
  | false => exact ⟨_, rfl, fun h => by cases h⟩
  | true =>
    obtain ⟨h1, h2, h3⟩ := hv rfl
    simp only [callIf, Bool.not_true, Bool.not_false, if_true, Option.bind_some, Bool.false_or]
    by_cases hw : ((decide (0 ≤ s.Lo) && decide (s.Lo ≤ s.Hi)) && decide (s.Hi ≤ 1073741824)) = true
    · rw [hw, if_neg (by decide)]
      simp only [Bool.and_eq_true, decide_eq_true_eq] at hw
      have h4 : 0 ≤ Int.tdiv s.Lo 1000 ∧ Int.tdiv s.Lo 1000 ≤ 1073742 := by
        rw [Int.tdiv_eq_ediv_of_nonneg hw.1.1]; omega
      rw [ck_true (by unfold I64; omega), ck_true (by unfold I64; omega)]
      exact ⟨_, rfl, fun _ => ⟨⟨by simp only; omega, by simp only; omega⟩, h1, h2⟩⟩
    · rw [Bool.not_eq_true] at hw
      rw [hw, if_pos (by decide)]
      exact ⟨_, rfl, fun h => by cases h⟩
/-- The items of an emptying: the price of the weight is small, and not below zero. -/
theorem items_ex (N : Nat) (t : ApiTariff) (x : ApiEmptying) : ∃ r, m_tariff_Items N t x = some r ∧ r.1.length ≤ 2 ∧ (1 < r.1.length → 0 ≤ (ix r.1 1).Amount ∧ (ix r.1 1).Amount ≤ 107374200000) := by
  unfold m_tariff_Items m_tariff_priced m_tariff_priced_1 m_tariff_between
  obtain ⟨w, e, hw⟩ := weight_ex N t x.Mass
  rw [e, Option.bind_some]
  by_cases hz : w.2 = 0
  · obtain ⟨h1, h2, h3⟩ := hw hz
    simp only [callIf, hz, ne_eq, not_true, decide_false, Bool.not_false, if_true, Option.bind_some, Bool.false_or]
    split
    · exact ⟨_, rfl, Nat.zero_le _, fun h => absurd h (Nat.not_lt_zero _)⟩
    · have m1 := mul_box (a := 1) (by omega) (by omega) h2.1 h2.2
      have m2 := mul_box h1.1 h1.2 h3.1 h3.2
      rw [ck_true (by unfold I64; omega), Option.bind_some]
      split
      · rw [ck_true (by unfold I64; omega), Option.bind_some, ck_true (by simp only [List.length_cons, List.length_nil]; omega), andThen_next]
        exact ⟨_, rfl, Nat.le_refl _, fun _ => m2⟩
      · rw [andThen_next]
        exact ⟨_, rfl, by simp only [List.length_cons, List.length_nil]; omega, fun h => absurd h (by simp)⟩
  · simp only [callIf, ne_eq, hz, not_false_eq_true, decide_true, Bool.not_true, Bool.false_eq_true, if_false, Bool.true_or, if_true]
    exact ⟨_, rfl, Nat.zero_le _, fun h => absurd h (Nat.not_lt_zero _)⟩
theorem emFault_mono {x : ApiEmptying} {c v : Int} (hc : c ≤ 256) (h : emFault x c v = 0) : emFault x 256 v = 0 := by
  unfold emFault at h ⊢
  (repeat' split at h) <;> omega
theorem emCheck_mono {l : List ApiEmptying} {c : Int} (hc : c ≤ 256) (h : emCheck l c 16 = 0) : emCheck l 256 16 = 0 := by
  obtain ⟨h1, h2, h3⟩ := emCheck_zero h
  have hb : emBad l 256 16 = none := by
    unfold emBad
    rw [List.findSome?_eq_none_iff]
    intro x hx
    rw [if_pos (emFault_mono hc (h2 x hx))]
  unfold emCheck
  rw [if_neg (by omega), hb]
  simp only
  rw [if_pos h3]
theorem bilCheck_ex {N : Nat} (hN : 700 < N) (a : ApiAccount) : ∃ v, m_bill_Check N a = some v ∧ (v = 0 → emCheck a.Emptyings 256 16 = 0 ∧ 0 ≤ a.Gap ∧ a.Gap ≤ 86400) := by
  unfold m_bill_Check
  obtain ⟨v1, e1, h1⟩ := con_ex (N := N) (by omega) a.Containers 16 64
  obtain ⟨v2, e2, _⟩ := hh_ex hN a.Households a.Containers.length a.Assigns
  obtain ⟨v3, e3, _⟩ := tar_ex (N := N) (by omega) a.Tariffs
  rw [e1, Option.bind_some, e2, Option.bind_some, progECheck_eq (by omega), Option.bind_some, e3, Option.bind_some]
  split
  · exact ⟨_, rfl, fun h => absurd h ‹_›⟩
  · rename_i hz1
    have hl := h1 (Decidable.not_not.1 hz1)
    split
    · exact ⟨_, rfl, fun h => absurd h ‹_›⟩
    · split
      · exact ⟨_, rfl, fun h => absurd h ‹_›⟩
      · rename_i hz
        have he := emCheck_mono (by omega) (Decidable.not_not.1 hz)
        split
        · exact ⟨_, rfl, fun h => absurd h ‹_›⟩
        · split
          · exact ⟨1, rfl, fun h => by cases h⟩
          · rename_i hg
            simp only [Bool.or_eq_true, decide_eq_true_eq] at hg
            exact ⟨_, rfl, fun _ => ⟨he, by omega, by omega⟩⟩
end Go.Proofs.YtljogldcejcikaaGreat
