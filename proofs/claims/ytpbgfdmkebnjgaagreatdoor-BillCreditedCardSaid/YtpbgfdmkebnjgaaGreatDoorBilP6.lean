/- Layer 54 in plain words: which bills are right, the program and the reference alike. -/
import Derived.Test.YtpbgfdmkebnjgaaGreatDoorBilP5
namespace Go.Proofs.YtpbgfdmkebnjgaaGreatDoor

theorem andThen_stepOf {τ ρ : Type} {o : Option ρ} {t : τ} {k : τ → Option ρ} : andThen (some (stepOf o t)) k = (match o with | some r => some r | none => k t) := by cases o <;> rfl
theorem callIf_t {α ρ : Type} [Inhabited α] {m : Option α} {k : α → Option ρ} : callIf (true = true) m k = m.bind k := if_pos rfl
theorem callIf_T {α ρ : Type} [Inhabited α] {m : Option α} {k : α → Option ρ} : callIf True m k = m.bind k := if_pos trivial
theorem callIf_f {α ρ : Type} [Inhabited α] {m : Option α} {k : α → Option ρ} : callIf (false = true) m k = k default := if_neg (by decide)
theorem eq_loop {α : Type} [DecidableEq α] [Inhabited α] {f : Int → Option (Step Int (Step Unit Bool))} {N : Nat} (a b : List α) (hl : a.length = b.length)
    (h : ∀ i : Nat, i < a.length → f (i : Int) = if ix a (i : Int) ≠ ix b (i : Int) then some (.done (.done false)) else some (.next ((i : Int) + 1)))
    (he : f (a.length : Int) = some (.done (.next ()))) (hN : a.length < N) : andThen (loopM f N 0) (fun _ => some true) = some (decide (a = b)) := by
  refine then_exE a.length (fun (_ : Unit) i => i) (fun _ => ()) (fun i _ => a.take i = b.take i) (fun r => r = false ∧ a ≠ b) () rfl rfl hN (fun i t hi ht => ?_) (fun t _ => he) (fun t ht => ?_) (fun r hr => ?_)
  · have hib : i < b.length := by omega
    rw [h i hi, ix_nat hi, ix_nat hib]
    by_cases hx : a[i] = b[i]
    · left
      rw [if_neg (fun hh => hh hx)]
      exact ⟨(), rfl, by rw [take_succ_get hi, take_succ_get hib, ht, hx]⟩
    · right
      rw [if_pos hx]
      refine ⟨false, rfl, rfl, fun e => hx ?_⟩
      subst e
      rfl
  · rw [List.take_length, hl, List.take_length] at ht
    rw [decide_eq_true ht]
  · rw [hr.1, decide_eq_false hr.2]
theorem itemsEq_eq {N : Nat} (a b : List ApiItem) (hl : a.length ≤ 1000000) (hN : a.length < N) : m_slices_Equal N a b = some (decide (a = b)) := by
  unfold m_slices_Equal
  by_cases h2 : a.length = b.length
  · rw [if_neg (by omega)]
    refine eq_loop a b h2 (fun i hi => ?_) (by rw [if_neg (by omega)]) hN
    rw [if_pos (by omega), ck_true ⟨by omega, by omega⟩, ck_true ⟨by omega, by omega⟩, ck_true (by unfold I64; omega)]
  · rw [if_pos (by omega), decide_eq_false (fun h => h2 (by rw [h]))]
theorem itemsSame_eq {N : Nat} (a b : List ApiItem) (hl : a.length ≤ 1000000) (hN : a.length < N) : m_recyclingref53_Same N a b = some (decide (a = b)) := by
  unfold m_recyclingref53_Same
  by_cases h2 : a.length = b.length
  · rw [if_neg (by omega)]
    refine eq_loop a b h2 (fun i hi => ?_) (by rw [if_neg (by omega)]) hN
    rw [if_pos (by omega), ck_true ⟨by omega, by omega⟩, ck_true ⟨by omega, by omega⟩, ck_true (by unfold I64; omega)]
  · rw [if_pos (by omega), decide_eq_false (fun h => h2 (by rw [h]))]
/-! ### What a bill that is made holds -/
def itKind (x : ApiItem) : Prop := x.Kind = 1 ∨ ((x.Kind = 2 ∨ x.Kind = 3) ∧ 1 ≤ x.Ref)
theorem mkItems_kind {a : ApiAccount} (ha : bilSpec a = 0) {w : ApiWindow} (hb : (baseSpec a.Tariffs w).2 = 0) (h : Int) : ∀ x ∈ mkItems a h w, itKind x := fun x hx => by
  unfold mkItems at hx
  rcases List.mem_append.1 hx with hx | hx
  · obtain ⟨i, _, hx⟩ := List.mem_flatMap.1 hx
    unfold baseI at hx
    split at hx
    · rw [List.mem_singleton] at hx
      subst hx
      exact .inl rfl
    · cases hx
  · obtain ⟨i, hi, hx⟩ := List.mem_flatMap.1 hx
    have h2 := emFault_zero (em_ok ha (mkIdx_ok ha (baseSpec_zero hb).2.1 hi).1)
    unfold emIt itSpec at hx
    split at hx
    · cases hx
    · split at hx
      · rcases List.mem_cons.1 hx with rfl | hx
        · exact .inr ⟨.inl rfl, h2.1.1⟩
        · rw [List.mem_singleton] at hx
          subst hx
          exact .inr ⟨.inr rfl, h2.1.1⟩
      · rw [List.mem_singleton] at hx
        subst hx
        exact .inr ⟨.inl rfl, h2.1.1⟩
theorem mkSpec_zero {a : ApiAccount} {id h : Int} {w : ApiWindow} (hz : (mkSpec a id h w).2 = 0) : bilSpec a = 0 ∧ (baseSpec a.Tariffs w).2 = 0 ∧ (mkItems a h w).length ≤ 512 ∧ mkSpec a id h w = (⟨id, h, w, mkItems a h w, sumA (mkItems a h w)⟩, 0) := by
  unfold mkSpec at hz ⊢
  split at hz
  · exact absurd hz ‹_›
  · rename_i h1
    split at hz
    · cases hz
    · rename_i h2
      split at hz
      · cases hz
      · rename_i h3
        split at hz
        · cases hz
        · rename_i h4
          split at hz
          · exact absurd hz ‹_›
          · rename_i h5
            split at hz
            · cases hz
            · rename_i h6
              split at hz
              · cases hz
              · rename_i h7
                rw [if_neg h1, if_neg h2, if_neg h3, if_neg h4, if_neg h5, if_neg h6, if_neg h7]
                exact ⟨Decidable.not_not.1 h1, Decidable.not_not.1 h5, by omega, rfl⟩
theorem sumP_none {p : ApiItem → Bool} : ∀ {l : List ApiItem}, (∀ x ∈ l, p x = false) → sumP p l = 0
  | [], _ => rfl
  | x :: l, h => by
    rw [sumP_cons, h x (List.mem_cons_self ..), sumP_none fun y hy => h y (List.mem_cons_of_mem _ hy)]
    rfl
/-! ### Credits behind a bill's own items -/
def crBad (x : ApiItem) : Bool := ((((decide (x.Count ≠ 1)) || (decide (x.Amount < -1000000000000))) || (decide (-1 < x.Amount))) || (decide (x.Price ≠ x.Amount)))
def crOne (m : List ApiItem) (x : ApiItem) : Option Int := if crBad x = true then some 3 else if ((decide (x.Ref ≠ 0)) && (!(m.any (emP x.Ref)))) = true then some 7 else none
def crTwo (m c : List ApiItem) (x : ApiItem) : Option Int := if ((decide (x.Ref ≠ 0)) && (decide (sumP (chP x.Ref) m < -sumP (crP x.Ref) c))) = true then some 1 else none
def crSpec (m c : List ApiItem) : Int := match c.findSome? (crOne m) with
  | some e => e
  | none => match c.findSome? (crTwo m c) with
    | some e => e
    | none => 0
theorem crOne_ne {m : List ApiItem} {x : ApiItem} {e : Int} (h : crOne m x = some e) : e ≠ 0 := by
  unfold crOne at h
  split at h
  · injection h with h; omega
  · split at h
    · injection h with h; omega
    · cases h
theorem crTwo_ne {m c : List ApiItem} {x : ApiItem} {e : Int} (h : crTwo m c x = some e) : e ≠ 0 := by
  unfold crTwo at h
  split at h
  · injection h with h; omega
  · cases h
theorem crOne_amt {m c : List ApiItem} (h : c.findSome? (crOne m) = none) : okAmt c := fun x hx => by
  rw [List.findSome?_eq_none_iff] at h
  have := h x hx
  unfold crOne at this
  split at this
  · cases this
  · rename_i hb
    unfold crBad at hb
    simp only [Bool.or_eq_true, decide_eq_true_eq, not_or] at hb
    omega
section
variable {m c : List ApiItem} (hm : okAmt m) (hk : ∀ x ∈ m, itKind x) (hc : ∀ x ∈ c, x.Kind = 4) (hl : (m ++ c).length ≤ 512)
include hc in
theorem own_known (ref : Int) : (m ++ c).any (emP ref) = m.any (emP ref) := by
  rw [List.any_append]
  have : c.any (emP ref) = false := by
    rw [List.any_eq_false]
    intro x hx
    unfold emP
    rw [hc x hx]
    simp
  rw [this, Bool.or_false]
include hc in
theorem own_charged (ref : Int) : sumP (chP ref) (m ++ c) = sumP (chP ref) m := by
  rw [sumP_append, sumP_none (l := c) fun x hx => by unfold chP; rw [hc x hx]; simp]
  omega
include hk in
theorem own_credited (ref : Int) : sumP (crP ref) (m ++ c) = sumP (crP ref) c := by
  rw [sumP_append, sumP_none (l := m) fun x hx => by
    unfold crP
    rcases hk x hx with h | ⟨h | h, _⟩ <;> rw [h] <;> simp]
  omega
include hm hk hc hl in
theorem credits_eq {N : Nat} (hN : 600 < N) {l : List ApiItem} (hle : l = m ++ c) : m_bill_credits N l (m.length : Int) = some (crSpec m c) := by
  have hd : List.drop (Int.toNat (m.length : Int)) l = c := by rw [Int.toNat_natCast, hle, List.drop_left]
  have hll : l.length = m.length + c.length := by rw [hle, List.length_append]
  rw [List.length_append] at hl
  have hknown : ∀ ref, ∃ u v, m_bill_account N l ref = some (u, v, m.any (emP ref)) := fun ref => by
    obtain ⟨u, v, e⟩ := account_known (N := N) (l := l) (by omega) (by omega) ref
    rw [hle, own_known hc, ← hle] at e
    exact ⟨u, v, e⟩
  unfold m_bill_credits
  rw [hd, ck_true ⟨by omega, by omega⟩, ck_true ⟨by omega, by omega⟩]
  rw [loop_find c (crOne m) () (fun i hi => by
    have h1 : ((i : Int)) < (c.length : Int) := by omega
    rw [if_pos h1, ck_true ⟨by omega, h1⟩, ix_nat hi]
    obtain ⟨u, v, e⟩ := hknown c[i].Ref
    rw [e, Option.bind_some]
    unfold crOne
    change (if crBad c[i] = true then _ else _) = _
    by_cases hb : crBad c[i] = true
    · rw [if_pos hb, if_pos hb]
    · rw [if_neg hb, if_neg hb]
      by_cases hr : (decide (c[i].Ref ≠ 0) && !(m.any (emP c[i].Ref))) = true
      · rw [if_pos hr, if_pos hr]
      · rw [if_neg hr, if_neg hr, ck_true (by unfold I64; omega)]) (by rw [if_neg (by omega)]) (by omega), andThen_stepOf]
  unfold crSpec
  cases h1 : c.findSome? (crOne m) with
  | some e => rfl
  | none =>
    have hca := crOne_amt h1
    have hla : okAmt l := fun x hx => by
      rw [hle] at hx
      rcases List.mem_append.1 hx with hx | hx
      · exact hm x hx
      · exact hca x hx
    simp only
    rw [loop_find c (crTwo m c) () (fun i hi => by
      have h1 : ((i : Int)) < (c.length : Int) := by omega
      rw [if_pos h1, ck_true ⟨by omega, h1⟩, ix_nat hi, account_eq (by omega) (by omega) hla, Option.bind_some, hle, own_charged hc, own_credited hk]
      unfold crTwo
      simp only
      by_cases hr : (decide (c[i].Ref ≠ 0) && decide (sumP (chP c[i].Ref) m < -sumP (crP c[i].Ref) c)) = true
      · rw [if_pos hr, if_pos hr]
      · rw [if_neg hr, if_neg hr, ck_true (by unfold I64; omega)]) (by rw [if_neg (by omega)]) (by omega), andThen_stepOf]
    cases c.findSome? (crTwo m c) <;> rfl
end
/-! ### The answer -/
noncomputable def rightSpec (a : ApiAccount) (b : ApiBill) : Int :=
  if (mkSpec a b.ID b.Household b.When).2 ≠ 0 then (mkSpec a b.ID b.Household b.When).2 else if 512 < b.Items.length then 8
  else if b.Items.length < (mkItems a b.Household b.When).length ∨ b.Items.take (mkItems a b.Household b.When).length ≠ mkItems a b.Household b.When then 34
  else if (b.Items.drop (mkItems a b.Household b.When).length).any (fun x => decide (x.Kind ≠ 4)) = true then 34
  else if crSpec (mkItems a b.Household b.When) (b.Items.drop (mkItems a b.Household b.When).length) ≠ 0 then crSpec (mkItems a b.Household b.When) (b.Items.drop (mkItems a b.Household b.When).length)
  else if b.Total ≠ sumA b.Items then 16 else 0
theorem crSpec_zero {m c : List ApiItem} (h : crSpec m c = 0) : c.findSome? (crOne m) = none := by
  unfold crSpec at h
  cases h1 : c.findSome? (crOne m) with
  | none => rfl
  | some e =>
    obtain ⟨x, _, hx⟩ := List.exists_of_findSome?_eq_some h1
    rw [h1] at h
    exact absurd h (crOne_ne hx)
theorem notCredit_eq {N : Nat} {c : List ApiItem} (hN : c.length < N) (hl : c.length ≤ 1000) : m_slices_ContainsFunc_bill_Right_1 N c = some (c.any fun x => decide (x.Kind ≠ 4)) := by
  unfold m_slices_ContainsFunc_bill_Right_1 m_slices_IndexFunc_bill_Right_1 m_bill_Right_1
  refine contains_loop c (fun x => decide (x.Kind ≠ 4)) (fun i hi => ?_) (by rw [if_neg (by omega)]) hN
  have h1 : ((i : Int)) < (c.length : Int) := by omega
  rw [if_pos h1, ck_true ⟨by omega, h1⟩, ix_nat hi, Option.bind_some, ck_true (by unfold I64; omega)]
theorem right_eq (a : ApiAccount) (b : ApiBill) : m_bill_Right 40000 a b = some (rightSpec a b) := by
  unfold m_bill_Right rightSpec
  rw [make_eq, Option.bind_some]
  by_cases hz : (mkSpec a b.ID b.Household b.When).2 ≠ 0
  · rw [if_pos hz, if_pos hz]
  · rw [if_neg hz, if_neg hz]
    obtain ⟨ha, hb, hml, hM⟩ := mkSpec_zero (Decidable.not_not.1 hz)
    have hm := mkItems_ok ha hb b.Household
    have hk := mkItems_kind ha hb b.Household
    rw [hM]
    dsimp only
    generalize mkItems a b.Household b.When = m at *
    by_cases h1 : 512 < b.Items.length
    · rw [if_pos (by omega), if_pos h1]
    · rw [if_neg (by omega), if_neg h1]
      by_cases h2 : b.Items.length < m.length
      · rw [decide_eq_true (by omega : (b.Items.length : Int) < (m.length : Int)), if_pos (.inl h2)]
        rfl
      · rw [decide_eq_false (by omega : ¬ (b.Items.length : Int) < (m.length : Int)), ck_true (fun _ => ⟨by omega, by omega⟩), Bool.not_false, callIf_t, Int.toNat_natCast, itemsEq_eq _ _ (by rw [List.length_take]; omega) (by rw [List.length_take]; omega), Option.bind_some, ck_true (fun _ => ⟨by omega, by omega⟩)]
        by_cases h3 : b.Items.take m.length = m
        · have hle : b.Items = m ++ b.Items.drop m.length := by
            conv => lhs; rw [← List.take_append_drop m.length b.Items, h3]
          have hdl : (b.Items.drop m.length).length ≤ 512 := by rw [List.length_drop]; omega
          rw [decide_eq_true h3, if_neg (by simp [h2, h3])]
          simp only [Bool.not_true, Bool.false_or, Bool.not_false]
          rw [callIf_T, notCredit_eq (by omega) (by omega), Option.bind_some]
          cases h4 : (b.Items.drop m.length).any (fun x => decide (x.Kind ≠ 4)) with
          | true => rfl
          | false =>
            have hc : ∀ x ∈ b.Items.drop m.length, x.Kind = 4 := fun x hx => by
              have := List.any_eq_false.1 h4 x hx
              simpa using this
            rw [if_neg (by decide), if_neg (by decide), credits_eq hm hk hc (by rw [← hle]; omega) (by omega) hle, Option.bind_some]
            by_cases h5 : crSpec m (b.Items.drop m.length) ≠ 0
            · rw [if_pos h5, if_pos h5]
            · rw [if_neg h5, if_neg h5]
              have hca := crOne_amt (crSpec_zero (Decidable.not_not.1 h5))
              have hla : okAmt b.Items := fun x hx => by
                rw [hle] at hx
                rcases List.mem_append.1 hx with hx | hx
                · exact hm x hx
                · exact hca x hx
              rw [sum_eq (by omega) (by omega) hla, Option.bind_some]
              split <;> rfl
        · rw [decide_eq_false h3, if_pos (.inr h3)]
          rfl
end Go.Proofs.YtpbgfdmkebnjgaaGreatDoor
