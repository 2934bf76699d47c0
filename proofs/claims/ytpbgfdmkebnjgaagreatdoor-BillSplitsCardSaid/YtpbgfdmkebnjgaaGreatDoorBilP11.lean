/- Layer 54 in plain words: bills for adjoining windows. -/
import Derived.Test.YtpbgfdmkebnjgaaGreatDoorBilP6
import Derived.Test.YtpbgfdmkebnjgaaGreatDoorBLSplits
namespace Go.Proofs.YtpbgfdmkebnjgaaGreatDoor

theorem filter_cut {l : List ApiEmptying} {p : Int → Bool} {m : Int} : ∀ {S : List Int}, (S.Pairwise fun a b => (ix l a).At ≤ (ix l b).At) → S.filter (fun i => p i && decide ((ix l i).At < m)) ++ S.filter (fun i => p i && decide (m ≤ (ix l i).At)) = S.filter p
  | [], _ => rfl
  | x :: S, h => by
    obtain ⟨h1, h2⟩ := List.pairwise_cons.1 h
    have ih := filter_cut (p := p) (m := m) h2
    by_cases hx : (ix l x).At < m
    · have hn : ¬ m ≤ (ix l x).At := by omega
      simp only [List.filter_cons, hx, hn, decide_true, decide_false, Bool.and_true, Bool.and_false, Bool.false_eq_true, if_false]
      split
      · rw [List.cons_append, ih]
      · exact ih
    · have hm : m ≤ (ix l x).At := by omega
      have hemp : S.filter (fun i => p i && decide ((ix l i).At < m)) = [] := by
        rw [List.filter_eq_nil_iff]
        intro y hy
        have := h1 y hy
        have : ¬ (ix l y).At < m := by omega
        simp [this]
      rw [hemp, List.nil_append] at ih
      simp only [List.filter_cons, hx, hm, decide_true, decide_false, Bool.and_true, Bool.and_false, Bool.false_eq_true, if_false]
      rw [hemp, List.nil_append]
      split
      · rw [ih]
      · exact ih
theorem emSel_sorted {l : List ApiEmptying} (hn : (l.map ApiEmptying.ID).Nodup) (gap : Int) : (emSel l gap).Pairwise (fun a b => emLtI l a b = true) := by
  have := emSel_At hn gap (emOrder l).length
  rwa [List.take_length] at this
theorem mkIdx_cut {a : ApiAccount} (ha : bilSpec a = 0) {w : ApiWindow} (hw : ¬ winBad w) {d : Int} (h1 : w.From ≤ d) (h2 : d ≤ w.To) (h : Int) : mkIdx a h ⟨w.From, d⟩ ++ mkIdx a h ⟨d, w.To⟩ = mkIdx a h w := by
  have hw' := hw
  unfold winBad at hw'
  have w1 : ¬ winBad ⟨w.From, d⟩ := by unfold winBad; simp only; omega
  have w2 : ¬ winBad ⟨d, w.To⟩ := by unfold winBad; simp only; omega
  obtain ⟨_, h3, _⟩ := bilSpec_zero ha
  have hn := (emCheck_zero h3).2.2
  rw [(emOf_ok ha w1 h).2, (emOf_ok ha w2 h).2, (emOf_ok ha hw h).2]
  have hs : (emSel a.Emptyings a.Gap).Pairwise fun i j => (ix a.Emptyings i).At ≤ (ix a.Emptyings j).At := (emSel_sorted hn a.Gap).imp fun {a b} h => by
    unfold emLtI emLt at h
    simp only [decide_eq_true_eq] at h
    omega
  rw [← filter_cut (p := emMine a.Emptyings a.Assigns h (secs w)) (m := d * 86400) hs]
  congr 1
  · refine List.filter_congr fun i _ => ?_
    unfold emMine secs
    rw [Bool.eq_iff_iff]
    simp only [Bool.and_eq_true, decide_eq_true_eq]
    constructor
    · rintro ⟨⟨q1, q2⟩, q3⟩; exact ⟨⟨⟨q1, by omega⟩, q3⟩, q2⟩
    · rintro ⟨⟨⟨q1, q2⟩, q3⟩, q4⟩; exact ⟨⟨q1, q4⟩, q3⟩
  · refine List.filter_congr fun i _ => ?_
    unfold emMine secs
    rw [Bool.eq_iff_iff]
    simp only [Bool.and_eq_true, decide_eq_true_eq]
    constructor
    · rintro ⟨⟨q1, q2⟩, q3⟩; exact ⟨⟨⟨by omega, q2⟩, q3⟩, q1⟩
    · rintro ⟨⟨⟨q1, q2⟩, q3⟩, q4⟩; exact ⟨⟨q4, q2⟩, q3⟩
theorem emItems_cut {a : ApiAccount} (ha : bilSpec a = 0) {w : ApiWindow} (hw : ¬ winBad w) {d : Int} (h1 : w.From ≤ d) (h2 : d ≤ w.To) (h : Int) : emItems a h ⟨w.From, d⟩ ++ emItems a h ⟨d, w.To⟩ = emItems a h w := by
  unfold emItems
  rw [← List.flatMap_append, mkIdx_cut ha hw h1 h2]
/-! ### Base items of parts -/
theorem sumA_append (a b : List ApiItem) : sumA (a ++ b) = sumA a + sumA b := sumP_append _ a b
theorem sumA_baseI (l : List ApiTariff) (w : ApiWindow) (i : Nat) : sumA (baseI l w i) = max 0 (baseN l w i) * (ix l (i : Int)).Base := by
  unfold baseI
  split
  · rename_i h
    rw [show max 0 (baseN l w i) = baseN l w i from by omega]
    exact Int.add_zero _
  · rename_i h
    rw [show max 0 (baseN l w i) = 0 from by omega, Int.zero_mul]
    rfl
theorem tar_up {l : List ApiTariff} (ht : tarSpec l = 0) {i : Nat} (hi : i + 1 < l.length) : (ix l (i : Int)).From < (ix l ((i : Int) + 1)).From := (tarSpec_zero ht).2.2 i hi
theorem baseN_parts {l : List ApiTariff} (ht : tarSpec l = 0) {w : ApiWindow} {d : Int} (h1 : w.From ≤ d) (h2 : d ≤ w.To) {i : Nat} (_ : i < l.length) :
    max 0 (baseN l ⟨w.From, d⟩ i) + max 0 (baseN l ⟨d, w.To⟩ i) = max 0 (baseN l w i) ∧ baseN l ⟨w.From, d⟩ i ≤ baseN l w i ∧ baseN l ⟨d, w.To⟩ i ≤ baseN l w i := by
  unfold baseN
  split
  · rename_i hl
    have := tar_up ht hl
    simp only
    omega
  · simp only
    omega
theorem base_parts {l : List ApiTariff} (ht : tarSpec l = 0) {w : ApiWindow} {d : Int} (h1 : w.From ≤ d) (h2 : d ≤ w.To) : ∀ k, k ≤ l.length →
    sumA (baseL l ⟨w.From, d⟩ k) + sumA (baseL l ⟨d, w.To⟩ k) = sumA (baseL l w k) ∧ (baseL l ⟨w.From, d⟩ k).length ≤ (baseL l w k).length ∧ (baseL l ⟨d, w.To⟩ k).length ≤ (baseL l w k).length
  | 0, _ => ⟨rfl, Nat.le_refl _, Nat.le_refl _⟩
  | k + 1, hk => by
    obtain ⟨e1, e2, e3⟩ := base_parts ht h1 h2 k (by omega)
    obtain ⟨n1, n2, n3⟩ := baseN_parts ht h1 h2 (show k < l.length from by omega)
    have hlen : ∀ u v : ApiWindow, baseN l u k ≤ baseN l v k → (baseI l u k).length ≤ (baseI l v k).length := fun u v h => by
      unfold baseI
      split
      · rw [if_pos (by omega)]; exact Nat.le_refl _
      · exact Nat.zero_le _
    have l1 := hlen _ _ n2
    have l2 := hlen _ _ n3
    rw [baseL_succ, baseL_succ, baseL_succ, sumA_append, sumA_append, sumA_append, sumA_baseI, sumA_baseI, sumA_baseI, List.length_append, List.length_append, List.length_append, ← n1, Int.add_mul]
    omega
theorem sumA_nonneg {l : List ApiItem} (h : ∀ x ∈ l, 0 ≤ x.Amount) : 0 ≤ sumA l := by
  induction l with
  | nil => exact Int.le_refl _
  | cons x l ih =>
    have h1 := h x (List.mem_cons_self ..)
    have h2 := ih fun y hy => h y (List.mem_cons_of_mem _ hy)
    have e : sumA (x :: l) = x.Amount + sumA l := rfl
    omega
theorem base_nonneg {l : List ApiTariff} (ht : tarSpec l = 0) (w : ApiWindow) : ∀ x ∈ baseL l w l.length, 0 ≤ x.Amount := fun x hx => by
  obtain ⟨i, hi, hx⟩ := List.mem_flatMap.1 hx
  have hi' := List.mem_range.1 hi
  unfold baseI at hx
  split at hx
  · rename_i hp
    rw [List.mem_singleton] at hx
    subst hx
    have h4 := tar_ix ht hi'
    exact Int.mul_nonneg (Int.le_of_lt hp) h4.2.1
  · cases hx
theorem em_nonneg {a : ApiAccount} (ha : bilSpec a = 0) {w : ApiWindow} (hb : (baseSpec a.Tariffs w).2 = 0) (h : Int) : ∀ x ∈ emItems a h w, 0 ≤ x.Amount := fun x hx => by
  obtain ⟨_, _, ht, _⟩ := bilSpec_zero ha
  obtain ⟨i, hi, hx⟩ := List.mem_flatMap.1 hx
  obtain ⟨k, e, hk⟩ := at_ok ha hb hi
  have h1 := tarSpec_all ht _ (List.getElem_mem hk)
  rw [← ix_nat hk] at h1
  unfold emIt itSpec at hx
  rw [e] at hx
  simp only at hx
  split at hx
  · cases hx
  · rename_i hbad
    have hz : (wgtSpec (ix a.Tariffs (k : Int)) (ix a.Emptyings i).Mass).2 = 0 := by
      refine Decidable.byContradiction fun h => hbad (.inl h)
    obtain ⟨h5, h6, h7⟩ := wgtSpec_ok hz
    have h8 := mul_boxT h5.1 h5.2 h7.1 h7.2
    split at hx
    · rcases List.mem_cons.1 hx with rfl | hx
      · exact h6.1
      · rw [List.mem_singleton] at hx
        subst hx
        exact h8.1
    · rw [List.mem_singleton] at hx
      subst hx
      exact h6.1
/-! ### Parts of a bill -/
theorem mkSpec_sub {a : ApiAccount} {id h : Int} {w v : ApiWindow} (hz : (mkSpec a id h w).2 = 0) (hv : ¬ winBad v) (hb : (baseSpec a.Tariffs v).2 = 0) (hl : (mkItems a h v).length ≤ (mkItems a h w).length) (hs : sumA (mkItems a h v) ≤ sumA (mkItems a h w)) :
    mkSpec a id h v = (⟨id, h, v, mkItems a h v, sumA (mkItems a h v)⟩, 0) := by
  unfold mkSpec at hz ⊢
  split at hz
  · exact absurd hz ‹_›
  · rename_i h1
    split at hz
    · cases hz
    · rename_i h2
      split at hz
      · cases hz
      · rename_i h3
        split at hz
        · cases hz
        · split at hz
          · exact absurd hz ‹_›
          · split at hz
            · cases hz
            · rename_i h6
              split at hz
              · cases hz
              · rename_i h7
                rw [if_neg h1, if_neg h2, if_neg h3, if_neg hv, if_neg (fun hh => hh hb), if_neg (by omega), if_neg (by omega)]
theorem split_made {a : ApiAccount} {id h : Int} {w : ApiWindow} (hz : (mkSpec a id h w).2 = 0) {d : Int} (h1 : w.From ≤ d) (h2 : d ≤ w.To) :
    mkSpec a id h ⟨w.From, d⟩ = (⟨id, h, ⟨w.From, d⟩, mkItems a h ⟨w.From, d⟩, sumA (mkItems a h ⟨w.From, d⟩)⟩, 0) ∧ mkSpec a id h ⟨d, w.To⟩ = (⟨id, h, ⟨d, w.To⟩, mkItems a h ⟨d, w.To⟩, sumA (mkItems a h ⟨d, w.To⟩)⟩, 0) ∧
      sumA (mkItems a h ⟨w.From, d⟩) + sumA (mkItems a h ⟨d, w.To⟩) = sumA (mkItems a h w) ∧ (mkItems a h ⟨w.From, d⟩).length ≤ 512 ∧ (mkItems a h ⟨d, w.To⟩).length ≤ 512 ∧ emItems a h ⟨w.From, d⟩ ++ emItems a h ⟨d, w.To⟩ = emItems a h w := by
  obtain ⟨ha, hb, hml, _⟩ := mkSpec_zero hz
  obtain ⟨_, hw, hf⟩ := baseSpec_zero hb
  obtain ⟨_, _, ht, _⟩ := bilSpec_zero ha
  have hw' := hw
  unfold winBad at hw'
  have w1 : ¬ winBad ⟨w.From, d⟩ := by unfold winBad; simp only; omega
  have w2 : ¬ winBad ⟨d, w.To⟩ := by unfold winBad; simp only; omega
  have b1 : (baseSpec a.Tariffs ⟨w.From, d⟩).2 = 0 := by
    unfold baseSpec
    rw [if_neg (fun h => h ht), if_neg w1, if_neg (fun hh => hf ⟨by have := hh.1; simp only at this; omega, hh.2⟩)]
  have b2 : (baseSpec a.Tariffs ⟨d, w.To⟩).2 = 0 := by
    unfold baseSpec
    rw [if_neg (fun h => h ht), if_neg w2, if_neg (fun hh => hf ⟨by have := hh.1; simp only at this; omega, by have := hh.2; simp only at this; omega⟩)]
  have hem := emItems_cut ha hw h1 h2 h
  obtain ⟨s1, s2, s3⟩ := base_parts ht h1 h2 a.Tariffs.length (Nat.le_refl _)
  have n1 := sumA_nonneg (base_nonneg ht ⟨w.From, d⟩)
  have n2 := sumA_nonneg (base_nonneg ht ⟨d, w.To⟩)
  have n3 := sumA_nonneg (em_nonneg ha b1 h)
  have n4 := sumA_nonneg (em_nonneg ha b2 h)
  have q1 : sumA (emItems a h ⟨w.From, d⟩) + sumA (emItems a h ⟨d, w.To⟩) = sumA (emItems a h w) := by rw [← hem, sumA_append]
  have q2 : (emItems a h ⟨w.From, d⟩).length + (emItems a h ⟨d, w.To⟩).length = (emItems a h w).length := by rw [← hem, List.length_append]
  have m0 : ∀ v, sumA (mkItems a h v) = sumA (baseL a.Tariffs v a.Tariffs.length) + sumA (emItems a h v) := fun v => sumA_append _ _
  have k0 : ∀ v, (mkItems a h v).length = (baseL a.Tariffs v a.Tariffs.length).length + (emItems a h v).length := fun v => List.length_append
  have m1 := m0 w
  have m2 := m0 ⟨w.From, d⟩
  have m3 := m0 ⟨d, w.To⟩
  have k1 := k0 w
  have k2 := k0 ⟨w.From, d⟩
  have k3 := k0 ⟨d, w.To⟩
  exact ⟨mkSpec_sub hz w1 b1 (by omega) (by omega), mkSpec_sub hz w2 b2 (by omega) (by omega), by omega, by omega, by omega, hem⟩
theorem charged_of (a : ApiAccount) (w : ApiWindow) (h : Int) : (mkItems a h w).filter (fun x => decide (x.Kind ≠ 1)) = emItems a h w := by
  unfold mkItems
  rw [List.filter_append]
  have e1 : (baseL a.Tariffs w a.Tariffs.length).filter (fun x => decide (x.Kind ≠ 1)) = [] := by
    rw [List.filter_eq_nil_iff]
    intro x hx
    obtain ⟨i, _, hx⟩ := List.mem_flatMap.1 hx
    unfold baseI at hx
    split at hx
    · rw [List.mem_singleton] at hx
      subst hx
      simp
    · cases hx
  have e2 : (emItems a h w).filter (fun x => decide (x.Kind ≠ 1)) = emItems a h w := by
    rw [List.filter_eq_self]
    intro x hx
    obtain ⟨i, hi, hx⟩ := List.mem_flatMap.1 hx
    unfold emIt itSpec at hx
    split at hx
    · cases hx
    · split at hx
      · rcases List.mem_cons.1 hx with rfl | hx
        · rfl
        · rw [List.mem_singleton] at hx
          subst hx
          rfl
      · rw [List.mem_singleton] at hx
        subst hx
        rfl
  rw [e1, e2, List.nil_append]
theorem chargedL_eq {N : Nat} {b : ApiBill} (hN : b.Items.length < N) (hl : b.Items.length ≤ 1000) : m_recyclinglaw54_charged N b = some (b.Items.filter fun x => decide (x.Kind ≠ 1)) := by
  unfold m_recyclinglaw54_charged
  refine then_ex b.Items.length (fun (t : List ApiItem) i => (t, i)) (fun t => t) (fun i t => t = (b.Items.take i).filter fun x => decide (x.Kind ≠ 1)) [] rfl rfl hN (fun i t hi ht => ⟨(b.Items.take (i + 1)).filter fun x => decide (x.Kind ≠ 1), ?_, rfl⟩) (fun t _ => by simp only; rw [if_neg (by omega)]) (fun t ht => by rw [ht, List.take_length])
  have h1 : ((i : Int)) < (b.Items.length : Int) := by omega
  have h2 : I64 ((i : Int) + 1) := by unfold I64; omega
  have h3 := List.length_filter_le (fun x : ApiItem => decide (x.Kind ≠ 1)) (b.Items.take i)
  have h4 := List.length_take (i := i) (l := b.Items)
  rw [take_succ_get hi, List.filter_append, ht]
  generalize (b.Items.take i).filter (fun x => decide (x.Kind ≠ 1)) = u at *
  simp only
  rw [if_pos h1, ck_true ⟨by omega, h1⟩, ix_nat hi]
  by_cases hq : b.Items[i].Kind ≠ 1
  · rw [if_pos hq, ck_true ⟨by omega, h1⟩, ck_true (by simp only [List.length_cons, List.length_nil]; omega), andThen_next, ck_true h2, List.filter_cons, if_pos (decide_eq_true hq)]
    rfl
  · rw [if_neg hq, andThen_next, ck_true h2, List.filter_cons, if_neg (by simpa using hq), List.filter_nil, List.append_nil]
theorem callIf_pos {α ρ : Type} [Inhabited α] {g : Prop} [Decidable g] {m : Option α} {k : α → Option ρ} (h : g) : callIf g m k = m.bind k := if_pos h
theorem lawBSplits_eq (a : ApiAccount) (x : Recyclinglaw54Ask) (d : Int) : m_recyclinglaw54_BillSplits 40000 a x d = some true := by
  unfold m_recyclinglaw54_BillSplits
  obtain ⟨g, eg, _⟩ := great_ex a
  rw [eg, Option.bind_some, bilAwake_eq, make_eq, make_eq, make_eq]
  split
  · rfl
  · rename_i hg
    simp only [Bool.or_eq_true, decide_eq_true_eq, not_or] at hg
    rw [Option.bind_some, Option.bind_some, Option.bind_some]
    by_cases hz : (mkSpec a x.ID x.Household x.When).2 ≠ 0
    · rw [if_pos hz]; rfl
    · rw [if_neg hz]
      have hz' := Decidable.not_not.1 hz
      obtain ⟨ha, hb, hml, hM⟩ := mkSpec_zero hz'
      have hw := (baseSpec_zero hb).2.1
      have hw' := hw
      unfold winBad at hw'
      have w1 : ¬ winBad ⟨x.When.From, d⟩ := by unfold winBad; simp only; omega
      have w2 : ¬ winBad ⟨d, x.When.To⟩ := by unfold winBad; simp only; omega
      obtain ⟨e1, e2, e3, l1, l2, e4⟩ := split_made hz' (by omega : x.When.From ≤ d) (by omega : d ≤ x.When.To)
      have c0 := charged_of a x.When x.Household
      have c1 := charged_of a ⟨x.When.From, d⟩ x.Household
      have c2 := charged_of a ⟨d, x.When.To⟩ x.Household
      have hok := sumP_small' (fun _ => true) (mkItems_ok ha hb x.Household) hml
      rw [e1, e2, hM]
      rw [chargedL_eq (by simp only; omega) (by simp only; omega), chargedL_eq (by simp only; omega) (by simp only; omega), chargedL_eq (by simp only; omega) (by simp only; omega)]
      dsimp only
      rw [c0, c1, c2]
      have q1 : (emItems a x.Household ⟨x.When.From, d⟩).length ≤ 512 := by rw [← c1]; exact Nat.le_trans (List.length_filter_le ..) l1
      have q2 : (emItems a x.Household ⟨d, x.When.To⟩).length ≤ 512 := by rw [← c2]; exact Nat.le_trans (List.length_filter_le ..) l2
      have q3 : (emItems a x.Household x.When).length ≤ 512 := by rw [← c0]; exact Nat.le_trans (List.length_filter_le ..) hml
      have hok' : sumA (mkItems a x.Household x.When) = sumP (fun _ => true) (mkItems a x.Household x.When) := rfl
      rw [callIf_pos (by rfl), Option.bind_some, ck_true (fun _ => by rw [List.length_nil]; omega), callIf_pos (by rfl), Option.bind_some, List.nil_append, ck_true (fun _ => by omega), callIf_pos (by rfl), Option.bind_some, callIf_pos (by rfl), e4, itemsSame_eq _ _ (by omega) (by omega), decide_eq_true rfl, Option.bind_some, e3, ck_true (fun _ => by unfold I64; omega)]
      simp [callIf]
end Go.Proofs.YtpbgfdmkebnjgaaGreatDoor
