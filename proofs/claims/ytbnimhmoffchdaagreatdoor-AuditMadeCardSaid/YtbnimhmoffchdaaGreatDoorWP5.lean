/- Layer 54 in plain words: the bill of a household, the program and the reference alike. -/
import Derived.Test.YtbnimhmoffchdaaGreatDoorYP2
import Derived.Test.YtbnimhmoffchdaaGreatDoorYP3
import Derived.Test.YtbnimhmoffchdaaGreatDoorWP4
import Derived.Test.YtbnimhmoffchdaaGreatDoorWEmP3
namespace Go.Proofs.YtbnimhmoffchdaaGreatDoor

theorem emFault_mono {x : ApiEmptying} {c : Int} (hc : c ≤ 256) (h : emFault x c 16 = 0) : emFault x 256 16 = 0 := by
  have := emFault_zero h
  unfold emFault
  rw [if_neg (by omega), if_neg (by omega), if_neg (by omega)]
theorem emCheck_mono {l : List ApiEmptying} {c : Int} (hc : c ≤ 256) (h : emCheck l c 16 = 0) : emCheck l 256 16 = 0 := by
  obtain ⟨h1, h2, h3⟩ := emCheck_zero h
  have hb : emBad l 256 16 = none := by
    unfold emBad
    rw [List.findSome?_eq_none_iff]
    intro x hx
    rw [if_pos (emFault_mono hc (h2 x hx))]
  unfold emCheck
  rw [if_neg (by omega), hb]
  simp only
  rw [if_pos h3]
/-! ### Accounts that are valid -/
noncomputable def bilSpec (a : ApiAccount) : Int :=
  if conSpec a.Containers 16 64 ≠ 0 then conSpec a.Containers 16 64 else if hhSpec a.Households a.Containers.length a.Assigns ≠ 0 then hhSpec a.Households a.Containers.length a.Assigns
  else if emCheck a.Emptyings a.Containers.length 16 ≠ 0 then emCheck a.Emptyings a.Containers.length 16 else if tarSpec a.Tariffs ≠ 0 then tarSpec a.Tariffs else if ((decide (a.Gap < 0)) || (decide (86400 < a.Gap))) = true then 1 else 0
theorem bilProg_eq (a : ApiAccount) : m_bill_Check 40000 a = some (bilSpec a) := by
  unfold m_bill_Check bilSpec
  rw [conProg_eq, Option.bind_some, hhProg_eq, Option.bind_some, progECheck_eq (by omega), Option.bind_some, tarProg_eq (by omega), Option.bind_some]
  (repeat' split) <;> rfl
theorem bilRef_eq (a : ApiAccount) : m_recyclingref54_Check 40000 a = some (bilSpec a) := by rw [bil_same, bilProg_eq]
theorem conSpec_zero {l : List ApiContainer} {m n : Int} (h : conSpec l m n = 0) : l.length ≤ 256 := by
  unfold conSpec at h
  split at h
  · omega
  · omega
theorem hhSpec_zero {l : List ApiHousehold} {m : Int} {s : List ApiAssign} (h : hhSpec l m s = 0) : s.length ≤ 512 := by
  unfold hhSpec at h
  split at h
  · omega
  · split at h
    · exact absurd h ‹_›
    · split at h
      · omega
      · omega
theorem bilSpec_zero {a : ApiAccount} (h : bilSpec a = 0) : a.Assigns.length ≤ 512 ∧ emCheck a.Emptyings 256 16 = 0 ∧ tarSpec a.Tariffs = 0 ∧ 0 ≤ a.Gap ∧ a.Gap ≤ 86400 := by
  unfold bilSpec at h
  split at h
  · exact absurd h ‹_›
  · rename_i h1
    split at h
    · exact absurd h ‹_›
    · rename_i h2
      split at h
      · exact absurd h ‹_›
      · rename_i h3
        split at h
        · exact absurd h ‹_›
        · rename_i h4
          split at h
          · omega
          · rename_i h5
            simp only [Bool.or_eq_true, decide_eq_true_eq, not_or] at h5
            have := conSpec_zero (Decidable.not_not.1 h1)
            exact ⟨hhSpec_zero (Decidable.not_not.1 h2), emCheck_mono (by omega) (Decidable.not_not.1 h3), Decidable.not_not.1 h4, by omega, by omega⟩
/-! ### Sums -/
def sumA (l : List ApiItem) : Int := sumP (fun _ => true) l
theorem sum_eq {N : Nat} {l : List ApiItem} (hN : l.length < N) (hl : l.length ≤ 512) (ha : okAmt l) : m_bill_sum N l = some (sumA l) := by
  unfold m_bill_sum sumA
  refine then_ex l.length (fun (t : Int) i => (t, i)) (fun t => t) (fun i t => t = sumP (fun _ => true) (l.take i)) 0 rfl rfl hN (fun i t hi ht => ⟨sumP (fun _ => true) (l.take (i + 1)), ?_, rfl⟩) (fun t _ => by simp only; rw [if_neg (by omega)]) (fun t ht => by rw [ht, List.take_length])
  have h1 : ((i : Int)) < (l.length : Int) := by omega
  have h3 := sumP_small (fun _ => true) ha hl i
  have h4 := ha _ (List.getElem_mem hi)
  rw [sumP_take _ hi, ht, if_pos rfl]
  generalize sumP (fun _ => true) (l.take i) = u at *
  simp only
  rw [if_pos h1, ck_true ⟨by omega, h1⟩, ix_nat hi, ck_true (by unfold I64; omega), ck_true (by unfold I64; omega)]
/-! ### The items of emptyings -/
noncomputable def atF (l : List ApiTariff) (d : Int) : Int × Int := (m_tariff_At 40000 l d).getD (0, 0)
theorem atF_eq (l : List ApiTariff) (d : Int) : m_tariff_At 40000 l d = some (atF l d) ∧ atP l d (atF l d) := by
  obtain ⟨r, e, h⟩ := atProg (N := 40000) (by omega) l d
  unfold atF
  rw [e]
  exact ⟨rfl, h⟩
noncomputable def emIt (a : ApiAccount) (i : Int) : List ApiItem := (itSpec (ix a.Tariffs (atF a.Tariffs (Int.tdiv (ix a.Emptyings i).At 86400)).1) (ix a.Emptyings i)).1
def secs (w : ApiWindow) : ApiWindow := ⟨w.From * 86400, w.To * 86400⟩
def mkIdx (a : ApiAccount) (h : Int) (w : ApiWindow) : List Int := (emOf a.Emptyings a.Assigns h (secs w) a.Gap).1
noncomputable def emItems (a : ApiAccount) (h : Int) (w : ApiWindow) : List ApiItem := (mkIdx a h w).flatMap (emIt a)
noncomputable def mkItems (a : ApiAccount) (h : Int) (w : ApiWindow) : List ApiItem := baseL a.Tariffs w a.Tariffs.length ++ emItems a h w
noncomputable def mkSpec (a : ApiAccount) (id h : Int) (w : ApiWindow) : ApiBill × Int :=
  if bilSpec a ≠ 0 then (noBill, bilSpec a) else if id < 1 ∨ 1000000 < id then (noBill, 1) else if h < 0 ∨ (a.Households.length : Int) ≤ h then (noBill, 7) else if winBad w then (noBill, 1)
  else if (baseSpec a.Tariffs w).2 ≠ 0 then (noBill, (baseSpec a.Tariffs w).2) else if 512 < (mkItems a h w).length then (noBill, 8) else if 1000000000000 < sumA (mkItems a h w) then (noBill, 2)
  else (⟨id, h, w, mkItems a h w, sumA (mkItems a h w)⟩, 0)
theorem baseSpec_zero {l : List ApiTariff} {w : ApiWindow} (h : (baseSpec l w).2 = 0) : (baseSpec l w).1 = baseL l w l.length ∧ ¬ winBad w ∧ ¬ (w.From < w.To ∧ w.From < (ix l 0).From) := by
  unfold baseSpec at h ⊢
  split at h
  · exact absurd h ‹_›
  · rename_i h1
    split at h
    · cases h
    · rename_i h2
      split at h
      · cases h
      · rename_i h3
        rw [if_neg h1, if_neg h2, if_neg h3]
        exact ⟨rfl, h2, h3⟩
theorem emOf_ok {a : ApiAccount} (ha : bilSpec a = 0) {w : ApiWindow} (hw : ¬ winBad w) (h : Int) : (emOf a.Emptyings a.Assigns h (secs w) a.Gap).2 = 0 ∧ mkIdx a h w = (emSel a.Emptyings a.Gap).filter (emMine a.Emptyings a.Assigns h (secs w)) := by
  obtain ⟨_, h2, _, h4, h5⟩ := bilSpec_zero ha
  unfold winBad at hw
  have hc : emCounts a.Emptyings a.Gap = (emSel a.Emptyings a.Gap, 0) := by
    unfold emCounts
    rw [if_neg (by omega), if_neg (by omega)]
  have hk : winOk (secs w) = true := by
    unfold winOk secs
    simp only [Bool.and_eq_true, decide_eq_true_eq]
    omega
  unfold mkIdx emOf
  rw [hc]
  simp only
  rw [if_neg (by decide), hk, if_neg (by decide)]
  exact ⟨rfl, rfl⟩
theorem mkIdx_ok {a : ApiAccount} (ha : bilSpec a = 0) {w : ApiWindow} (hw : ¬ winBad w) {h i : Int} (hi : i ∈ mkIdx a h w) : (0 ≤ i ∧ i < a.Emptyings.length) ∧ w.From * 86400 ≤ (ix a.Emptyings i).At ∧ (ix a.Emptyings i).At < w.To * 86400 := by
  rw [(emOf_ok ha hw h).2, List.mem_filter] at hi
  refine ⟨emSel_mem hi.1, ?_⟩
  have := hi.2
  unfold emMine secs at this
  simp only [Bool.and_eq_true, decide_eq_true_eq] at this
  exact this.1
theorem mkIdx_len {a : ApiAccount} (ha : bilSpec a = 0) {w : ApiWindow} (hw : ¬ winBad w) (h : Int) : (mkIdx a h w).length ≤ 512 := by
  obtain ⟨_, h2, _⟩ := bilSpec_zero ha
  rw [(emOf_ok ha hw h).2]
  have h3 := List.length_filter_le (emMine a.Emptyings a.Assigns h (secs w)) (emSel a.Emptyings a.Gap)
  have h4 := emSel_len a.Emptyings a.Gap
  have h5 := (emCheck_zero h2).1
  omega
theorem em_ok {a : ApiAccount} (ha : bilSpec a = 0) {i : Int} (hi : 0 ≤ i ∧ i < a.Emptyings.length) : emFault (ix a.Emptyings i) 256 16 = 0 := by
  obtain ⟨_, h2, _⟩ := bilSpec_zero ha
  obtain ⟨k, rfl⟩ := Int.eq_ofNat_of_zero_le hi.1
  have hk : k < a.Emptyings.length := by omega
  rw [ix_nat hk]
  exact (emCheck_zero h2).2.1 _ (List.getElem_mem hk)
theorem at_ok {a : ApiAccount} (ha : bilSpec a = 0) {w : ApiWindow} (hb : (baseSpec a.Tariffs w).2 = 0) {h i : Int} (hi : i ∈ mkIdx a h w) : ∃ k : Nat, atF a.Tariffs (Int.tdiv (ix a.Emptyings i).At 86400) = ((k : Int), 0) ∧ k < a.Tariffs.length := by
  obtain ⟨_, hw, hf⟩ := baseSpec_zero hb
  obtain ⟨_, _, ht, _⟩ := bilSpec_zero ha
  obtain ⟨h0, _⟩ := tarSpec_zero ht
  obtain ⟨h1, h2, h3⟩ := mkIdx_ok ha hw hi
  have h4 := emFault_zero (em_ok ha h1)
  have hd : Int.tdiv (ix a.Emptyings i).At 86400 = (ix a.Emptyings i).At / 86400 := Int.tdiv_eq_ediv_of_nonneg h4.2.2.1
  unfold winBad at hw
  have hp := (atF_eq a.Tariffs (Int.tdiv (ix a.Emptyings i).At 86400)).2
  rw [hd] at hp ⊢
  rcases hp with ⟨hp, _⟩ | ⟨_, hp | ⟨_, hp | ⟨k, e, hk, _⟩⟩⟩
  · exact absurd ht hp
  · have := hp.1; omega
  · have := hp.2 0 h0
    have e0 : ix a.Tariffs ((0 : Nat) : Int) = ix a.Tariffs 0 := rfl
    rw [e0] at this
    exact absurd ⟨by omega, by omega⟩ hf
  · exact ⟨k, e, hk⟩
theorem it_ok {a : ApiAccount} (ha : bilSpec a = 0) {i : Int} (hi : 0 ≤ i ∧ i < a.Emptyings.length) {k : Nat} (hk : k < a.Tariffs.length) : (itSpec (ix a.Tariffs (k : Int)) (ix a.Emptyings i)).2 = 0 ∧ (itSpec (ix a.Tariffs (k : Int)) (ix a.Emptyings i)).1.length ≤ 2 ∧ okAmt (itSpec (ix a.Tariffs (k : Int)) (ix a.Emptyings i)).1 := by
  obtain ⟨_, _, ht, _⟩ := bilSpec_zero ha
  have h1 := tarSpec_all ht _ (List.getElem_mem hk)
  rw [← ix_nat hk] at h1
  have h2 := emFault_zero (em_ok ha hi)
  generalize ix a.Tariffs (k : Int) = t at *
  generalize ix a.Emptyings i = x at *
  have h3 : (wgtSpec t x.Mass).2 = 0 := by
    unfold wgtSpec
    rw [if_pos]
    rw [h1.2.1, Bool.true_and]
    unfold masB
    simp only [Bool.and_eq_true, decide_eq_true_eq]
    omega
  obtain ⟨h4, h5, h6⟩ := wgtSpec_ok h3
  have h7 := mul_boxT h4.1 h4.2 h6.1 h6.2
  unfold itSpec
  rw [if_neg (by omega)]
  split
  · refine ⟨rfl, Nat.le_refl _, fun y hy => ?_⟩
    rcases List.mem_cons.1 hy with rfl | hy
    · simp only; omega
    · rw [List.mem_singleton] at hy
      subst hy
      simp only; omega
  · refine ⟨rfl, by simp, fun y hy => ?_⟩
    rw [List.mem_singleton] at hy
    subst hy
    simp only; omega
theorem emIt_ok {a : ApiAccount} (ha : bilSpec a = 0) {w : ApiWindow} (hb : (baseSpec a.Tariffs w).2 = 0) {h i : Int} (hi : i ∈ mkIdx a h w) : (emIt a i).length ≤ 2 ∧ okAmt (emIt a i) := by
  obtain ⟨k, e, hk⟩ := at_ok ha hb hi
  have := it_ok ha (mkIdx_ok ha (baseSpec_zero hb).2.1 hi).1 hk
  unfold emIt
  rw [e]
  exact this.2
theorem flat_le2 {α β : Type} {f : α → List β} : ∀ {l : List α}, (∀ x ∈ l, (f x).length ≤ 2) → (l.flatMap f).length ≤ 2 * l.length
  | [], _ => Nat.le_refl _
  | x :: l, h => by
    have h1 := h x (List.mem_cons_self ..)
    have h2 := flat_le2 (l := l) fun y hy => h y (List.mem_cons_of_mem _ hy)
    rw [List.flatMap_cons, List.length_append, List.length_cons]
    omega
theorem emItems_ok {a : ApiAccount} (ha : bilSpec a = 0) {w : ApiWindow} (hb : (baseSpec a.Tariffs w).2 = 0) (h : Int) : okAmt (emItems a h w) := fun x hx => by
  obtain ⟨i, hi, hx⟩ := List.mem_flatMap.1 hx
  exact (emIt_ok ha hb hi).2 x hx
theorem base_ok {l : List ApiTariff} {w : ApiWindow} (ht : tarSpec l = 0) (hw : ¬ winBad w) : okAmt (baseL l w l.length) := fun x hx => by
  obtain ⟨i, hi, hx⟩ := List.mem_flatMap.1 hx
  have hi' := List.mem_range.1 hi
  unfold baseI at hx
  split at hx
  · rename_i hp
    rw [List.mem_singleton] at hx
    subst hx
    have h4 := tar_ix ht hi'
    have := mul_boxB (Int.le_of_lt hp) (baseN_le (l := l) hw i) h4.2.1 h4.2.2
    simp only
    omega
  · cases hx
theorem mkItems_ok {a : ApiAccount} (ha : bilSpec a = 0) {w : ApiWindow} (hb : (baseSpec a.Tariffs w).2 = 0) (h : Int) : okAmt (mkItems a h w) := fun x hx => by
  unfold mkItems at hx
  rcases List.mem_append.1 hx with hx | hx
  · exact base_ok (bilSpec_zero ha).2.2.1 (baseSpec_zero hb).2.1 x hx
  · exact emItems_ok ha hb h x hx
theorem flatMap_take {α β : Type} (f : α → List β) {l : List α} {i : Nat} (hi : i < l.length) : (l.take (i + 1)).flatMap f = (l.take i).flatMap f ++ f l[i] := by
  rw [take_succ_get hi, List.flatMap_append, List.flatMap_cons, List.flatMap_nil, List.append_nil]
theorem flatMap_take_len {a : ApiAccount} (ha : bilSpec a = 0) {w : ApiWindow} (hb : (baseSpec a.Tariffs w).2 = 0) (h : Int) (i : Nat) : (((mkIdx a h w).take i).flatMap (emIt a)).length ≤ 1024 := by
  have h1 := flat_le2 (l := (mkIdx a h w).take i) fun x hx => (emIt_ok ha hb (List.mem_of_mem_take hx)).1
  have h2 := mkIdx_len ha (baseSpec_zero hb).2.1 h
  have h3 := List.length_take (i := i) (l := mkIdx a h w)
  omega
theorem emptyings_eq {a : ApiAccount} (ha : bilSpec a = 0) {w : ApiWindow} (hb : (baseSpec a.Tariffs w).2 = 0) (h : Int) : m_bill_emptyings 40000 a h w = some (emItems a h w, 0) := by
  obtain ⟨h5, h2, ht, _⟩ := bilSpec_zero ha
  obtain ⟨_, hw, _⟩ := baseSpec_zero hb
  have hw' := hw
  unfold winBad at hw'
  have hE : emOf a.Emptyings a.Assigns h (ApiWindow.mk (w.From * 86400) (w.To * 86400)) a.Gap = (mkIdx a h w, 0) := Prod.ext rfl (emOf_ok ha hw h).1
  unfold m_bill_emptyings
  rw [ck_true (by unfold I64; omega), ck_true (by unfold I64; omega), progOf_eq (by omega) a.Emptyings (by omega) (by omega), hE, Option.bind_some, if_neg (fun hh => hh rfl)]
  dsimp only
  have hL := mkIdx_len ha hw h
  refine then_ex (mkIdx a h w).length (fun (t : List ApiItem) i => (t, i)) (fun t => t) (fun i t => t = ((mkIdx a h w).take i).flatMap (emIt a)) [] rfl rfl (by omega) (fun i t hi ht => ⟨((mkIdx a h w).take (i + 1)).flatMap (emIt a), ?_, rfl⟩) (fun t _ => by simp only; rw [if_neg (by omega)]) (fun t ht => by rw [ht, List.take_length]; rfl)
  have hm := List.getElem_mem hi
  obtain ⟨k, e, hk⟩ := at_ok ha hb hm
  obtain ⟨h6, _⟩ := mkIdx_ok ha hw hm
  have h7 := emFault_zero (em_ok ha h6)
  have h8 := it_ok ha h6 hk
  have h9 := flatMap_take_len ha hb h i
  have h1 : ((i : Int)) < ((mkIdx a h w).length : Int) := by omega
  have e2 : emIt a (mkIdx a h w)[i] = (itSpec (ix a.Tariffs (k : Int)) (ix a.Emptyings (mkIdx a h w)[i])).1 := by
    unfold emIt
    rw [e]
  rw [flatMap_take _ hi, ht, e2]
  generalize ((mkIdx a h w).take i).flatMap (emIt a) = u at *
  dsimp only
  rw [if_pos h1, ck_true ⟨by omega, h1⟩, ix_nat hi, ck_true h6, ck_true (by unfold I64; omega), (atF_eq _ _).1, e, Option.bind_some, if_neg (fun hh => hh rfl), ck_true ⟨by omega, by omega⟩, itProg_eq, Option.bind_some, if_neg (fun hh => hh h8.1), ck_true (by dsimp only; omega), ck_true (by unfold I64; omega)]
/-! ### The bill -/
theorem make_eq (a : ApiAccount) (id h : Int) (w : ApiWindow) : m_bill_Make 40000 a id h w = some (mkSpec a id h w) := by
  unfold m_bill_Make mkSpec
  rw [bilProg_eq, Option.bind_some, winBad_bool]
  by_cases ha : bilSpec a ≠ 0
  · rw [if_pos ha, if_pos ha]; rfl
  · rw [if_neg ha, if_neg ha]
    have ha' := Decidable.not_not.1 ha
    by_cases h1 : id < 1 ∨ 1000000 < id
    · rw [if_pos (by simpa using h1), if_pos h1]; rfl
    · rw [if_neg (by simpa using h1), if_neg h1]
      by_cases h2 : h < 0 ∨ (a.Households.length : Int) ≤ h
      · rw [if_pos (by simpa using h2), if_pos h2]; rfl
      · rw [if_neg (by simpa using h2), if_neg h2]
        by_cases h3 : winBad w
        · rw [if_pos (decide_eq_true h3), if_pos h3]; rfl
        · rw [if_neg (by simpa using h3), if_neg h3, baseProg_eq (by omega), Option.bind_some]
          by_cases h4 : (baseSpec a.Tariffs w).2 ≠ 0
          · rw [if_pos h4, if_pos h4]; rfl
          · rw [if_neg h4, if_neg h4]
            have h4' := Decidable.not_not.1 h4
            obtain ⟨e1, _, _⟩ := baseSpec_zero h4'
            rw [emptyings_eq ha' h4', Option.bind_some, if_neg (fun hh => hh rfl), e1]
            have h5 := mkItems_ok ha' h4' h
            have h6 := baseL_len a.Tariffs w a.Tariffs.length
            have h7 := flatMap_take_len ha' h4' h (mkIdx a h w).length
            rw [List.take_length] at h7
            have h8 : (emItems a h w).length ≤ 1024 := h7
            obtain ⟨_, _, ht, _⟩ := bilSpec_zero ha'
            obtain ⟨_, h9, _⟩ := tarSpec_zero ht
            dsimp only
            rw [ck_true (by omega)]
            change (if 512 < ((mkItems a h w).length : Int) then _ else Option.bind (m_bill_sum 40000 (mkItems a h w)) _) = _
            by_cases h10 : 512 < (mkItems a h w).length
            · rw [if_pos (by omega), if_pos h10]; rfl
            · rw [if_neg (by omega), if_neg h10, sum_eq (by omega) (by omega) h5, Option.bind_some]
              by_cases h11 : 1000000000000 < sumA (mkItems a h w)
              · rw [if_pos h11, if_pos h11]; rfl
              · rw [if_neg h11, if_neg h11]; rfl
theorem mkSpec_len (a : ApiAccount) (id h : Int) (w : ApiWindow) : (mkSpec a id h w).1.Items.length ≤ 512 := by
  unfold mkSpec
  repeat' split
  all_goals first | exact Nat.zero_le _ | (simp only; omega)
end Go.Proofs.YtbnimhmoffchdaaGreatDoor
