/- Layer 54 in plain words: a bill has exactly the items of what counts, and their sum. -/
import Derived.Test.YtpbgfdmkebnjgaaGreatDoorBilP6
import Derived.Test.YtpbgfdmkebnjgaaGreatDoorBLComplete
namespace Go.Proofs.YtpbgfdmkebnjgaaGreatDoor

theorem mkSpec_bad {a : ApiAccount} {id h : Int} {w : ApiWindow} (hz : (mkSpec a id h w).2 ≠ 0) : (mkSpec a id h w).1 = noBill := by
  unfold mkSpec at hz ⊢
  split
  · rfl
  · rename_i h1
    rw [if_neg h1] at hz
    split
    · rfl
    · rename_i h2
      rw [if_neg h2] at hz
      split
      · rfl
      · rename_i h3
        rw [if_neg h3] at hz
        split
        · rfl
        · rename_i h4
          rw [if_neg h4] at hz
          split
          · rfl
          · rename_i h5
            rw [if_neg h5] at hz
            split
            · rfl
            · rename_i h6
              rw [if_neg h6] at hz
              split
              · rfl
              · rename_i h7
                rw [if_neg h7] at hz
                exact absurd rfl hz
/-- A bill that is made is right. -/
theorem right_made {a : ApiAccount} {id h : Int} {w : ApiWindow} (hz : (mkSpec a id h w).2 = 0) : rightSpec a (mkSpec a id h w).1 = 0 := by
  obtain ⟨_, _, hl, hM⟩ := mkSpec_zero hz
  rw [hM]
  unfold rightSpec
  simp only
  rw [hM]
  simp only
  rw [if_neg (fun h => h rfl), if_neg (by omega), List.take_length, if_neg (by simp), List.drop_length, List.any_nil, if_neg (by decide)]
  have : crSpec (mkItems a h w) [] = 0 := rfl
  rw [this, if_neg (fun h => h rfl), if_neg (fun h => h rfl)]
theorem lawBComplete_eq (a : ApiAccount) (x : Recyclinglaw54Ask) : m_recyclinglaw54_BillComplete 40000 a x = some true := by
  unfold m_recyclinglaw54_BillComplete
  obtain ⟨g, eg, _⟩ := great_ex a
  rw [eg, Option.bind_some, bilAwake_eq, make_eq]
  split
  · rfl
  · rw [Option.bind_some]
    by_cases hz : (mkSpec a x.ID x.Household x.When).2 ≠ 0
    · rw [if_pos hz, mkSpec_bad hz]
      rfl
    · rw [if_neg hz]
      have hz' := Decidable.not_not.1 hz
      obtain ⟨ha, hb, hl, hM⟩ := mkSpec_zero hz'
      have hR := right_made hz'
      obtain ⟨e1, hw, _⟩ := baseSpec_zero hb
      have hw' := hw
      unfold winBad at hw'
      obtain ⟨h5, _, ht, _⟩ := bilSpec_zero ha
      obtain ⟨_, h9, _⟩ := tarSpec_zero ht
      have hE : emOf a.Emptyings a.Assigns x.Household (ApiWindow.mk (x.When.From * 86400) (x.When.To * 86400)) a.Gap = (mkIdx a x.Household x.When, 0) := Prod.ext rfl (emOf_ok ha hw x.Household).1
      have hB : baseSpec a.Tariffs x.When = (baseL a.Tariffs x.When a.Tariffs.length, 0) := Prod.ext e1 hb
      rw [baseProg_eq (by omega), Option.bind_some, ck_true (by unfold I64; omega), ck_true (by unfold I64; omega), progOf_eq (by omega) a.Emptyings (by omega) (by omega), hE, hB, Option.bind_some]
      rw [hM] at hR ⊢
      simp only at hR ⊢
      rw [if_neg (by simp)]
      have hL := mkIdx_len ha hw x.Household
      have h6 := baseL_len a.Tariffs x.When a.Tariffs.length
      refine then_ex (mkIdx a x.Household x.When).length (fun (t : List ApiItem) i => (t, i)) (fun t => t) (fun i t => t = baseL a.Tariffs x.When a.Tariffs.length ++ ((mkIdx a x.Household x.When).take i).flatMap (emIt a)) (baseL a.Tariffs x.When a.Tariffs.length) rfl (by simp) (by omega) (fun i t hi ht => ⟨baseL a.Tariffs x.When a.Tariffs.length ++ ((mkIdx a x.Household x.When).take (i + 1)).flatMap (emIt a), ?_, rfl⟩) (fun t _ => by simp only; rw [if_neg (by omega)]) (fun t ht => ?_)
      · have hm := List.getElem_mem hi
        obtain ⟨k, e, hk⟩ := at_ok ha hb hm
        obtain ⟨h6', _⟩ := mkIdx_ok ha hw hm
        have h7 := emFault_zero (em_ok ha h6')
        have h8 := it_ok ha h6' hk
        have h9 := flatMap_take_len ha hb x.Household i
        have h1 : ((i : Int)) < ((mkIdx a x.Household x.When).length : Int) := by omega
        have e2 : emIt a (mkIdx a x.Household x.When)[i] = (itSpec (ix a.Tariffs (k : Int)) (ix a.Emptyings (mkIdx a x.Household x.When)[i])).1 := by
          unfold emIt
          rw [e]
        rw [flatMap_take _ hi, ht, e2, ← List.append_assoc (baseL a.Tariffs x.When a.Tariffs.length)]
        have h10 : (baseL a.Tariffs x.When a.Tariffs.length ++ ((mkIdx a x.Household x.When).take i).flatMap (emIt a)).length = (baseL a.Tariffs x.When a.Tariffs.length).length + (((mkIdx a x.Household x.When).take i).flatMap (emIt a)).length := List.length_append
        generalize baseL a.Tariffs x.When a.Tariffs.length ++ ((mkIdx a x.Household x.When).take i).flatMap (emIt a) = u at *
        simp only
        rw [if_pos h1, ck_true ⟨by omega, h1⟩, ix_nat hi, ck_true (fun _ => ⟨by omega, h1⟩), if_neg (by simp; omega), ck_true ⟨by omega, h1⟩, ck_true h6', ck_true (by unfold I64; omega), (atF_eq _ _).1, e, Option.bind_some, if_neg (by simp; omega), ck_true ⟨by simp only; omega, by simp only; omega⟩, itProg_eq, Option.bind_some, if_neg (fun hh => hh h8.1), List.nil_append, ck_true (by rw [List.length_nil]; omega), ck_true (by dsimp only; omega), ck_true (by unfold I64; omega)]
      · rw [ht, List.take_length]
        rw [show baseL a.Tariffs x.When a.Tariffs.length ++ (mkIdx a x.Household x.When).flatMap (emIt a) = mkItems a x.Household x.When from rfl]
        have hok := mkItems_ok ha hb x.Household
        generalize mkItems a x.Household x.When = m at *
        refine then_ex m.length (fun (t : Int) i => (t, i)) (fun t => t) (fun i t => t = sumP (fun _ => true) (m.take i)) 0 rfl rfl (by omega) (fun i t hi ht => ⟨sumP (fun _ => true) (m.take (i + 1)), ?_, rfl⟩) (fun t _ => by simp only; rw [if_neg (by omega)]) (fun t ht => ?_)
        · have h1 : ((i : Int)) < (m.length : Int) := by omega
          have h3 := sumP_small (fun _ => true) hok hl i
          have h4 := hok _ (List.getElem_mem hi)
          rw [sumP_take _ hi, ht, if_pos rfl]
          generalize sumP (fun _ => true) (m.take i) = u at *
          simp only
          rw [if_pos h1, ck_true ⟨by omega, h1⟩, ix_nat hi, ck_true (by unfold I64; omega), ck_true (by unfold I64; omega)]
        · rw [List.take_length] at ht
          rw [itemsSame_eq _ _ (by omega) (by omega), decide_eq_true rfl, Option.bind_some, decide_eq_true (show sumA m = t from ht.symm), right_eq, hR]
          rfl
end Go.Proofs.YtpbgfdmkebnjgaaGreatDoor
