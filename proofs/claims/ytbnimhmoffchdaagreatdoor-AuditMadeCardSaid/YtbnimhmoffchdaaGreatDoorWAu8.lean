/- Layer 59 in plain words: a bill that Make makes, looked at alone. -/
import Derived.Test.YtbnimhmoffchdaaGreatDoorWAu7
import Derived.Test.YtbnimhmoffchdaaGreatDoorZLMade
namespace Go.Proofs.YtbnimhmoffchdaaGreatDoor
attribute [local instance] jfTrue

theorem wf_win {a : ApiAccount} {b : ApiBill} (h : wfB a b) : ¬ winBad b.When := by
  unfold wfB at h
  unfold winBad
  omega
def cntI (a : ApiAccount) (b : ApiBill) : List Int := mkIdx a b.Household b.When
def bwfB (a : ApiAccount) (b : ApiBill) : Bool := ((((decide (0 ≤ b.Household)) && (decide (b.Household < (List.length a.Households : Int)))) && (decide (0 ≤ b.When.From))) && (decide (b.When.From ≤ b.When.To))) && (decide (b.When.To ≤ 36525))
theorem bwfB_wf {a : ApiAccount} {b : ApiBill} (h : bwfB a b = true) : wfB a b := by
  unfold bwfB at h
  unfold wfB
  simp at h
  omega
theorem apps_nil {γ : Type} {n : Nat} {g : Nat → List γ} (h : ∀ i, i < n → g i = []) : apps n g = [] := by
  unfold apps
  rw [List.flatMap_eq_nil_iff]
  intro i hi
  have := List.mem_range'_1.1 hi
  exact h i (by omega)
/-- What the program says of one bill alone in which nothing is found. -/
theorem progOne_eq {p : ApiBooks} {b : ApiBill} (hB : p.Bills = [b]) (hb : bilSpec p.Account = 0) (h1 : p.Account.Emptyings.length ≤ 60) (h2 : p.Account.Assigns.length ≤ 60) (hit : b.Items.length ≤ 512) (hw : bwfB p.Account b = true)
    (hno : itemsF p.Account b (baseSpec p.Account.Tariffs b.When).1 (cntI p.Account b) 0 = []) : m_audit_Bills 40000 p = some ([], 0) := by
  have hl : p.Bills.length = 1 := by rw [hB]; rfl
  unfold m_audit_Bills
  have hc : m_slices_ContainsFunc_audit_Bills_1 40000 p.Bills = some false := by
    unfold m_slices_ContainsFunc_audit_Bills_1 m_slices_IndexFunc_audit_Bills_1
    rw [contains_loop p.Bills (fun x => decide (512 < (x.Items.length : Int))) (fun i hi => ?_) (by rw [if_neg (by omega)]) (by omega)]
    · congr 1
      rw [List.any_eq_false]
      intro x hx
      rw [hB, List.mem_singleton] at hx
      subst hx
      simp
      omega
    · rw [if_pos (by omega), ck_yes (by omega), ix_nat hi]
      unfold m_audit_Bills_1
      rw [Option.bind_some, ck_yes (by unfold I64; omega)]
  rw [decide_eq_false (show ¬ 512 < (p.Bills.length : Int) by omega), callIf_yes (by decide), hc, Option.bind_some, if_neg (by decide), bilProg_eq, Option.bind_some, if_neg (by omega)]
  unfold m_audit_collector
  rw [Option.bind_some]
  refine then_ex (N := 40000) p.Bills.length (fun (F : List ApiFinding) i => (F, i)) (fun F => F) (fun i F => F = []) [] rfl rfl (by omega) (fun i F hi hv => ?_) (fun F _ => by dsimp only; rw [if_neg (by omega)]) (fun F hF => by rw [hF])
  have hi0 : i = 0 := by omega
  subst hi0
  subst hv
  refine ⟨[], ?_, rfl⟩
  have ex : ix p.Bills ((0 : Nat) : Int) = b := by rw [hB]; rfl
  dsimp only
  rw [if_pos (by omega), ck_yes (by omega), ex]
  unfold m_audit_valid
  rw [Option.bind_some]
  have ev : (((((decide (0 ≤ b.Household)) && (decide (b.Household < (List.length p.Account.Households : Int)))) && (decide (0 ≤ b.When.From))) && (decide (b.When.From ≤ b.When.To))) && (decide (b.When.To ≤ 36525))) = bwfB p.Account b := rfl
  rw [ev, hw]
  have hw' := bwfB_wf hw
  have hwin := hw'
  unfold wfB at hwin
  rw [if_neg (by decide), baseProg_eq (by omega), Option.bind_some]
  unfold m_audit_invoice_moments
  dsimp only
  rw [ck_yes (by unfold I64; omega), ck_yes (by unfold I64; omega), Option.bind_some, progOf_eq (by omega) _ (by omega) (by omega), Option.bind_some]
  have ec : (emOf p.Account.Emptyings p.Account.Assigns b.Household (ApiWindow.mk (b.When.From * 86400) (b.When.To * 86400)) p.Account.Gap).1 = cntI p.Account b := rfl
  rw [ec]
  have hcl : (cntI p.Account b).length ≤ 512 := mkIdx_len hb (wf_win hw') _
  have hie := items_eq (v := ⟨b, p.Account, (baseSpec p.Account.Tariffs b.When).1, cntI p.Account b, ()⟩) hb h1 h2 hw' hit rfl hcl (fun j hj => by
    dsimp only at hj ⊢
    rw [ix_nat hj]
    exact (mkIdx_ok hb (wf_win hw') (h := b.Household) (List.getElem_mem hj)).1) ((0 : Nat) : Int) [] (by simp)
  dsimp only at hie
  rw [hie, show ((0 : Nat) : Int) = 0 from rfl, hno, Option.bind_some, ck_yes (by omega)]
  have htl : (List.take (Int.toNat 0) p.Bills).length = 0 := by simp
  rw [loop_app 0 (fun _ => ([] : List ApiFinding)) (fun F => .next F) 16000 _ (by simp) (fun i hi => by simp) (fun j G hj hG => absurd hj (by omega)) (fun G => by dsimp only; rw [htl, if_neg (by omega)]) (by omega)]
  rw [andThen_next, ck_yes (by unfold I64; omega)]
  rfl
/-! ### The items of a made bill -/
theorem hasB_mem {l : List ApiItem} {x : ApiItem} (h : x ∈ l) : hasB l x = true := by
  unfold hasB
  rw [List.any_eq_true]
  exact ⟨x, h, by simp⟩
theorem it_kinds {t : ApiTariff} {x : ApiEmptying} (h : (itSpec t x).2 = 0) : (∀ y ∈ (itSpec t x).1, (y.Kind = 2 ∨ y.Kind = 3) ∧ y.Ref = x.ID) ∧ ∃ y ∈ (itSpec t x).1, y.Kind = 2 ∧ y.Ref = x.ID := by
  unfold itSpec at h ⊢
  split at h
  · cases h
  · rename_i h1
    rw [if_neg h1]
    split
    · refine ⟨fun y hy => ?_, _, List.mem_cons_self .., rfl, rfl⟩
      rcases List.mem_cons.1 hy with rfl | hy
      · exact ⟨.inl rfl, rfl⟩
      · rw [List.mem_singleton] at hy
        subst hy
        exact ⟨.inr rfl, rfl⟩
    · refine ⟨fun y hy => ?_, _, List.mem_cons_self .., rfl, rfl⟩
      rw [List.mem_singleton] at hy
      subst hy
      exact ⟨.inl rfl, rfl⟩
theorem recI_uniq {a : ApiAccount} (hb : bilSpec a = 0) {j : Int} (hj : 0 ≤ j ∧ j < a.Emptyings.length) : recI a (ix a.Emptyings j).ID = j := by
  obtain ⟨x, rfl⟩ := Int.eq_ofNat_of_zero_le hj.1
  have hxl : x < a.Emptyings.length := by omega
  obtain ⟨_, h2, _⟩ := bilSpec_zero hb
  obtain ⟨_, _, hnd⟩ := emCheck_zero h2
  have hn : ¬ recI a (ix a.Emptyings (x : Int)).ID < 0 := fun hneg => by
    have := idx_neg hneg _ (List.getElem_mem hxl)
    rw [ix_nat hxl] at this
    simp at this
  obtain ⟨i1, i2, i3⟩ := recI_ok hn
  obtain ⟨y, hy⟩ := Int.eq_ofNat_of_zero_le i1
  have hyl : y < a.Emptyings.length := by omega
  have := nodup_get hnd (i := x) (j := y) (by simpa using hxl) (by simpa using hyl) (by
    rw [List.getElem_map, List.getElem_map]
    rw [hy, ix_nat hyl, ix_nat hxl] at i3
    exact i3.symm)
  rw [hy, ← this]
section
variable {a : ApiAccount} {h : Int} {w : ApiWindow} (hb : bilSpec a = 0) (hs : (baseSpec a.Tariffs w).2 = 0)
include hb hs
theorem em_item {j : Int} (hj : j ∈ mkIdx a h w) : (atF a.Tariffs (Int.tdiv (ix a.Emptyings j).At 86400)).2 = 0 ∧ (∀ y ∈ emIt a j, (y.Kind = 2 ∨ y.Kind = 3) ∧ y.Ref = (ix a.Emptyings j).ID) ∧ ∃ y ∈ emIt a j, y.Kind = 2 ∧ y.Ref = (ix a.Emptyings j).ID := by
  obtain ⟨k, e, hk⟩ := at_ok hb hs hj
  have hi := it_ok hb (mkIdx_ok hb (baseSpec_zero hs).2.1 hj).1 hk
  refine ⟨by rw [e], ?_⟩
  unfold emIt
  rw [e]
  exact it_kinds hi.1
theorem em_rec {j : Int} (hj : j ∈ mkIdx a h w) (b : ApiBill) (hh : b.Household = h) (hw : b.When = w) : recB a b (ix a.Emptyings j).ID = true := by
  have hm := mkIdx_ok hb (baseSpec_zero hs).2.1 hj
  have hf := hj
  rw [(emOf_ok hb (baseSpec_zero hs).2.1 h).2, List.mem_filter] at hf
  have hmine := hf.2
  unfold emMine at hmine
  rw [Bool.and_eq_true, decide_eq_true_eq] at hmine
  unfold recB recM
  rw [recI_uniq hb hm.1, hh, hw, hmine.2]
  simp only [Bool.and_eq_true, decide_eq_true_eq]
  exact ⟨hm.1.1, ⟨trivial, hm.2.1⟩, hm.2.2⟩
theorem mk_right (b : ApiBill) (hh : b.Household = h) (hw : b.When = w) {x : ApiItem} (hx : x ∈ mkItems a h w) : rightB a b x = true := by
  unfold mkItems at hx
  unfold rightB
  rcases List.mem_append.1 hx with hx | hx
  · have hk : x.Kind = 1 := by
      obtain ⟨i, hi, hx⟩ := List.mem_flatMap.1 hx
      unfold baseI at hx
      split at hx
      · rw [List.mem_singleton] at hx
        rw [hx]
      · cases hx
    rw [if_pos hk, hw, (baseSpec_zero hs).1]
    exact hasB_mem hx
  · obtain ⟨j, hj, hx⟩ := List.mem_flatMap.1 hx
    obtain ⟨e0, hk, _⟩ := em_item hb hs hj
    have hk := hk x hx
    have hm := mkIdx_ok hb (baseSpec_zero hs).2.1 hj
    rw [if_neg (by omega), if_neg (by omega), if_pos hk.1, hk.2, em_rec hb hs hj b hh hw, Bool.true_and]
    unfold wgtB
    rw [hk.2, recI_uniq hb hm.1, e0, decide_eq_true rfl, Bool.true_and]
    exact hasB_mem hx
theorem made_none (b : ApiBill) (hh : b.Household = h) (hw : b.When = w) (hi : b.Items = mkItems a h w) (ht : b.Total = sumA (mkItems a h w)) : itemsF a b (baseSpec a.Tariffs b.When).1 (cntI a b) 0 = [] := by
  have hc : cntI a b = mkIdx a h w := by unfold cntI; rw [hh, hw]
  have hbz := baseSpec_zero hs
  have t1 : totB b = true := by
    unfold totB
    rw [Bool.and_eq_true, List.all_eq_true, decide_eq_true_eq, hi, ht]
    refine ⟨fun x hx => ?_, rfl⟩
    have := mkItems_ok hb hs h x hx
    unfold inAmt
    simp
    omega
  have t2 : ((baseSpec a.Tariffs b.When).1.any fun x => !hasB b.Items x) = false := by
    rw [List.any_eq_false, hw, hbz.1, hi]
    intro x hx
    rw [show hasB (mkItems a h w) x = true from hasB_mem (List.mem_append_left _ hx)]
    decide
  have mem : ∀ {i : Nat}, i < b.Items.length → ix b.Items (i : Int) ∈ mkItems a h w := fun {i} hil => by rw [ix_nat hil, ← hi]; exact List.getElem_mem hil
  unfold itemsF
  rw [hc, t1, t2, apps_nil (g := gRight a b 0) fun i hil => ?_, apps_nil (g := gMiss a b 0 (mkIdx a h w)) fun j hj => ?_, apps_nil (g := gChg a b 0 (mkIdx a h w)) fun i hil => ?_]
  · rfl
  · unfold gChg
    have hm := mem hil
    unfold mkItems at hm
    rcases List.mem_append.1 hm with hx | hx
    · obtain ⟨i', hi', hx⟩ := List.mem_flatMap.1 hx
      unfold baseI at hx
      split at hx
      · rw [List.mem_singleton] at hx
        rw [hx]
        rfl
      · cases hx
    · obtain ⟨j, hj, hx⟩ := List.mem_flatMap.1 hx
      have hk := (em_item hb hs hj).2.1 _ hx
      have hmj := mkIdx_ok hb hbz.2.1 hj
      have hct : (mkIdx a h w).contains j = true := List.contains_iff_mem.2 hj
      rw [hk.2, recI_uniq hb hmj.1, hct, Bool.not_true, Bool.and_false, Bool.false_and, Bool.and_false]
      rfl
  · unfold gMiss
    have hjm : ix (mkIdx a h w) (j : Int) ∈ mkIdx a h w := by rw [ix_nat hj]; exact List.getElem_mem hj
    obtain ⟨_, _, y, hy, hk, hr⟩ := em_item hb hs hjm
    have : b.Items.any (emP (ix a.Emptyings (ix (mkIdx a h w) (j : Int))).ID) = true := by
      rw [List.any_eq_true, hi]
      refine ⟨y, List.mem_append_right _ (List.mem_flatMap.2 ⟨_, hjm, hy⟩), ?_⟩
      unfold emP
      rw [hk, hr]
      simp
    rw [this]
    rfl
  · unfold gRight
    rw [mk_right hb hs b hh hw (mem hil)]
    rfl
end
theorem mkSpec_zero {a : ApiAccount} {id h : Int} {w : ApiWindow} (hz : (mkSpec a id h w).2 = 0) : bilSpec a = 0 ∧ (0 ≤ h ∧ h < a.Households.length) ∧ ¬ winBad w ∧ (baseSpec a.Tariffs w).2 = 0 ∧ (mkItems a h w).length ≤ 512 ∧ (mkSpec a id h w).1 = ⟨id, h, w, mkItems a h w, sumA (mkItems a h w)⟩ := by
  unfold mkSpec at hz ⊢
  split at hz
  · exact absurd hz ‹_›
  · rename_i h1
    split at hz
    · cases hz
    · rename_i h2
      split at hz
      · cases hz
      · rename_i h3
        split at hz
        · cases hz
        · rename_i h4
          split at hz
          · exact absurd hz ‹_›
          · rename_i h5
            split at hz
            · cases hz
            · rename_i h6
              split at hz
              · cases hz
              · rename_i h7
                rw [if_neg h1, if_neg h2, if_neg h3, if_neg h4, if_neg h5, if_neg h6, if_neg h7]
                exact ⟨Decidable.not_not.1 h1, by omega, h4, Decidable.not_not.1 h5, by omega, rfl⟩
theorem lawMade_eq (a : ApiAccount) (h : Int) (w : ApiWindow) : m_recyclinglaw59_AuditMade 40000 a h w = some true := by
  unfold m_recyclinglaw59_AuditMade
  have he : m_exampleHolds 40000 = some true := rfl
  rw [he]
  split
  · rfl
  · rename_i hl
    simp only [Bool.or_eq_true, decide_eq_true_eq, not_or] at hl
    rw [make_eq, Option.bind_some]
    by_cases hz : (mkSpec a 1 h w).2 = 0
    · obtain ⟨hb, hh, hwin, hs, hlen, hm⟩ := mkSpec_zero hz
      have hwf : bwfB a (mkSpec a 1 h w).1 = true := by
        rw [hm]
        unfold winBad at hwin
        unfold bwfB
        simp
        omega
      have hno := made_none hb hs (mkSpec a 1 h w).1 (by rw [hm]) (by rw [hm]) (by rw [hm]) (by rw [hm])
      have hit : (mkSpec a 1 h w).1.Items.length ≤ 512 := mkSpec_len a 1 h w
      rw [callIf_yes (by rw [hz]; decide), bilRef_eq, Option.bind_some, hb, if_neg (by rw [hz]; simp; omega)]
      rw [progOne_eq (p := ⟨0, a, [], 0, 0, [], [], [], [], [], [], [], [(mkSpec a 1 h w).1], []⟩) rfl hb (by dsimp only; omega) (by dsimp only; omega) hit hwf hno, Option.bind_some]
      rfl
    · rw [callIf_no (by simp [hz]), if_pos (by simp [hz])]
      rfl
end Go.Proofs.YtbnimhmoffchdaaGreatDoor
