/- Layer 59 in plain words: AuditBills. -/
import Derived.Test.YtbnimhmoffchdaaGreatDoorAuP10
namespace Go.Proofs.YtbnimhmoffchdaaGreatDoor
attribute [local instance] jfTrue

def lightP (p : ApiBooks) : Prop := p.Account.Emptyings.length ≤ 60 ∧ p.Account.Assigns.length ≤ 60 ∧ p.Bills.length ≤ 20 ∧ ∀ x ∈ p.Bills, x.Items.length ≤ 60
theorem light_eq (p : ApiBooks) : ∃ r, m_recyclinglaw59_light 40000 p = some r ∧ (r = true → lightP p) := by
  unfold m_recyclinglaw59_light
  split
  · exact ⟨false, rfl, fun h => by cases h⟩
  · rename_i h
    simp only [Bool.or_eq_true, decide_eq_true_eq, not_or] at h
    refine then_postE (N := 40000) (fun r => r = true → lightP p) p.Bills.length (fun (_ : Unit) i => i) (fun _ => ()) (fun i _ => ∀ x ∈ p.Bills.take i, x.Items.length ≤ 60) () rfl (by simp) (by omega) (fun i t hi hv => ?_) (fun t _ => by rw [if_neg (by omega)]) (fun t ht => ⟨true, rfl, fun _ => ?_⟩)
    · rw [if_pos (by omega), ck_yes (by omega), ck_yes (by omega), ix_nat hi]
      split
      · exact .inr ⟨false, rfl, fun h => by cases h⟩
      · rename_i h2
        left
        rw [ck_yes (by unfold I64; omega)]
        refine ⟨(), rfl, fun x hx => ?_⟩
        rcases (mem_take_succ hi).1 hx with hx | hx
        · exact hv x hx
        · rw [hx]
          rw [Bool.or_eq_true, not_or, decide_eq_true_eq] at h2
          omega
    · rw [List.take_length] at ht
      exact ⟨by omega, by omega, by omega, ht⟩
theorem ix_mem {α : Type} [Inhabited α] {l : List α} {i : Nat} (h : i < l.length) : ix l (i : Int) ∈ l := by rw [ix_nat h]; exact List.getElem_mem h
theorem billF_len {p : ApiBooks} (hb : bilSpec p.Account = 0) {k : Nat} (hk : k ≤ 20) (hi : (ix p.Bills k).Items.length ≤ 60) : (billF p k).length ≤ 700 := by
  unfold billF
  split
  · rename_i hv
    have hw := bwfB_wf hv
    have hcl : (cntI p.Account (ix p.Bills k)).length ≤ 512 := mkIdx_len hb (wf_win hw) _
    have l0 := one_len (!totB (ix p.Bills k)) ⟨10, k, 0⟩
    have l1 := apps_len (g := gRight p.Account (ix p.Bills k) k) (ix p.Bills k).Items.length fun i hi => one_len _ _
    have l2 := one_len ((baseSpec p.Account.Tariffs (ix p.Bills k).When).1.any fun x => !hasB (ix p.Bills k).Items x) ⟨12, k, 0⟩
    have l3 := apps_len (g := gMiss p.Account (ix p.Bills k) k (cntI p.Account (ix p.Bills k))) (cntI p.Account (ix p.Bills k)).length fun i hi => one_len _ _
    have l4 := apps_len (g := gChg p.Account (ix p.Bills k) k (cntI p.Account (ix p.Bills k))) (ix p.Bills k).Items.length fun i hi => one_len _ _
    have l5 := apps_len (g := gOver p k) k fun i hi => one_len _ _
    unfold itemsF
    simp only [List.length_append]
    omega
  · simp
noncomputable def billsF (p : ApiBooks) : List ApiFinding × Int := if bilSpec p.Account ≠ 0 then ([], bilSpec p.Account) else (apps p.Bills.length (billF p), 0)
theorem refBills_eq {p : ApiBooks} (hl : lightP p) : m_recyclingref59_Bills 40000 p = some (billsF p) := by
  obtain ⟨h1, h2, h3, h4⟩ := hl
  unfold m_recyclingref59_Bills billsF
  rw [if_neg (by omega)]
  refine then_ex (N := 40000) p.Bills.length (fun (_ : Unit) i => i) (fun _ => ()) (fun _ _ => True) () rfl trivial (by omega) (fun i t hi hv => ⟨(), ?_, trivial⟩) (fun t _ => by rw [if_neg (by omega)]) (fun t ht => ?_)
  · have := h4 _ (ix_mem hi)
    rw [if_pos (by omega), ck_yes (by omega), if_neg (by omega), ck_yes (by unfold I64; omega)]
  · rw [bilRef_eq, Option.bind_some]
    by_cases hb : bilSpec p.Account = 0
    · rw [if_neg (by omega), if_neg (by omega)]
      refine then_ex (N := 40000) p.Bills.length (fun (F : List ApiFinding) i => (F, i)) (fun F => F) (fun i F => F = apps i (billF p) ∧ F.length ≤ 700 * i) [] rfl ⟨rfl, by simp⟩ (by omega) (fun i F hi hv => ?_) (fun F _ => by dsimp only; rw [if_neg (by omega)]) (fun F hF => ?_)
      · have hit := h4 _ (ix_mem hi)
        have hlen := billF_len hb (k := i) (by omega) hit
        refine ⟨F ++ billF p i, ?_, by rw [apps_succ, hv.1], by rw [List.length_append]; omega⟩
        dsimp only
        rw [if_pos (by omega), refBill_eq hb h1 h2 hi h3 hit, Option.bind_some, ck_yes (by omega), ck_yes (by unfold I64; omega)]
      · rw [hF.1]
    · rw [if_pos hb, if_pos hb]
theorem progBills_eq {p : ApiBooks} (hl : lightP p) : m_audit_Bills 40000 p = some (billsF p) := by
  obtain ⟨h1, h2, h3, h4⟩ := hl
  unfold m_audit_Bills billsF
  have hc : m_slices_ContainsFunc_audit_Bills_1 40000 p.Bills = some false := by
    unfold m_slices_ContainsFunc_audit_Bills_1 m_slices_IndexFunc_audit_Bills_1
    rw [contains_loop p.Bills (fun x => decide (512 < (x.Items.length : Int))) (fun i hi => ?_) (by rw [if_neg (by omega)]) (by omega)]
    · congr 1
      rw [List.any_eq_false]
      intro x hx
      have := h4 x hx
      simp
      omega
    · rw [if_pos (by omega), ck_yes (by omega), ix_nat hi]
      unfold m_audit_Bills_1
      rw [Option.bind_some, ck_yes (by unfold I64; omega)]
  rw [decide_eq_false (show ¬ 512 < (p.Bills.length : Int) by omega), callIf_yes (by decide), hc, Option.bind_some, if_neg (by decide), bilProg_eq, Option.bind_some]
  by_cases hb : bilSpec p.Account = 0
  · rw [if_neg (by omega), if_neg (by omega)]
    unfold m_audit_collector
    rw [Option.bind_some]
    refine then_ex (N := 40000) p.Bills.length (fun (F : List ApiFinding) i => (F, i)) (fun F => F) (fun i F => F = apps i (billF p) ∧ F.length ≤ 700 * i) [] rfl ⟨rfl, by simp⟩ (by omega) (fun i F hi hv => ?_) (fun F _ => by dsimp only; rw [if_neg (by omega)]) (fun F hF => ?_)
    · have hit := h4 _ (ix_mem hi)
      have hlen := billF_len hb (k := i) (by omega) hit
      refine ⟨F ++ billF p i, ?_, by rw [apps_succ, hv.1], by rw [List.length_append]; omega⟩
      dsimp only
      rw [if_pos (by omega), ck_yes (by omega)]
      unfold m_audit_valid
      rw [Option.bind_some]
      have ev : (((((decide (0 ≤ (ix p.Bills i).Household)) && (decide ((ix p.Bills i).Household < (List.length p.Account.Households : Int)))) && (decide (0 ≤ (ix p.Bills i).When.From))) && (decide ((ix p.Bills i).When.From ≤ (ix p.Bills i).When.To))) && (decide ((ix p.Bills i).When.To ≤ 36525))) = bwfB p.Account (ix p.Bills i) := rfl
      rw [ev]
      unfold billF
      cases hv' : bwfB p.Account (ix p.Bills i) with
      | false =>
        rw [if_pos (by decide), collect_eq (by omega), Option.bind_some, andThen_next, ck_yes (by unfold I64; omega), if_neg (by decide)]
      | true =>
        have hw := bwfB_wf hv'
        have hwin := hw
        unfold wfB at hwin
        rw [if_neg (by decide), if_pos rfl, baseProg_eq (by omega), Option.bind_some]
        unfold m_audit_invoice_moments
        dsimp only
        rw [ck_yes (by unfold I64; omega), ck_yes (by unfold I64; omega), Option.bind_some, progOf_eq (by omega) _ (by omega) (by omega), Option.bind_some]
        have ec : (emOf p.Account.Emptyings p.Account.Assigns (ix p.Bills i).Household (ApiWindow.mk ((ix p.Bills i).When.From * 86400) ((ix p.Bills i).When.To * 86400)) p.Account.Gap).1 = cntI p.Account (ix p.Bills i) := rfl
        rw [ec]
        have hcl : (cntI p.Account (ix p.Bills i)).length ≤ 512 := mkIdx_len hb (wf_win hw) _
        rw [items_eq (v := ⟨ix p.Bills i, p.Account, (baseSpec p.Account.Tariffs (ix p.Bills i).When).1, cntI p.Account (ix p.Bills i), ()⟩) hb h1 h2 hw hit rfl hcl (fun j hj => by
          dsimp only at hj ⊢
          rw [ix_nat hj]
          exact (mkIdx_ok hb (wf_win hw) (h := (ix p.Bills i).Household) (List.getElem_mem hj)).1) i F (by omega), Option.bind_some, ck_yes (by omega)]
        have hF2 : (F ++ itemsF p.Account (ix p.Bills i) (baseSpec p.Account.Tariffs (ix p.Bills i).When).1 (cntI p.Account (ix p.Bills i)) i).length ≤ 16000 := by
          have l0 := one_len (!totB (ix p.Bills i)) ⟨10, i, 0⟩
          have l1 := apps_len (g := gRight p.Account (ix p.Bills i) i) (ix p.Bills i).Items.length fun i hi => one_len _ _
          have l2 := one_len ((baseSpec p.Account.Tariffs (ix p.Bills i).When).1.any fun x => !hasB (ix p.Bills i).Items x) ⟨12, i, 0⟩
          have l3 := apps_len (g := gMiss p.Account (ix p.Bills i) i (cntI p.Account (ix p.Bills i))) (cntI p.Account (ix p.Bills i)).length fun i hi => one_len _ _
          have l4 := apps_len (g := gChg p.Account (ix p.Bills i) i (cntI p.Account (ix p.Bills i))) (ix p.Bills i).Items.length fun i hi => one_len _ _
          unfold itemsF
          simp only [List.length_append]
          omega
        have htl : (List.take (Int.toNat (i : Int)) p.Bills).length = i := by rw [List.length_take]; omega
        rw [loop_app i (gOver p i) (fun F => .next F) 16000 _ hF2 (fun i hi => one_len _ _) (fun j G hj hG => ?_) (fun G => by dsimp only; rw [htl, if_neg (by omega)]) (by omega)]
        · rw [andThen_next, ck_yes (by unfold I64; omega), List.append_assoc]
        · dsimp only
          have hjl : j < (List.take (Int.toNat (i : Int)) p.Bills).length := by omega
          have ex : ix (List.take (Int.toNat (i : Int)) p.Bills) (j : Int) = ix p.Bills (j : Int) := by
            rw [ix_nat hjl, ix_nat (show j < p.Bills.length by omega), List.getElem_take]
          rw [htl, if_pos (by omega), ck_yes (by omega), Option.bind_some, ex]
          unfold gOver one overB bwfB
          split
          · rw [collect_eq (by omega), Option.bind_some, andThen_next, ck_yes (by unfold I64; omega)]
          · rw [andThen_next, ck_yes (by unfold I64; omega), List.append_nil]
    · rw [hF.1]
  · rw [if_pos hb, if_pos hb]
theorem fsame_eq {N : Nat} {a : List ApiFinding} (ha : a.length < N) (hb : a.length < 4611686018427387904) : m_recyclingref59_Same N a a = some true := by
  unfold m_recyclingref59_Same
  rw [if_neg (by omega)]
  refine then_ex a.length (fun (_ : Unit) (i : Int) => i) (fun _ => ()) (fun i _ => True) () rfl trivial ha (fun i t hi hv => ⟨(), ?_, trivial⟩) (fun t _ => ?_) (fun t ht => rfl)
  · rw [if_pos (by omega), ck_yes (by omega), ck_yes (by omega), if_neg (by simp), ck_yes (by unfold I64; omega)]
  · rw [if_neg (by omega)]
theorem billsF_len {p : ApiBooks} (hl : lightP p) : (billsF p).1.length ≤ 14000 := by
  obtain ⟨_, _, h3, h4⟩ := hl
  unfold billsF
  split
  · simp
  · rename_i hb
    have key : ∀ n, n ≤ p.Bills.length → (apps n (billF p)).length ≤ 700 * n := fun n => by
      induction n with
      | zero => intro _; simp [apps]
      | succ n ih =>
        intro hn
        have h1 := ih (by omega)
        have h2 := billF_len (p := p) (by omega) (k := n) (by omega) (h4 _ (ix_mem (by omega)))
        rw [apps_succ, List.length_append]
        omega
    have := key p.Bills.length (Nat.le_refl _)
    dsimp only
    omega
theorem lawBills_eq (p : ApiBooks) : m_recyclinglaw59_AuditBills 40000 p = some true := by
  unfold m_recyclinglaw59_AuditBills
  have hex : m_exampleHolds 40000 = some true := rfl
  obtain ⟨r, e, h⟩ := light_eq p
  rw [e, Option.bind_some]
  cases r with
  | false => rw [if_pos (by decide), hex]; rfl
  | true =>
    have hl := h rfl
    have hn := billsF_len hl
    rw [if_neg (by decide), refBills_eq hl, Option.bind_some, progBills_eq hl, Option.bind_some, decide_eq_true (show (billsF p).2 = (billsF p).2 from rfl), callIf_yes rfl, fsame_eq (by omega) (by omega), Option.bind_some, callIf_yes (by decide), hex]
    rfl
end Go.Proofs.YtbnimhmoffchdaaGreatDoor
