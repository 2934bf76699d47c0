/- Layer 59 in plain words: the program's examination of one bill. -/
import Derived.Test.YtbnimhmoffchdaaGreatDoorWAu6
namespace Go.Proofs.YtbnimhmoffchdaaGreatDoor
attribute [local instance] jfTrue

theorem items_eq {v : AuditInvoice} (hb : bilSpec v.account_ = 0) (hl : v.account_.Emptyings.length ≤ 60) (ha : v.account_.Assigns.length ≤ 60) (hw : wfB v.account_ v.Bill) (hi : v.Bill.Items.length ≤ 512)
    (hbase : v.base_ = (baseSpec v.account_.Tariffs v.Bill.When).1) (hcl : v.counted_.length ≤ 512) (hcm : ∀ j, j < v.counted_.length → 0 ≤ ix v.counted_ (j : Int) ∧ ix v.counted_ (j : Int) < v.account_.Emptyings.length) (k : Int) (F0 : List ApiFinding) (hF : F0.length ≤ 50000) :
    m_audit_invoice_items 40000 v () F0 k = some (F0 ++ itemsF v.account_ v.Bill v.base_ v.counted_ k) := by
  have hbl : v.base_.length ≤ 8 := by rw [hbase]; exact baseSpec_len _ _
  unfold m_audit_invoice_items
  have e1 : (Option.bind (m_audit_invoice_balanced 40000 v) fun r462 => (if (!r462) = true then Option.bind (m_audit_collector_1 40000 (10 : Int) k (0 : Int) () F0) fun _ => some (Step.next (ρ := List ApiFinding) (F0 ++ ([(ApiFinding.mk (10 : Int) k (0 : Int))]))) else some (.next F0))) = some (.next (F0 ++ one (!totB v.Bill) ⟨10, k, 0⟩)) := by
    rw [balanced_eq v hi, Option.bind_some, collect_eq (by omega), Option.bind_some]
    unfold one
    split
    · rfl
    · rw [List.append_nil]
  rw [e1, andThen_next]
  have l1 := one_len (!totB v.Bill) ⟨10, k, 0⟩
  rw [loop_app v.Bill.Items.length (gRight v.account_ v.Bill k) (fun F => .next F) 50001 _ (by rw [List.length_append]; omega) (fun i hi => one_len _ _) (fun i F hi hFl => ?_) (fun F => by dsimp only; rw [if_neg (by omega)]) (by omega), andThen_next]
  · have l2 := apps_len (g := gRight v.account_ v.Bill k) v.Bill.Items.length fun i hi => one_len _ _
    generalize hF2 : F0 ++ one (!totB v.Bill) ⟨10, k, 0⟩ ++ apps v.Bill.Items.length (gRight v.account_ v.Bill k) = F2
    have lF2 : F2.length ≤ 50600 := by rw [← hF2, List.length_append, List.length_append]; omega
    have e2 : (Option.bind (m_slices_ContainsFunc_audit_invoice_items_1 40000 v.base_ () v) fun r596 => (if r596 = true then Option.bind (m_audit_collector_1 40000 (12 : Int) k (0 : Int) () F2) fun _ => some (Step.next (ρ := List ApiFinding) (F2 ++ ([(ApiFinding.mk (12 : Int) k (0 : Int))]))) else some (.next F2))) = some (.next (F2 ++ one (v.base_.any fun x => !hasB v.Bill.Items x) ⟨12, k, 0⟩)) := by
      rw [missBase_eq v hi hbl, Option.bind_some, collect_eq (by omega), Option.bind_some]
      unfold one
      split
      · rfl
      · rw [List.append_nil]
    rw [e2, andThen_next]
    have l3 := one_len (v.base_.any fun x => !hasB v.Bill.Items x) ⟨12, k, 0⟩
    rw [loop_app v.counted_.length (gMiss v.account_ v.Bill k v.counted_) (fun F => .next F) 50601 _ (by rw [List.length_append]; omega) (fun i hi => one_len _ _) (fun i F hi' hFl => ?_) (fun F => by dsimp only; rw [if_neg (by omega)]) (by omega), andThen_next]
    · have l4 := apps_len (g := gMiss v.account_ v.Bill k v.counted_) v.counted_.length fun i hi => one_len _ _
      rw [loop_app v.Bill.Items.length (gChg v.account_ v.Bill k v.counted_) (fun F => F) 52000 _ (by rw [List.length_append, List.length_append]; omega) (fun i hi => one_len _ _) (fun i F hi' hFl => ?_) (fun F => by dsimp only; rw [if_neg (by omega)]) (by omega)]
      · rw [← hF2]
        unfold itemsF
        simp only [List.append_assoc]
      · dsimp only
        rw [if_pos (by omega), ck_yes (by omega)]
        unfold gChg one
        by_cases hk : (ix v.Bill.Items (i : Int)).Kind = 2
        · rw [decide_eq_true hk, decide_eq_false (show ¬ (ix v.Bill.Items (i : Int)).Kind ≠ 2 by omega), callIf_yes (by decide), charges_eq v hi, Option.bind_some, Bool.false_or, Bool.true_and]
          by_cases hc : chgI v.Bill (ix v.Bill.Items (i : Int)).Ref = (i : Int)
          · rw [decide_eq_true hc, decide_eq_false (show ¬ chgI v.Bill (ix v.Bill.Items (i : Int)).Ref ≠ (i : Int) by omega), if_neg (by decide), record_eq hl ha hw, Option.bind_some, Bool.true_and]
            dsimp only
            cases hr : recB v.account_ v.Bill (ix v.Bill.Items (i : Int)).Ref with
            | false =>
              rw [callIf_no (by decide), Bool.false_and, callIf_no (by decide), Bool.false_and, Bool.false_and, Bool.false_and, if_neg (by decide), if_neg (by decide), andThen_next, ck_yes (by unfold I64; omega), List.append_nil]
            | true =>
              have hn : ¬ recI v.account_ (ix v.Bill.Items (i : Int)).Ref < 0 := by
                unfold recB at hr
                rw [Bool.and_eq_true, decide_eq_true_eq] at hr
                omega
              rw [callIf_yes (by decide), if_neg hn, has73_eq _ _ (by omega), Option.bind_some, Bool.true_and]
              cases hcn : v.counted_.contains (recI v.account_ (ix v.Bill.Items (i : Int)).Ref) with
              | true =>
                rw [callIf_no (by decide), if_neg (by simp), if_neg (by simp), andThen_next, ck_yes (by unfold I64; omega), List.append_nil]
              | false =>
                rw [callIf_yes (by decide), credited_eq v hi, Option.bind_some]
                cases hcr : decide (credS (ix v.Bill.Items (i : Int)).Ref v.Bill.Items = 0) with
                | true => rw [if_neg (by decide), if_neg (by decide), andThen_next, ck_yes (by unfold I64; omega), List.append_nil]
                | false => rw [if_pos (by decide), if_pos (by decide), collect_eq (by omega), Option.bind_some, andThen_next, ck_yes (by unfold I64; omega)]
          · rw [decide_eq_false hc, decide_eq_true (show chgI v.Bill (ix v.Bill.Items (i : Int)).Ref ≠ (i : Int) from hc), if_pos (by decide), andThen_next, ck_yes (by unfold I64; omega), Bool.false_and, if_neg (by decide), List.append_nil]
        · rw [decide_eq_false hk, decide_eq_true (show (ix v.Bill.Items (i : Int)).Kind ≠ 2 from hk), callIf_no (by decide), Bool.true_or, if_pos (by decide), andThen_next, ck_yes (by unfold I64; omega), Bool.false_and, Bool.false_and, if_neg (by decide), List.append_nil]
    · dsimp only
      rw [if_pos (by omega), ck_yes (by omega), ck_yes (hcm i hi'), charges_eq v hi, Option.bind_some]
      unfold gMiss one
      have he : v.Bill.Items.any (emP (ix v.account_.Emptyings (ix v.counted_ (i : Int))).ID) = decide (0 ≤ chgI v.Bill (ix v.account_.Emptyings (ix v.counted_ (i : Int))).ID) := (idx_any _ _).symm
      rw [he]
      by_cases hc : chgI v.Bill (ix v.account_.Emptyings (ix v.counted_ (i : Int))).ID < 0
      · rw [if_pos hc, decide_eq_false (by omega), if_pos (by decide), collect_eq (by omega), Option.bind_some, andThen_next, ck_yes (by unfold I64; omega)]
      · rw [if_neg hc, decide_eq_true (by omega), if_neg (by decide), andThen_next, ck_yes (by unfold I64; omega), List.append_nil]
  · dsimp only
    rw [if_pos (by omega), ck_yes (by omega), right59_eq hb hl ha hw hbase, Option.bind_some]
    unfold gRight one
    cases hr : rightB v.account_ v.Bill (ix v.Bill.Items (i : Int)) with
    | false => rw [if_pos (by decide), if_pos (by decide), collect_eq (by omega), Option.bind_some, andThen_next, ck_yes (by unfold I64; omega)]
    | true => rw [if_neg (by decide), if_neg (by decide), andThen_next, ck_yes (by unfold I64; omega), List.append_nil]
end Go.Proofs.YtbnimhmoffchdaaGreatDoor
