/- Layer 59 in plain words: the reference's bill. -/
import Derived.Test.YtbnimhmoffchdaaGreatDoorAuQ
namespace Go.Proofs.YtbnimhmoffchdaaGreatDoor
attribute [local instance] jfTrue

def bwfB (a : ApiAccount) (b : ApiBill) : Bool := ((((decide (0 ≤ b.Household)) && (decide (b.Household < (List.length a.Households : Int)))) && (decide (0 ≤ b.When.From))) && (decide (b.When.From ≤ b.When.To))) && (decide (b.When.To ≤ 36525))
theorem bwfB_wf {a : ApiAccount} {b : ApiBill} (h : bwfB a b = true) : wfB a b := by
 unfold bwfB at h
 unfold wfB
 simp at h
 omega
def overB (a : ApiAccount) (b y : ApiBill) : Bool := (bwfB a y && decide (y.Household = b.Household)) && decide (max b.When.From y.When.From < min b.When.To y.When.To)
def gOver (p : ApiBooks) (k : Nat) (j : Nat) : List ApiFinding := one (overB p.Account (ix p.Bills k) (ix p.Bills j)) ⟨14, k, j⟩
noncomputable def billF (p : ApiBooks) (k : Nat) : List ApiFinding :=
 if bwfB p.Account (ix p.Bills k) = true then itemsF p.Account (ix p.Bills k) (baseSpec p.Account.Tariffs (ix p.Bills k).When).1 (cntI p.Account (ix p.Bills k)) k ++ apps k (gOver p k) else [⟨11, k, -1⟩]
theorem refBill_eq {p : ApiBooks} (hb : bilSpec p.Account = 0) (hl : p.Account.Emptyings.length ≤ 60) (ha : p.Account.Assigns.length ≤ 60) {k : Nat} (hk : k < p.Bills.length) (hk20 : p.Bills.length ≤ 20) (hi : (ix p.Bills k).Items.length ≤ 60) :
  m_recyclingref59_bill 40000 p k = some (billF p k) := by
 unfold m_recyclingref59_bill billF
 rw [ck_yes (by omega)]
 unfold m_recyclingref59_wellFormed
 rw [Option.bind_some]
 have ev : (((((decide (0 ≤ (ix p.Bills k).Household)) && (decide ((ix p.Bills k).Household < (List.length p.Account.Households : Int)))) && (decide (0 ≤ (ix p.Bills k).When.From))) && (decide ((ix p.Bills k).When.From ≤ (ix p.Bills k).When.To))) && (decide ((ix p.Bills k).When.To ≤ 36525))) = bwfB p.Account (ix p.Bills k) := rfl
 rw [ev]
 cases hv : bwfB p.Account (ix p.Bills k) with
 | false => rw [if_pos (by decide), if_neg (by decide)]
 | true =>
  have hw := bwfB_wf hv
  rw [if_neg (by decide), if_pos rfl]
  generalize hbe : ix p.Bills (k : Int) = b at *
  have hcl : (cntI p.Account b).length ≤ 512 := mkIdx_len hb (wf_win hw) _
  have e1 : (Option.bind (m_recyclingref59_totalRight 40000 b) fun r85 => (if (!r85) = true then ck ((List.length ([] : List ApiFinding) + List.length ([(ApiFinding.mk 10 k 0)])) * 24 ≤ 140737488355328) (some (Step.next (ρ := List ApiFinding) (([] : List ApiFinding) ++ ([(ApiFinding.mk 10 k 0)])))) else some (.next ([] : List ApiFinding)))) = some (.next (one (!totB b) ⟨10, k, 0⟩)) := by
   rw [totalRight_eq b hi, Option.bind_some, ck_yes (by simp)]
   unfold one
   split <;> rfl
  rw [e1, andThen_next]
  have l1 := one_len (!totB b) ⟨10, k, 0⟩
  rw [loop_app b.Items.length (gRight p.Account b k) (fun F => .next F) 1 _ l1 (fun i hi => one_len _ _) (fun i F hi' hFl => ?_) (fun F => by dsimp only; rw [if_neg (by omega)]) (by omega), andThen_next]
  ·have l2 := apps_len (g := gRight p.Account b k) b.Items.length fun i hi => one_len _ _
   generalize hF2 : one (!totB b) ⟨10, (k : Int), 0⟩ ++ apps b.Items.length (gRight p.Account b k) = F2
   have lF2 : F2.length ≤ 61 := by rw [← hF2, List.length_append]; omega
   have l3 := one_len ((baseSpec p.Account.Tariffs b.When).1.any fun x => !hasB b.Items x) ⟨12, k, 0⟩
   have l4 := apps_len (g := gMiss p.Account b k (cntI p.Account b)) (cntI p.Account b).length fun i hi => one_len _ _
   rw [missing_eq hb ha hw hi, Option.bind_some]
   generalize hM : one ((baseSpec p.Account.Tariffs b.When).1.any fun x => !hasB b.Items x) ⟨12, (k : Int), 0⟩ ++ apps (cntI p.Account b).length (gMiss p.Account b k (cntI p.Account b)) = M
   have lM : M.length ≤ 513 := by rw [← hM, List.length_append]; omega
   have hil : (idsI p.Account b).length ≤ 512 := by unfold idsI; simpa using hcl
   rw [ck_yes (by omega), counting59_eq hb ha hw, Option.bind_some]
   have e2 : ((cntI p.Account b).map fun i => (ix p.Account.Emptyings i).ID) = idsI p.Account b := rfl
   rw [e2]
   refine then_ex (N := 40000) b.Items.length (fun (t : List ApiFinding × List Int) i => (t.1, t.2, i)) (fun t => t.1) (fun i t => t.1 = F2 ++ M ++ apps i (gChg p.Account b k (cntI p.Account b)) ∧ t.1.length ≤ 574 + i ∧ t.2.length ≤ i ∧ ∀ r, t.2.contains r = (b.Items.take i).any (emP r)) (F2 ++ M, []) rfl ⟨by simp [apps], by simp; omega, by simp, by simp⟩ (by omega) (fun i t hi' hv => ?_) (fun t _ => by dsimp only; rw [if_neg (by omega)]) (fun t ht => ?_)
   ·obtain ⟨F, S⟩ := t
    obtain ⟨h1, h2, h3, h4⟩ := hv
    dsimp only at h1 h2 h3 h4 ⊢
    rw [if_pos (by omega), ck_yes (by omega), ix_nat hi']
    have hlen1 : (one false (⟨0, 0, 0⟩ : ApiFinding)) = [] := rfl
    have hsk : ∀ g : List ApiFinding, gChg p.Account b k (cntI p.Account b) i = g → F ++ g = F2 ++ M ++ apps (i + 1) (gChg p.Account b k (cntI p.Account b)) := fun g hg => by rw [apps_succ, hg, h1, List.append_assoc]
    by_cases hkd : b.Items[i].Kind = 2
    ·rw [decide_eq_false (show ¬ b.Items[i].Kind ≠ 2 by omega), callIf_yes (by decide), in_eq S _ (by omega), Option.bind_some, Bool.false_or, h4]
     have hcf := chg_first hi' hkd
     cases hs : (b.Items.take i).any (emP b.Items[i].Ref) with
     | true =>
      refine ⟨(F, S), ?_, ?_⟩
      ·rw [if_pos rfl, andThen_next, ck_yes (by unfold I64; omega)]
      ·refine ⟨?_, by dsimp only; omega, by dsimp only; omega, fun r => ?_⟩
       ·have := hsk [] (by unfold gChg; rw [ix_nat hi', hcf, hs]; simp [one])
        rwa [List.append_nil] at this
       ·dsimp only
        rw [h4, any_take_succ (emP r) hi']
        by_cases he : emP r b.Items[i] = true
        ·have hr : b.Items[i].Ref = r := by unfold emP at he; simp at he; exact he.2
         rw [hr] at hs
         rw [hs]; rfl
        ·rw [Bool.not_eq_true] at he
         rw [he, Bool.or_false]
     | false =>
      have hS : ∀ r, (S ++ [b.Items[i].Ref]).contains r = (b.Items.take (i + 1)).any (emP r) := fun r => by
       rw [any_take_succ (emP r) hi', ← h4]
       have e5 : emP r b.Items[i] = decide (b.Items[i].Ref = r) := by unfold emP; rw [decide_eq_true hkd, Bool.true_and]
       rw [e5, Bool.eq_iff_iff]
       simp only [List.contains_iff_mem, List.mem_append, List.mem_singleton, Bool.or_eq_true, decide_eq_true_eq]
       exact or_congr Iff.rfl ⟨Eq.symm, Eq.symm⟩
      rw [if_neg (by decide), ck_yes (by simp; omega), belongs59_eq hl ha hw, Option.bind_some]
      cases hr : recB p.Account b b.Items[i].Ref with
      | false =>
       refine ⟨(F, S ++ [b.Items[i].Ref]), ?_, ?_, by dsimp only; omega, by simp; omega, hS⟩
       ·rw [callIf_no (by decide), Bool.false_and, callIf_no (by decide), Bool.false_and, if_neg (by decide), andThen_next, ck_yes (by unfold I64; omega)]
       ·have := hsk [] (by unfold gChg; rw [ix_nat hi', hr]; simp [one])
        rwa [List.append_nil] at this
      | true =>
       rw [callIf_yes rfl, in_eq (idsI p.Account b) _ (by omega), Option.bind_some, ids_contains hb hw hr, Bool.true_and]
       cases hcn : (cntI p.Account b).contains (recI p.Account b.Items[i].Ref) with
       | true =>
        refine ⟨(F, S ++ [b.Items[i].Ref]), ?_, ?_, by dsimp only; omega, by simp; omega, hS⟩
        ·rw [callIf_no (by decide), if_neg (by simp), andThen_next, ck_yes (by unfold I64; omega)]
        ·have := hsk [] (by unfold gChg; rw [ix_nat hi', hr, hcn]; simp [one])
         rwa [List.append_nil] at this
       | false =>
        rw [callIf_yes (by decide), charged_eq b hi, Option.bind_some]
        by_cases hz : credS b.Items[i].Ref b.Items = 0
        ·refine ⟨(F, S ++ [b.Items[i].Ref]), ?_, ?_, by dsimp only; omega, by simp; omega, hS⟩
         ·rw [if_neg (by simp [hz]), andThen_next, ck_yes (by unfold I64; omega)]
         ·have := hsk [] (by unfold gChg; rw [ix_nat hi', hr, hcn, hz]; simp [one])
          rwa [List.append_nil] at this
        ·refine ⟨(F ++ [⟨13, k, b.Items[i].Ref⟩], S ++ [b.Items[i].Ref]), ?_, ?_, by simp; omega, by simp; omega, hS⟩
         ·rw [if_pos (by simp [hz]), ck_yes (by simp; omega), andThen_next, ck_yes (by unfold I64; omega)]
         ·exact hsk _ (by unfold gChg; rw [ix_nat hi', hcf, hs, hr, hcn, decide_eq_false hz, decide_eq_true hkd]; rfl)
    ·refine ⟨(F, S), ?_, ?_, by dsimp only; omega, by dsimp only; omega, fun r => ?_⟩
     ·rw [decide_eq_true (show b.Items[i].Kind ≠ 2 from hkd), callIf_no (by decide), Bool.true_or, if_pos rfl, andThen_next, ck_yes (by unfold I64; omega)]
     ·have := hsk [] (by unfold gChg; rw [ix_nat hi', decide_eq_false hkd]; simp [one])
      rwa [List.append_nil] at this
     ·dsimp only
      have he : emP r b.Items[i] = false := by unfold emP; rw [decide_eq_false hkd]; rfl
      rw [h4, any_take_succ (emP r) hi', he, Bool.or_false]
   ·obtain ⟨h1, h2, _⟩ := ht
    rw [loop_app k (gOver p k) (fun F => .next F) 634 _ (by omega) (fun i hi => one_len _ _) (fun i F hi' hFl => ?_) (fun F => by dsimp only; rw [if_neg (by omega)]) (by omega), andThen_next]
    ·rw [h1, ← hM, ← hF2]
     unfold itemsF
     simp only [List.append_assoc]
    ·dsimp only
     rw [if_pos (by omega), ck_yes (by omega), Option.bind_some]
     unfold gOver one overB bwfB
     rw [hbe]
     have em : max b.When.From (ix p.Bills (i : Int)).When.From = max (ix p.Bills (i : Int)).When.From b.When.From := by omega
     have en : min b.When.To (ix p.Bills (i : Int)).When.To = min (ix p.Bills (i : Int)).When.To b.When.To := by omega
     rw [em, en]
     split
     ·rw [ck_yes (by simp; omega), andThen_next, ck_yes (by unfold I64; omega)]
     ·rw [andThen_next, ck_yes (by unfold I64; omega), List.append_nil]
  ·dsimp only
   rw [if_pos (by omega), ck_yes (by omega), itemRight_eq hb hl ha hw, Option.bind_some]
   unfold gRight one
   split
   ·rw [ck_yes (by simp; omega), andThen_next, ck_yes (by unfold I64; omega)]
   ·rw [andThen_next, ck_yes (by unfold I64; omega), List.append_nil]
end Go.Proofs.YtbnimhmoffchdaaGreatDoor
namespace Go.Proofs.YtbnimhmoffchdaaGreatDoor
attribute [local instance] jfTrue

def lightP (p : ApiBooks) : Prop := p.Account.Emptyings.length ≤ 60 ∧ p.Account.Assigns.length ≤ 60 ∧ p.Bills.length ≤ 20 ∧ ∀ x ∈ p.Bills, x.Items.length ≤ 60
theorem light_eq (p : ApiBooks) : ∃ r, m_recyclinglaw59_light 40000 p = some r ∧ (r = true → lightP p) := by
 unfold m_recyclinglaw59_light
 split
 ·exact ⟨false, rfl, fun h => by cases h⟩
 ·rename_i h
  simp only [Bool.or_eq_true, decide_eq_true_eq, not_or] at h
  refine then_postE (N := 40000) (fun r => r = true → lightP p) p.Bills.length (fun (_ : Unit) i => i) (fun _ => ()) (fun i _ => ∀ x ∈ p.Bills.take i, x.Items.length ≤ 60) () rfl (by simp) (by omega) (fun i t hi hv => ?_) (fun t _ => by rw [if_neg (by omega)]) (fun t ht => ⟨true, rfl, fun _ => ?_⟩)
  ·rw [if_pos (by omega), ck_yes (by omega), ck_yes (by omega), ix_nat hi]
   split
   ·exact .inr ⟨false, rfl, fun h => by cases h⟩
   ·rename_i h2
    left
    rw [ck_yes (by unfold I64; omega)]
    refine ⟨(), rfl, fun x hx => ?_⟩
    rcases (mem_take_succ hi).1 hx with hx | hx
    ·exact hv x hx
    ·rw [hx]
     rw [Bool.or_eq_true, not_or, decide_eq_true_eq] at h2
     omega
  ·rw [List.take_length] at ht
   exact ⟨by omega, by omega, by omega, ht⟩
theorem ix_mem {α : Type} [Inhabited α] {l : List α} {i : Nat} (h : i < l.length) : ix l (i : Int) ∈ l := by rw [ix_nat h]; exact List.getElem_mem h
theorem billF_len {p : ApiBooks} (hb : bilSpec p.Account = 0) {k : Nat} (hk : k ≤ 20) (hi : (ix p.Bills k).Items.length ≤ 60) : (billF p k).length ≤ 700 := by
 unfold billF
 split
 ·rename_i hv
  have hw := bwfB_wf hv
  have hcl : (cntI p.Account (ix p.Bills k)).length ≤ 512 := mkIdx_len hb (wf_win hw) _
  have l0 := one_len (!totB (ix p.Bills k)) ⟨10, k, 0⟩
  have l1 := apps_len (g := gRight p.Account (ix p.Bills k) k) (ix p.Bills k).Items.length fun i hi => one_len _ _
  have l2 := one_len ((baseSpec p.Account.Tariffs (ix p.Bills k).When).1.any fun x => !hasB (ix p.Bills k).Items x) ⟨12, k, 0⟩
  have l3 := apps_len (g := gMiss p.Account (ix p.Bills k) k (cntI p.Account (ix p.Bills k))) (cntI p.Account (ix p.Bills k)).length fun i hi => one_len _ _
  have l4 := apps_len (g := gChg p.Account (ix p.Bills k) k (cntI p.Account (ix p.Bills k))) (ix p.Bills k).Items.length fun i hi => one_len _ _
  have l5 := apps_len (g := gOver p k) k fun i hi => one_len _ _
  unfold itemsF
  simp only [List.length_append]
  omega
 ·simp
noncomputable def billsF (p : ApiBooks) : List ApiFinding × Int := if bilSpec p.Account ≠ 0 then ([], bilSpec p.Account) else (apps p.Bills.length (billF p), 0)
theorem refBills_eq {p : ApiBooks} (hl : lightP p) : m_recyclingref59_Bills 40000 p = some (billsF p) := by
 obtain ⟨h1, h2, h3, h4⟩ := hl
 unfold m_recyclingref59_Bills billsF
 rw [if_neg (by omega)]
 refine then_ex (N := 40000) p.Bills.length (fun (_ : Unit) i => i) (fun _ => ()) (fun _ _ => True) () rfl trivial (by omega) (fun i t hi hv => ⟨(), ?_, trivial⟩) (fun t _ => by rw [if_neg (by omega)]) (fun t ht => ?_)
 ·have := h4 _ (ix_mem hi)
  rw [if_pos (by omega), ck_yes (by omega), if_neg (by omega), ck_yes (by unfold I64; omega)]
 ·rw [bilRef_eq, Option.bind_some]
  by_cases hb : bilSpec p.Account = 0
  ·rw [if_neg (by omega), if_neg (by omega)]
   refine then_ex (N := 40000) p.Bills.length (fun (F : List ApiFinding) i => (F, i)) (fun F => F) (fun i F => F = apps i (billF p) ∧ F.length ≤ 700 * i) [] rfl ⟨rfl, by simp⟩ (by omega) (fun i F hi hv => ?_) (fun F _ => by dsimp only; rw [if_neg (by omega)]) (fun F hF => ?_)
   ·have hit := h4 _ (ix_mem hi)
    have hlen := billF_len hb (k := i) (by omega) hit
    refine ⟨F ++ billF p i, ?_, by rw [apps_succ, hv.1], by rw [List.length_append]; omega⟩
    dsimp only
    rw [if_pos (by omega), refBill_eq hb h1 h2 hi h3 hit, Option.bind_some, ck_yes (by omega), ck_yes (by unfold I64; omega)]
   ·rw [hF.1]
  ·rw [if_pos hb, if_pos hb]
theorem progBills_eq {p : ApiBooks} (hl : lightP p) : m_audit_Bills 40000 p = some (billsF p) := by
 obtain ⟨h1, h2, h3, h4⟩ := hl
 unfold m_audit_Bills billsF
 have hc : m_slices_ContainsFunc_audit_Bills_1 40000 p.Bills = some false := by
  unfold m_slices_ContainsFunc_audit_Bills_1 m_slices_IndexFunc_audit_Bills_1
  rw [contains_loop p.Bills (fun x => decide (512 < (x.Items.length : Int))) (fun i hi => ?_) (by rw [if_neg (by omega)]) (by omega)]
  ·congr 1
   rw [List.any_eq_false]
   intro x hx
   have := h4 x hx
   simp
   omega
  ·rw [if_pos (by omega), ck_yes (by omega), ix_nat hi]
   unfold m_audit_Bills_1
   rw [Option.bind_some, ck_yes (by unfold I64; omega)]
 rw [decide_eq_false (show ¬ 512 < (p.Bills.length : Int) by omega), callIf_yes (by decide), hc, Option.bind_some, if_neg (by decide), bilProg_eq, Option.bind_some]
 by_cases hb : bilSpec p.Account = 0
 ·rw [if_neg (by omega), if_neg (by omega)]
  unfold m_audit_collector
  rw [Option.bind_some]
  refine then_ex (N := 40000) p.Bills.length (fun (F : List ApiFinding) i => (F, i)) (fun F => F) (fun i F => F = apps i (billF p) ∧ F.length ≤ 700 * i) [] rfl ⟨rfl, by simp⟩ (by omega) (fun i F hi hv => ?_) (fun F _ => by dsimp only; rw [if_neg (by omega)]) (fun F hF => ?_)
  ·have hit := h4 _ (ix_mem hi)
   have hlen := billF_len hb (k := i) (by omega) hit
   refine ⟨F ++ billF p i, ?_, by rw [apps_succ, hv.1], by rw [List.length_append]; omega⟩
   dsimp only
   rw [if_pos (by omega), ck_yes (by omega)]
   unfold m_audit_valid
   rw [Option.bind_some]
   have ev : (((((decide (0 ≤ (ix p.Bills i).Household)) && (decide ((ix p.Bills i).Household < (List.length p.Account.Households : Int)))) && (decide (0 ≤ (ix p.Bills i).When.From))) && (decide ((ix p.Bills i).When.From ≤ (ix p.Bills i).When.To))) && (decide ((ix p.Bills i).When.To ≤ 36525))) = bwfB p.Account (ix p.Bills i) := rfl
   rw [ev]
   unfold billF
   cases hv' : bwfB p.Account (ix p.Bills i) with
   | false =>
    rw [if_pos (by decide), collect_eq (by omega), Option.bind_some, andThen_next, ck_yes (by unfold I64; omega), if_neg (by decide)]
   | true =>
    have hw := bwfB_wf hv'
    have hwin := hw
    unfold wfB at hwin
    rw [if_neg (by decide), if_pos rfl, baseProg_eq (by omega), Option.bind_some]
    unfold m_audit_invoice_moments
    dsimp only
    rw [ck_yes (by unfold I64; omega), ck_yes (by unfold I64; omega), Option.bind_some, progOf_eq (by omega) _ (by omega) (by omega), Option.bind_some]
    have ec : (emOf p.Account.Emptyings p.Account.Assigns (ix p.Bills i).Household (ApiWindow.mk ((ix p.Bills i).When.From * 86400) ((ix p.Bills i).When.To * 86400)) p.Account.Gap).1 = cntI p.Account (ix p.Bills i) := rfl
    rw [ec]
    have hcl : (cntI p.Account (ix p.Bills i)).length ≤ 512 := mkIdx_len hb (wf_win hw) _
    rw [items_eq (v := ⟨ix p.Bills i, p.Account, (baseSpec p.Account.Tariffs (ix p.Bills i).When).1, cntI p.Account (ix p.Bills i), ()⟩) hb h1 h2 hw hit rfl hcl (fun j hj => by
     dsimp only at hj ⊢
     rw [ix_nat hj]
     exact (mkIdx_ok hb (wf_win hw) (h := (ix p.Bills i).Household) (List.getElem_mem hj)).1) i F (by omega), Option.bind_some, ck_yes (by omega)]
    have hF2 : (F ++ itemsF p.Account (ix p.Bills i) (baseSpec p.Account.Tariffs (ix p.Bills i).When).1 (cntI p.Account (ix p.Bills i)) i).length ≤ 16000 := by
     have l0 := one_len (!totB (ix p.Bills i)) ⟨10, i, 0⟩
     have l1 := apps_len (g := gRight p.Account (ix p.Bills i) i) (ix p.Bills i).Items.length fun i hi => one_len _ _
     have l2 := one_len ((baseSpec p.Account.Tariffs (ix p.Bills i).When).1.any fun x => !hasB (ix p.Bills i).Items x) ⟨12, i, 0⟩
     have l3 := apps_len (g := gMiss p.Account (ix p.Bills i) i (cntI p.Account (ix p.Bills i))) (cntI p.Account (ix p.Bills i)).length fun i hi => one_len _ _
     have l4 := apps_len (g := gChg p.Account (ix p.Bills i) i (cntI p.Account (ix p.Bills i))) (ix p.Bills i).Items.length fun i hi => one_len _ _
     unfold itemsF
     simp only [List.length_append]
     omega
    have htl : (List.take (Int.toNat (i : Int)) p.Bills).length = i := by rw [List.length_take]; omega
    rw [loop_app i (gOver p i) (fun F => .next F) 16000 _ hF2 (fun i hi => one_len _ _) (fun j G hj hG => ?_) (fun G => by dsimp only; rw [htl, if_neg (by omega)]) (by omega)]
    ·rw [andThen_next, ck_yes (by unfold I64; omega), List.append_assoc]
    ·dsimp only
     have hjl : j < (List.take (Int.toNat (i : Int)) p.Bills).length := by omega
     have ex : ix (List.take (Int.toNat (i : Int)) p.Bills) (j : Int) = ix p.Bills (j : Int) := by
      rw [ix_nat hjl, ix_nat (show j < p.Bills.length by omega), List.getElem_take]
     rw [htl, if_pos (by omega), ck_yes (by omega), Option.bind_some, ex]
     unfold gOver one overB bwfB
     split
     ·rw [collect_eq (by omega), Option.bind_some, andThen_next, ck_yes (by unfold I64; omega)]
     ·rw [andThen_next, ck_yes (by unfold I64; omega), List.append_nil]
  ·rw [hF.1]
 ·rw [if_pos hb, if_pos hb]
theorem fsame_eq {N : Nat} {a : List ApiFinding} (ha : a.length < N) (hb : a.length < 4611686018427387904) : m_recyclingref59_Same N a a = some true := by
 unfold m_recyclingref59_Same
 rw [if_neg (by omega)]
 refine then_ex a.length (fun (_ : Unit) (i : Int) => i) (fun _ => ()) (fun i _ => True) () rfl trivial ha (fun i t hi hv => ⟨(), ?_, trivial⟩) (fun t _ => ?_) (fun t ht => rfl)
 ·rw [if_pos (by omega), ck_yes (by omega), ck_yes (by omega), if_neg (by simp), ck_yes (by unfold I64; omega)]
 ·rw [if_neg (by omega)]
theorem billsF_len {p : ApiBooks} (hl : lightP p) : (billsF p).1.length ≤ 14000 := by
 obtain ⟨_, _, h3, h4⟩ := hl
 unfold billsF
 split
 ·simp
 ·rename_i hb
  have key : ∀ n, n ≤ p.Bills.length → (apps n (billF p)).length ≤ 700 * n := fun n => by
   induction n with
   | zero => intro _; simp [apps]
   | succ n ih =>
    intro hn
    have h1 := ih (by omega)
    have h2 := billF_len (p := p) (by omega) (k := n) (by omega) (h4 _ (ix_mem (by omega)))
    rw [apps_succ, List.length_append]
    omega
  have := key p.Bills.length (Nat.le_refl _)
  dsimp only
  omega
end Go.Proofs.YtbnimhmoffchdaaGreatDoor
