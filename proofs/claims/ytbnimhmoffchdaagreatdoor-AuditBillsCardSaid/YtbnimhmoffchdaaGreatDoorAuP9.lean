/- Layer 59 in plain words: the reference's findings on one bill. -/
import Derived.Test.YtbnimhmoffchdaaGreatDoorAuP8
namespace Go.Proofs.YtbnimhmoffchdaaGreatDoor
attribute [local instance] jfTrue

theorem apps_succ {γ : Type} (g : Nat → List γ) (n : Nat) : apps (n + 1) g = apps n g ++ g n := by
  unfold apps
  rw [← List.range_eq_range', ← List.range_eq_range', List.range_succ, List.flatMap_append, List.flatMap_cons, List.flatMap_nil, List.append_nil]
theorem chg_first {b : ApiBill} {i : Nat} (hi : i < b.Items.length) (hk : b.Items[i].Kind = 2) : decide (chgI b b.Items[i].Ref = (i : Int)) = !(b.Items.take i).any (emP b.Items[i].Ref) := by
  have hp : emP b.Items[i].Ref b.Items[i] = true := by unfold emP; simp [hk]
  cases ha : (b.Items.take i).any (emP b.Items[i].Ref) with
  | true =>
    refine decide_eq_false fun e => ?_
    obtain ⟨k, e1, hk1, _, h3⟩ := idx_pos (p := emP b.Items[i].Ref) (l := b.Items) (by unfold chgI at e; omega)
    unfold chgI at e
    have hki : k = i := by omega
    subst hki
    obtain ⟨x, hx, hpx⟩ := List.any_eq_true.1 ha
    obtain ⟨j, hj, rfl⟩ := List.mem_take_iff_getElem.1 hx
    have := h3 j (by omega)
    rw [this] at hpx
    cases hpx
  | false =>
    refine decide_eq_true ?_
    unfold chgI idx
    rw [(List.findIdx?_eq_some_iff_getElem (p := emP b.Items[i].Ref) (xs := b.Items) (i := i)).2 ⟨hi, hp, fun j hj => by
      have := List.any_eq_false.1 ha (b.Items[j]'(by omega)) (List.mem_take_iff_getElem.2 ⟨j, by omega, rfl⟩)
      exact this⟩]
def idsI (a : ApiAccount) (b : ApiBill) : List Int := (cntI a b).map fun i => (ix a.Emptyings i).ID
theorem ids_contains {a : ApiAccount} {b : ApiBill} (hb : bilSpec a = 0) (hw : wfB a b) {ref : Int} (hr : recB a b ref = true) : (idsI a b).contains ref = (cntI a b).contains (recI a ref) := by
  have hn : ¬ recI a ref < 0 := by
    unfold recB at hr
    rw [Bool.and_eq_true, decide_eq_true_eq] at hr
    omega
  obtain ⟨i1, i2, i3⟩ := recI_ok hn
  obtain ⟨_, h2, _⟩ := bilSpec_zero hb
  obtain ⟨_, _, hnd⟩ := emCheck_zero h2
  rw [Bool.eq_iff_iff, List.contains_iff_mem, List.contains_iff_mem]
  unfold idsI
  rw [List.mem_map]
  constructor
  · rintro ⟨i, hi, e⟩
    have hm := (mkIdx_ok hb (wf_win hw) (h := b.Household) hi).1
    obtain ⟨x, rfl⟩ := Int.eq_ofNat_of_zero_le hm.1
    obtain ⟨y, hy⟩ := Int.eq_ofNat_of_zero_le i1
    have hxl : x < a.Emptyings.length := by omega
    have hyl : y < a.Emptyings.length := by omega
    have := nodup_get hnd (i := x) (j := y) (by simpa using hxl) (by simpa using hyl) (by
      rw [List.getElem_map, List.getElem_map]
      rw [ix_nat hxl] at e
      rw [hy, ix_nat hyl] at i3
      rw [e, i3])
    rw [hy, ← this]
    exact hi
  · intro hi
    exact ⟨_, hi, i3⟩
theorem missing_eq {a : ApiAccount} {b : ApiBill} (hb : bilSpec a = 0) (ha : a.Assigns.length ≤ 60) (hw : wfB a b) (hi : b.Items.length ≤ 60) (k : Int) :
    m_recyclingref59_missing 40000 a b k = some (one ((baseSpec a.Tariffs b.When).1.any fun x => !hasB b.Items x) ⟨12, k, 0⟩ ++ apps (cntI a b).length (gMiss a b k (cntI a b))) := by
  have hbl := baseSpec_len a.Tariffs b.When
  have hlen : (cntI a b).length ≤ 512 := mkIdx_len hb (wf_win hw) _
  have hil : (idsI a b).length = (cntI a b).length := by unfold idsI; simp
  unfold m_recyclingref59_missing
  rw [baseRef_eq (by omega), Option.bind_some]
  rw [loop_any (baseSpec a.Tariffs b.When).1 (fun x => !hasB b.Items x) (.next [⟨12, k, 0⟩]) (.next []) (fun i hi' => ?_) (by rw [if_neg (by omega)]) (by omega)]
  · have e1 : (if ((baseSpec a.Tariffs b.When).1.any fun x => !hasB b.Items x) = true then Step.next (ρ := List ApiFinding) [(⟨12, k, 0⟩ : ApiFinding)] else .next []) = .next (one ((baseSpec a.Tariffs b.When).1.any fun x => !hasB b.Items x) ⟨12, k, 0⟩) := by
      unfold one
      split <;> rfl
    rw [e1, andThen_next, counting59_eq hb ha hw, Option.bind_some]
    have l1 := one_len ((baseSpec a.Tariffs b.When).1.any fun x => !hasB b.Items x) ⟨12, k, 0⟩
    show andThen (loopM _ _ _) _ = _
    have e2 : ((cntI a b).map fun i => (ix a.Emptyings i).ID) = idsI a b := rfl
    rw [e2]
    rw [loop_app (idsI a b).length (gMiss a b k (cntI a b)) (fun F => .next F) 1 _ l1 (fun i hi => one_len _ _) (fun i F hi' hF => ?_) (fun F => by dsimp only; rw [if_neg (by omega)]) (by omega), andThen_next, hil]
    have hic : i < (cntI a b).length := by omega
    have e3 : ix (idsI a b) (i : Int) = (ix a.Emptyings (ix (cntI a b) (i : Int))).ID := by
      rw [ix_nat hi', ix_nat hic]
      simp [idsI]
    dsimp only
    rw [if_pos (by omega), ck_yes (by omega), e3, billed_eq b hi, Option.bind_some]
    unfold gMiss one
    split
    · rw [ck_yes (by omega), ck_yes (by simp; omega), andThen_next, ck_yes (by unfold I64; omega)]
    · rw [andThen_next, ck_yes (by unfold I64; omega), List.append_nil]
  · rw [if_pos (by omega), ck_yes (by omega), ix_nat hi', has_eq _ _ (by omega) (by omega), Option.bind_some]
    split
    · rw [ck_yes (by simp)]; rfl
    · rw [ck_yes (by unfold I64; omega)]
end Go.Proofs.YtbnimhmoffchdaaGreatDoor
