/- Layer 59 in plain words: the reference's examination of one bill. -/
import Derived.Test.YtbnimhmoffchdaaGreatDoorAuP7
namespace Go.Proofs.YtbnimhmoffchdaaGreatDoor
attribute [local instance] jfTrue

theorem loop_any {α ρ : Type} {f : Int → Option (Step Int ρ)} {N : Nat} (l : List α) (p : α → Bool) (r1 r0 : ρ) (h : ∀ (i : Nat) (hi : i < l.length), f (i : Int) = if p l[i] = true then some (.done r1) else some (.next ((i : Int) + 1)))
    (he : f (l.length : Int) = some (.done r0)) (hN : l.length < N) : loopM f N 0 = some (if l.any p = true then r1 else r0) := by
  have key : ∀ (k i M : Nat), i + k = l.length → k < M → loopM f M (i : Int) = some (if (l.drop i).any p = true then r1 else r0) := by
    intro k
    induction k with
    | zero =>
      intro i M hi hM
      obtain ⟨M, rfl⟩ : ∃ m, M = m + 1 := ⟨M - 1, by omega⟩
      have : i = l.length := by omega
      subst this
      unfold loopM
      rw [he]
      simp
    | succ k ih =>
      intro i M hi hM
      obtain ⟨M, rfl⟩ : ∃ m, M = m + 1 := ⟨M - 1, by omega⟩
      have hil : i < l.length := by omega
      have := ih (i + 1) M (by omega) (by omega)
      rw [Int.natCast_add] at this
      unfold loopM
      rw [h i hil, List.drop_eq_getElem_cons hil, List.any_cons]
      cases hp : p l[i] with
      | true => simp
      | false =>
        rw [if_neg (by decide), Bool.false_or]
        exact this
  exact key l.length 0 N (by omega) hN
theorem in_eq (l : List Int) (x : Int) (hl : l.length ≤ 600) : m_recyclingref59_in 40000 l x = some (l.contains x) := by
  unfold m_recyclingref59_in
  rw [loop_any l (fun y => decide (y = x)) (.done true) (.next ()) (fun i hi => ?_) (by rw [if_neg (by omega)]) (by omega)]
  · have e : l.contains x = l.any fun y => decide (y = x) := by
      rw [Bool.eq_iff_iff]
      simp
    rw [e]
    cases l.any fun y => decide (y = x) <;> rfl
  · rw [if_pos (by omega), ck_yes (by omega), ix_nat hi, ck_yes (by unfold I64; omega)]
    by_cases hx : l[i] = x
    · rw [if_pos hx, if_pos (by simpa using hx)]
    · rw [if_neg hx, if_neg (by simpa using hx)]
theorem flatMap_one {γ : Type} (g : Nat → γ) : ∀ m : List Nat, (m.flatMap fun i => [g i]) = m.map g
  | [] => rfl
  | y :: m => by rw [List.flatMap_cons, List.map_cons, flatMap_one g m]; rfl
theorem apps_map {γ α : Type} [Inhabited α] (l : List α) (g : α → γ) : apps l.length (fun i => [g (ix l (i : Int))]) = l.map g := by
  unfold apps
  rw [flatMap_one (fun i => g (ix l (i : Int))), ← List.range_eq_range']
  refine List.ext_getElem (by simp) fun j h1 h2 => ?_
  have hj : j < l.length := by simpa using h2
  rw [List.getElem_map, List.getElem_map, List.getElem_range, ix_nat hj]
theorem wf_win {a : ApiAccount} {b : ApiBill} (h : wfB a b) : ¬ winBad b.When := by
  unfold wfB at h
  unfold winBad
  omega
def cntI (a : ApiAccount) (b : ApiBill) : List Int := mkIdx a b.Household b.When
theorem counting59_eq {a : ApiAccount} {b : ApiBill} (hb : bilSpec a = 0) (ha : a.Assigns.length ≤ 60) (hw : wfB a b) : m_recyclingref59_counting 40000 a b = some ((cntI a b).map fun i => (ix a.Emptyings i).ID) := by
  have hw' := hw
  unfold wfB at hw'
  unfold m_recyclingref59_counting
  have hlen : (cntI a b).length ≤ 512 := mkIdx_len hb (wf_win hw) _
  rw [ck_yes (by unfold I64; omega), ck_yes (by unfold I64; omega), refOf_eq (by omega) _ (by omega) (by omega), Option.bind_some]
  have e : (emOf a.Emptyings a.Assigns b.Household (ApiWindow.mk (b.When.From * (86400 : Int)) (b.When.To * (86400 : Int))) a.Gap).1 = cntI a b := rfl
  rw [e]
  rw [loop_app (cntI a b).length (fun i => [(ix a.Emptyings (ix (cntI a b) i)).ID]) (fun F => .next F) 0 [] (by simp) (fun i hi => by simp) (fun i F hi hF => ?_) (fun F => by dsimp only; rw [if_neg (by omega)]) (by omega)]
  · rw [andThen_next, List.nil_append, apps_map (cntI a b) fun i => (ix a.Emptyings i).ID]
  · have hm := mkIdx_ok hb (wf_win hw) (h := b.Household) (i := (cntI a b)[i]) (List.getElem_mem hi)
    dsimp only
    rw [if_pos (by omega), ck_yes (by omega), ck_yes (by rw [ix_nat hi]; exact hm.1), ck_yes (by simp; omega), ck_yes (by unfold I64; omega)]
end Go.Proofs.YtbnimhmoffchdaaGreatDoor
