/- The auction's checks, in plain words: both sides give the same error. -/
import Derived.Test.YtimmifkdocjljaaAucAwake
import Derived.Test.YtimmifkdocjljaaDPlain
namespace Go.Proofs.Ytimmifkdocjljaa

def bidErr (x : ApiBid) : Option Int := if x.Bidder < 0 ∨ 1000000 < x.Bidder then some 1 else if ((x.Price < 0 ∨ 1000000 < x.Price) ∨ x.Count < 1) ∨ 100 < x.Count then some 33 else none
def twice (l : List ApiBid) : Option Int := (List.range l.length).findSome? fun (i : Nat) => if (l.take i).any (fun y => decide (y.Bidder = (ix l (i : Int)).Bidder)) = true then some 6 else none
def checkF (l : List ApiBid) : Int := if 64 < l.length then 8 else match l.findSome? bidErr with
  | some e => e
  | none => (twice l).getD 0
theorem i64_succ {i : Nat} (h : i ≤ 1000000) : I64 ((i : Int) + 1) := ⟨by omega, by omega⟩
def idxF {α : Type} (p : α → Bool) (l : List α) (n : Nat) : Option Int := (List.range n).findSome? fun (i : Nat) => match l[i]? with
  | some x => if p x = true then some (i : Int) else none
  | none => none
/-- The loop of slices.IndexFunc. -/
theorem idxLoop {α : Type} [Inhabited α] (l : List α) (c : α → Option Bool) (p : α → Bool) (hc : ∀ x, c x = some (p x)) (hl : l.length ≤ 1000000) {N : Nat} (hN : l.length < N) :
    (andThen (loopM (fun (s : Int) => (if s < (List.length l : Int) then ck ((0 : Int) ≤ s ∧ s < (List.length l : Int)) (Option.bind (c (ix l s)) fun r => (if r = true then some (.done (.done (s))) else ck (I64 (s + (1 : Int))) (some (.next (s + (1 : Int)))))) else some (.done (.next ())))) N (0 : Int)) fun (_ : Unit) => some ((-1 : Int))) = some ((idxF p l l.length).getD (-1)) := by
  rw [scan (n := l.length) (fun i => if p (ix l (i : Int)) = true then some (i : Int) else none) (t := ()) ?_ ?_ hN]
  · have e1 : (List.range l.length).findSome? (fun (i : Nat) => if p (ix l (i : Int)) = true then some (i : Int) else none) = idxF p l l.length := by
      unfold idxF
      refine findSome_congr fun i hi => ?_
      have hi' := List.mem_range.1 hi
      rw [List.getElem?_eq_getElem hi', ix_nat hi']
    rw [e1]
    cases idxF p l l.length <;> rfl
  · intro i hi
    have h1 : (i : Int) < (l.length : Int) := by omega
    have h2 := i64_succ (i := i) (by omega)
    rw [if_pos h1, ck_true ⟨by omega, h1⟩, hc]
    simp only [Option.bind_some]
    by_cases hp : p (ix l (i : Int)) = true
    · simp [hp]
    · simp [hp, ck_true h2]
  · simp
theorem idxF_any {α : Type} (p : α → Bool) (l : List α) : decide (0 ≤ (idxF p l l.length).getD (-1)) = l.any p := by
  unfold idxF
  rw [Bool.eq_iff_iff]
  simp only [decide_eq_true_eq, List.any_eq_true]
  constructor
  · intro h
    cases hf : (List.range l.length).findSome? (fun (i : Nat) => match l[i]? with | some x => if p x = true then some (i : Int) else none | none => none) with
    | none => rw [hf] at h; simp at h
    | some r =>
      obtain ⟨i, hi, hr⟩ := List.exists_of_findSome?_eq_some hf
      have hi' := List.mem_range.1 hi
      rw [List.getElem?_eq_getElem hi'] at hr
      simp only at hr
      split at hr
      · exact ⟨l[i], List.getElem_mem _, ‹_›⟩
      · cases hr
  · rintro ⟨x, hx, hp⟩
    cases hf : (List.range l.length).findSome? (fun (i : Nat) => match l[i]? with | some x => if p x = true then some (i : Int) else none | none => none) with
    | none =>
      rw [List.findSome?_eq_none_iff] at hf
      obtain ⟨i, hi, rfl⟩ := List.mem_iff_getElem.1 hx
      have := hf i (List.mem_range.2 hi)
      rw [List.getElem?_eq_getElem hi] at this
      simp [hp] at this
    | some r =>
      obtain ⟨i, hi, hr⟩ := List.exists_of_findSome?_eq_some hf
      split at hr
      · split at hr
        · injection hr with hr; rw [← hr]; simp
        · cases hr
      · cases hr
theorem hasBid_eq {N : Nat} (l : List ApiBid) (x : ApiBid) (hl : l.length ≤ 1000000) (hN : l.length < N) : m_slices_ContainsFunc_auction_Check_1 N l x = some (l.any fun y => decide (y.Bidder = x.Bidder)) := by
  unfold m_slices_ContainsFunc_auction_Check_1 m_slices_IndexFunc_auction_Check_1
  rw [idxLoop l (fun y => m_auction_Check_1 N y x) (fun y => decide (y.Bidder = x.Bidder)) (fun _ => rfl) hl hN]
  simp only [Option.bind_some, idxF_any]
theorem progCheck_eq {N : Nat} (hN : 64 < N) (l : List ApiBid) : m_auction_Check N l = some (checkF l) := by
  unfold m_auction_Check checkF
  by_cases h : 64 < l.length
  · rw [if_pos (by omega), if_pos h]
  · rw [if_neg (by omega), if_neg h]
    rw [scan (n := l.length) (fun i => bidErr (ix l (i : Int))) (t := ()) ?_ ?_ (by omega), findSome_ix bidErr]
    · cases hb : l.findSome? bidErr with
      | some e => rfl
      | none =>
        show andThen _ _ = _
        rw [scan (n := l.length) (fun i => if (l.take i).any (fun y => decide (y.Bidder = (ix l (i : Int)).Bidder)) = true then some 6 else none) (t := ()) ?_ ?_ (by omega)]
        · change andThen (some (stepOf (twice l) ())) _ = some ((twice l).getD 0)
          cases twice l <;> rfl
        · intro i hi
          have h1 : (i : Int) < (l.length : Int) := by omega
          rw [if_pos h1, ck_true ⟨by omega, h1⟩, ck_true ⟨by omega, by omega⟩, Int.toNat_natCast, hasBid_eq _ _ (by simp; omega) (by simp; omega)]
          simp only [Option.bind_some]
          by_cases hp : (l.take i).any (fun y => decide (y.Bidder = (ix l (i : Int)).Bidder)) = true
          · rw [if_pos hp, if_pos hp]
          · rw [if_neg hp, if_neg hp, ck_true (i64_succ (by omega))]
        · simp
    · intro i hi
      have h1 : (i : Int) < (l.length : Int) := by omega
      rw [if_pos h1, ck_true ⟨by omega, h1⟩, ck_true (i64_succ (by omega))]
      simp only [Bool.or_eq_true, decide_eq_true_eq, bidErr]
      split
      · rfl
      · split <;> rfl
    · simp
theorem refCheck_eq {N : Nat} (hN : 64 < N) (l : List ApiBid) : m_recyclingref51_Check N l = some (checkF l) := by
  unfold m_recyclingref51_Check checkF
  by_cases h : 64 < l.length
  · rw [if_pos (by omega), if_pos h]
  · rw [if_neg (by omega), if_neg h]
    rw [scan (n := l.length) (fun i => bidErr (ix l (i : Int))) (t := ()) ?_ ?_ (by omega), findSome_ix bidErr]
    · cases hb : l.findSome? bidErr with
      | some e => rfl
      | none =>
        show andThen _ _ = _
        rw [scan (n := l.length) (fun i => if (l.take i).any (fun y => decide (y.Bidder = (ix l (i : Int)).Bidder)) = true then some 6 else none) (t := ()) ?_ ?_ (by omega)]
        · change andThen (some (stepOf (twice l) ())) _ = some ((twice l).getD 0)
          cases twice l <;> rfl
        · intro i hi
          have h1 : (i : Int) < (l.length : Int) := by omega
          rw [if_pos h1]
          rw [scan (n := i) (fun k => if (ix l (i : Int)).Bidder = (ix l (k : Int)).Bidder then some (Step.done (Step.done (6 : Int))) else none) (t := ()) ?_ ?_ (by omega)]
          · have e1 : (List.range i).findSome? (fun (k : Nat) => if (ix l (i : Int)).Bidder = (ix l (k : Int)).Bidder then some (Step.done (σ := Int) (Step.done (σ := Unit) (6 : Int))) else none) = if (l.take i).any (fun y => decide (y.Bidder = (ix l (i : Int)).Bidder)) = true then some (Step.done (Step.done (6 : Int))) else none := by
              have e3 := findSome_ix (fun y : ApiBid => if (ix l (i : Int)).Bidder = y.Bidder then some (Step.done (σ := Int) (Step.done (σ := Unit) (6 : Int))) else none) (l.take i)
              have hlen : (l.take i).length = i := by simp; omega
              rw [hlen] at e3
              rw [← findSome_congr (f := fun (k : Nat) => if (ix l (i : Int)).Bidder = (ix (l.take i) (k : Int)).Bidder then some (Step.done (σ := Int) (Step.done (σ := Unit) (6 : Int))) else none) fun k hk => ?_]
              · refine e3.trans ?_
                clear e3
                cases hq : (l.take i).any (fun y => decide (y.Bidder = (ix l (i : Int)).Bidder)) with
                | true =>
                  rw [if_pos rfl]
                  obtain ⟨y, hy, hyy⟩ := List.any_eq_true.1 hq
                  cases hf : (l.take i).findSome? (fun y => if (ix l (i : Int)).Bidder = y.Bidder then some (Step.done (σ := Int) (Step.done (σ := Unit) (6 : Int))) else none) with
                  | none =>
                    rw [List.findSome?_eq_none_iff] at hf
                    have := hf y hy
                    simp [(of_decide_eq_true hyy).symm] at this
                  | some r =>
                    obtain ⟨z, _, hz⟩ := List.exists_of_findSome?_eq_some hf
                    split at hz
                    · exact hz.symm
                    · cases hz
                | false =>
                  rw [if_neg (by decide), List.findSome?_eq_none_iff]
                  intro y hy
                  have := List.any_eq_false.1 hq y hy
                  simp only [decide_eq_true_eq] at this
                  rw [if_neg (fun h => this h.symm)]
              · have hk' := List.mem_range.1 hk
                rw [ix_nat (l := l.take i) (by rw [hlen]; exact hk'), List.getElem_take, ← ix_nat (l := l) (i := k)]
            rw [e1]
            by_cases hp : (l.take i).any (fun y => decide (y.Bidder = (ix l (i : Int)).Bidder)) = true
            · rw [if_pos hp, if_pos hp]; rfl
            · rw [if_neg hp, if_neg hp, ck_true (i64_succ (by omega))]; rfl
          · intro k hk
            have h2 : (k : Int) < (i : Int) := by omega
            rw [if_pos h2, ck_true ⟨by omega, h1⟩, ck_true ⟨by omega, by omega⟩]
            split
            · rfl
            · rw [ck_true (i64_succ (by omega))]
          · simp
        · simp
    · intro i hi
      have h1 : (i : Int) < (l.length : Int) := by omega
      have h3 : (0 : Int) ≤ (i : Int) ∧ (i : Int) < (l.length : Int) := ⟨by omega, h1⟩
      rw [if_pos h1, ck_true h3, ck_true (fun _ => h3), ck_true h3, ck_true (fun _ => h3), ck_true (fun _ => h3), ck_true (fun _ => h3), ck_true (i64_succ (by omega))]
      simp only [Bool.or_eq_true, decide_eq_true_eq, bidErr]
      split
      · rfl
      · split <;> rfl
    · simp
end Go.Proofs.Ytimmifkdocjljaa
