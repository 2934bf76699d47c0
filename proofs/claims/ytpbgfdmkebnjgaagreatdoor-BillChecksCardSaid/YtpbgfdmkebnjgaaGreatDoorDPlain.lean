/- Deco: plain lemmas on models: loops that run through an index, scans, lists read by an index. -/
import Derived.Test.YtpbgfdmkebnjgaaGreatDoorDCore
namespace Go.Proofs.YtpbgfdmkebnjgaaGreatDoor

theorem loopM_run {σ ρ : Type} {f : σ → Option (Step σ ρ)} (st : Nat → σ) (n : Nat) {r : ρ} (hs : ∀ i, i < n → f (st i) = some (.next (st (i + 1)))) (he : f (st n) = some (.done r)) {N : Nat} (hN : n < N) : loopM f N (st 0) = some r := by
  have key : ∀ k, k ≤ n → ∀ M, k < M → loopM f M (st (n - k)) = some r := by
    intro k
    induction k with
    | zero =>
      intro _ M hM
      obtain ⟨M, rfl⟩ : ∃ m, M = m + 1 := ⟨M - 1, by omega⟩
      unfold loopM
      rw [Nat.sub_zero, he]
    | succ k ih =>
      intro hk M hM
      obtain ⟨M, rfl⟩ : ∃ m, M = m + 1 := ⟨M - 1, by omega⟩
      unfold loopM
      rw [hs (n - (k + 1)) (by omega)]
      have : n - (k + 1) + 1 = n - k := by omega
      simp only
      rw [this]
      exact ih (by omega) M (by omega)
  have := key n (Nat.le_refl _) N hN
  rwa [Nat.sub_self] at this
theorem loopM_inv {σ ρ : Type} {f : σ → Option (Step σ ρ)} (I : σ → Prop) (m : σ → Nat) {r : ρ} (h : ∀ s, I s → (∃ s', f s = some (.next s') ∧ I s' ∧ m s' < m s) ∨ f s = some (.done r)) : ∀ (N : Nat) (s : σ), I s → m s < N → loopM f N s = some r
  | 0, _, _, hN => absurd hN (Nat.not_lt_zero _)
  | N + 1, s, hs, hN => by
    unfold loopM
    rcases h s hs with ⟨s', h1, h2, h3⟩ | h1
    · rw [h1]
      exact loopM_inv I m h N s' h2 (by omega)
    · rw [h1]
def stepOf {τ ρ : Type} (o : Option ρ) (t : τ) : Step τ ρ := match o with
  | some r => .done r
  | none => .next t
/-- A loop that looks at 0, 1, .. till something is found. -/
theorem scan {τ ρ : Type} {f : Int → Option (Step Int (Step τ ρ))} {n : Nat} (g : Nat → Option ρ) {t : τ}
    (hb : ∀ i : Nat, i < n → f (i : Int) = match g i with | some r => some (.done (.done r)) | none => some (.next ((i : Int) + 1))) (he : f (n : Int) = some (.done (.next t))) {N : Nat} (hN : n < N) :
    loopM f N 0 = some (stepOf ((List.range n).findSome? g) t) := by
  have key : ∀ (m : Nat), m ≤ n → (∀ i, i < m → g i = none) → (m = n ∨ ∃ r, g m = some r) → loopM f N 0 = some (stepOf ((List.range n).findSome? g) t) := by
    intro m hm hnone hend
    have hst : ∀ i, i < m → f (((i : Nat) : Int)) = some (.next (((i + 1 : Nat) : Int))) := fun i hi => by
      rw [hb i (by omega), hnone i hi]
      simp
    rcases hend with rfl | ⟨r, hr⟩
    · have hfs : (List.range m).findSome? g = none := by
        rw [List.findSome?_eq_none_iff]
        intro x hx
        exact hnone x (List.mem_range.1 hx)
      rw [hfs]
      exact loopM_run (fun i => ((i : Nat) : Int)) m hst he hN
    · by_cases hmn : m = n
      · subst hmn
        have hfs : (List.range m).findSome? g = none := by
          rw [List.findSome?_eq_none_iff]
          intro x hx
          exact hnone x (List.mem_range.1 hx)
        rw [hfs]
        exact loopM_run (fun i => ((i : Nat) : Int)) m hst he hN
      · have hml : m < n := by omega
        have hfs : (List.range n).findSome? g = some r := by
          have e1 : List.range n = List.range m ++ List.range' m (n - m) := by
            have h2 := List.range'_append_1 (s := 0) (m := m) (n := n - m)
            rw [Nat.zero_add] at h2
            rw [List.range_eq_range', List.range_eq_range', h2]
            congr 1; omega
          rw [e1, List.findSome?_append]
          have h0 : (List.range m).findSome? g = none := by
            rw [List.findSome?_eq_none_iff]
            intro x hx
            exact hnone x (List.mem_range.1 hx)
          rw [h0]
          obtain ⟨q, hq⟩ : ∃ q, n - m = q + 1 := ⟨n - m - 1, by omega⟩
          rw [hq, List.range'_succ]
          simp [hr]
        rw [hfs]
        refine loopM_run (fun i => ((i : Nat) : Int)) m hst ?_ (by omega)
        rw [hb m hml, hr]
        rfl
  have ex : ∃ m, m ≤ n ∧ (∀ i, i < m → g i = none) ∧ (m = n ∨ ∃ r, g m = some r) := by
    have : ∀ k, k ≤ n → (∃ m, m ≤ n ∧ (∀ i, i < m → g i = none) ∧ (m = n ∨ ∃ r, g m = some r)) ∨ ∀ i, i < k → g i = none := by
      intro k
      induction k with
      | zero => intro _; exact .inr fun i hi => absurd hi (Nat.not_lt_zero _)
      | succ k ih =>
        intro hk
        rcases ih (by omega) with h | h
        · exact .inl h
        · cases hg : g k with
          | none =>
            refine .inr fun i hi => ?_
            rcases Nat.lt_or_ge i k with h1 | h1
            · exact h i h1
            · have : i = k := by omega
              subst this; exact hg
          | some r => exact .inl ⟨k, by omega, h, .inr ⟨r, hg⟩⟩
    rcases this n (Nat.le_refl _) with h | h
    · exact h
    · exact ⟨n, Nat.le_refl _, h, .inl rfl⟩
  obtain ⟨m, h1, h2, h3⟩ := ex
  exact key m h1 h2 h3
theorem ix_nat {α : Type} [Inhabited α] {l : List α} {i : Nat} (h : i < l.length) : ix l (i : Int) = l[i] := by
  unfold ix
  rw [Int.toNat_natCast, List.getD_eq_getElem?_getD, List.getElem?_eq_getElem h]
  rfl
theorem findSome_congr {α β : Type} {f g : α → Option β} : ∀ {l : List α}, (∀ x ∈ l, f x = g x) → l.findSome? f = l.findSome? g
  | [], _ => rfl
  | x :: l, h => by rw [List.findSome?_cons, List.findSome?_cons, h x (List.mem_cons_self ..), findSome_congr fun y hy => h y (List.mem_cons_of_mem _ hy)]
theorem findSome_ix {α β : Type} [Inhabited α] (h : α → Option β) : ∀ l : List α, (List.range l.length).findSome? (fun (i : Nat) => h (ix l (i : Int))) = l.findSome? h
  | [] => rfl
  | x :: l => by
    rw [List.length_cons, List.range_succ_eq_map, List.findSome?_cons, List.findSome?_map, List.findSome?_cons]
    have e1 : ix (x :: l) ((0 : Nat) : Int) = x := rfl
    rw [e1]
    cases h x with
    | some r => rfl
    | none =>
      simp only
      rw [← findSome_ix h l]
      congr 1
theorem any_ix {α : Type} [Inhabited α] (p : α → Bool) (l : List α) : (List.range l.length).any (fun (i : Nat) => p (ix l (i : Int))) = l.any p := by
  induction l with
  | nil => rfl
  | cons x l ih =>
    rw [List.length_cons, List.range_succ_eq_map, List.any_cons, List.any_map, List.any_cons, ← ih]
    rfl
theorem andThen_done {τ ρ : Type} {r : ρ} {k : τ → Option ρ} : andThen (some (.done r)) k = some r := rfl
theorem andThen_next {τ ρ : Type} {t : τ} {k : τ → Option ρ} : andThen (some (.next t)) k = k t := rfl
end Go.Proofs.YtpbgfdmkebnjgaaGreatDoor
