/- Deco: more plain lemmas on models: searches, distinct keys, sums. -/
import Derived.Test.YtpbgfdmkebnjgaaGreatDoorDPlain2
namespace Go.Proofs.YtpbgfdmkebnjgaaGreatDoor

theorem dup_takeK {α κ : Type} (f : α → κ) {l : List α} (i : Nat) (hi : i < l.length) (hn : ((l.take i).map f).Nodup) : ((l.take (i + 1)).map f).Nodup ↔ f l[i] ∉ (l.take i).map f := by
  rw [take_succ_get hi, List.map_append, List.map_cons, List.map_nil]
  constructor
  · intro h hm
    exact (List.nodup_append.1 h).2.2 _ hm _ (List.mem_cons_self ..) rfl
  · intro h
    refine List.nodup_append.2 ⟨hn, by simp, fun a ha b hb => ?_⟩
    rw [List.mem_singleton] at hb
    subst hb
    rintro rfl
    exact h ha
theorem not_nodup_of_takeK {α κ : Type} (f : α → κ) {l : List α} (i : Nat) (h : ¬ ((l.take i).map f).Nodup) : ¬ (l.map f).Nodup := fun hn => h (by
  rw [List.map_take]
  exact hn.sublist (List.take_sublist _ _))
/-- A loop with an invariant, and what holds of the answer. -/
theorem then_postE {τ β σ ρ : Type} {f : σ → Option (Step σ (Step β ρ))} {N : Nat} {s0 : σ} {k : β → Option ρ} (Post : ρ → Prop) (n : Nat) (mk : τ → Int → σ) (fin : τ → β) (inv : Nat → τ → Prop) (t0 : τ) (hs0 : s0 = mk t0 0) (h0 : inv 0 t0) (hN : n < N)
    (h : ∀ (i : Nat) t, i < n → inv i t → (∃ t', f (mk t (i : Int)) = some (.next (mk t' ((i : Int) + 1))) ∧ inv (i + 1) t') ∨ ∃ r, f (mk t (i : Int)) = some (.done (.done r)) ∧ Post r)
    (he : ∀ t, inv n t → f (mk t (n : Int)) = some (.done (.next (fin t)))) (h1 : ∀ t, inv n t → ∃ r, k (fin t) = some r ∧ Post r) : ∃ r, andThen (loopM f N s0) k = some r ∧ Post r := by
  rcases loop_exE n mk fin inv Post t0 hs0 h0 h he hN with ⟨t, ht, e⟩ | ⟨r, hr, e⟩
  · rw [e]; exact h1 t ht
  · rw [e]; exact ⟨r, rfl, hr⟩
/-- A search for the first element that fits. -/
theorem index_any {α : Type} {f : Int → Option (Step Int (Step Unit Int))} {N : Nat} (l : List α) (p : α → Bool) (h : ∀ (i : Nat) (hi : i < l.length), f (i : Int) = if p l[i] = true then some (.done (.done (i : Int))) else some (.next ((i : Int) + 1)))
    (he : f (l.length : Int) = some (.done (.next ()))) (hN : l.length < N) : ∃ r : Int, andThen (loopM f N 0) (fun _ => some (-1)) = some r ∧ decide (0 ≤ r) = l.any p ∧
      ((r = -1 ∧ ∀ x ∈ l, p x = false) ∨ ∃ k : Nat, r = (k : Int) ∧ k < l.length ∧ (∀ hk : k < l.length, p l[k] = true) ∧ ∀ x ∈ l.take k, p x = false) := by
  refine then_postE (fun r => decide (0 ≤ r) = l.any p ∧ ((r = -1 ∧ ∀ x ∈ l, p x = false) ∨ ∃ k : Nat, r = (k : Int) ∧ k < l.length ∧ (∀ hk : k < l.length, p l[k] = true) ∧ ∀ x ∈ l.take k, p x = false)) l.length (fun (_ : Unit) i => i) (fun _ => ()) (fun i _ => ∀ x ∈ l.take i, p x = false) () rfl (by simp) hN (fun i t hi ht => ?_) (fun t _ => he) (fun t ht => ⟨-1, rfl, ?_⟩)
  · rw [h i hi]
    cases hp : p l[i] with
    | true =>
      right
      refine ⟨_, rfl, ?_, .inr ⟨i, rfl, hi, fun _ => hp, ht⟩⟩
      have : l.any p = true := List.any_eq_true.2 ⟨_, List.getElem_mem hi, hp⟩
      rw [this]; simp
    | false =>
      left
      refine ⟨(), rfl, fun x hx => ?_⟩
      rcases (mem_take_succ hi).1 hx with hx | hx
      · exact ht x hx
      · rw [hx]; exact hp
  · rw [List.take_length] at ht
    refine ⟨?_, .inl ⟨rfl, ht⟩⟩
    have : l.any p = false := by rw [List.any_eq_false]; intro x hx; rw [ht x hx]; decide
    rw [this]; rfl
theorem contains_loop {α : Type} {f : Int → Option (Step Int (Step Unit Int))} {N : Nat} (l : List α) (p : α → Bool) (h : ∀ (i : Nat) (hi : i < l.length), f (i : Int) = if p l[i] = true then some (.done (.done (i : Int))) else some (.next ((i : Int) + 1)))
    (he : f (l.length : Int) = some (.done (.next ()))) (hN : l.length < N) : Option.bind (andThen (loopM f N 0) (fun _ => some (-1))) (fun r : Int => some (decide (0 ≤ r))) = some (l.any p) := by
  obtain ⟨r, e1, e2, _⟩ := index_any l p h he hN
  rw [e1, Option.bind_some, e2]
end Go.Proofs.YtpbgfdmkebnjgaaGreatDoor
