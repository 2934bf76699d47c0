/- Deco: plain lemmas on models: loops as folds over a list, with and without an early end; insertion; sorted lists. -/
import Derived.Test.YtpbgfdmkebnjgaaGreatDoorDPlain
import Derived.Test.YtpbgfdmkebnjgaaGreatDoorDSort1
namespace Go.Proofs.YtpbgfdmkebnjgaaGreatDoor

def foldE {α τ ρ : Type} (step : τ → α → Step τ ρ) : τ → List α → Step τ ρ
  | t, [] => .next t
  | t, x :: l => match step t x with
    | .next t' => foldE step t' l
    | .done r => .done r
def Step.map {α β ρ : Type} (f : α → β) : Step α ρ → Step β ρ
  | .next t => .next (f t)
  | .done r => .done r
theorem take_succ_get {α : Type} {l : List α} {i : Nat} (h : i < l.length) : l.take (i + 1) = l.take i ++ [l[i]] := by
  rw [List.take_add_one, List.getElem?_eq_getElem h]
  rfl
theorem mem_take_succ {α : Type} {l : List α} {i : Nat} (hi : i < l.length) {x : α} : x ∈ l.take (i + 1) ↔ x ∈ l.take i ∨ x = l[i] := by rw [take_succ_get hi, List.mem_append, List.mem_singleton]
/-- A loop over a list: state t, place i. -/
theorem loop_fold {α τ β σ ρ : Type} {f : σ → Option (Step σ (Step β ρ))} {N : Nat} {s0 : σ} (l : List α) (mk : τ → Int → σ) (step : τ → α → Step τ ρ) (fin : τ → β) (inv : Nat → τ → Prop) (t0 : τ) (hs0 : s0 = mk t0 0) (h0 : inv 0 t0)
    (h : ∀ (i : Nat) t (hi : i < l.length), inv i t → f (mk t (i : Int)) = some (match step t l[i] with | .next t' => .next (mk t' ((i : Int) + 1)) | .done r => .done (.done r)) ∧ ∀ t', step t l[i] = .next t' → inv (i + 1) t')
    (he : ∀ t, inv l.length t → f (mk t (l.length : Int)) = some (.done (.next (fin t)))) (hN : l.length < N) : loopM f N s0 = some ((foldE step t0 l).map fin) := by
  subst hs0
  have key : ∀ (k i : Nat) (t : τ) (M : Nat), i + k = l.length → k < M → inv i t → loopM f M (mk t (i : Int)) = some ((foldE step t (l.drop i)).map fin) := by
    intro k
    induction k with
    | zero =>
      intro i t M hi hM ht
      obtain ⟨M, rfl⟩ : ∃ m, M = m + 1 := ⟨M - 1, by omega⟩
      have : i = l.length := by omega
      subst this
      unfold loopM
      rw [he t ht, List.drop_length]
      rfl
    | succ k ih =>
      intro i t M hi hM ht
      obtain ⟨M, rfl⟩ : ∃ m, M = m + 1 := ⟨M - 1, by omega⟩
      have hil : i < l.length := by omega
      obtain ⟨h1, h2⟩ := h i t hil ht
      unfold loopM
      rw [h1, List.drop_eq_getElem_cons hil]
      unfold foldE
      cases hs : step t l[i] with
      | done r => rfl
      | next t' =>
        simp only
        have := ih (i + 1) t' M (by omega) (by omega) (h2 t' hs)
        rw [Int.natCast_add] at this
        exact this
  have := key l.length 0 t0 N (by omega) hN h0
  rw [List.drop_zero] at this
  exact this
theorem foldE_next {α τ ρ : Type} (g : τ → α → τ) : ∀ (l : List α) (t : τ), foldE (ρ := ρ) (fun t x => .next (g t x)) t l = .next (l.foldl g t)
  | [], _ => rfl
  | x :: l, t => by unfold foldE; exact foldE_next g l (g t x)
/-- A loop over a list that runs to its end. -/
theorem loop_foldl {α τ β σ ρ : Type} {f : σ → Option (Step σ (Step β ρ))} {N : Nat} {s0 : σ} (l : List α) (mk : τ → Int → σ) (g : τ → α → τ) (fin : τ → β) (inv : Nat → τ → Prop) (t0 : τ) (hs0 : s0 = mk t0 0) (h0 : inv 0 t0)
    (h : ∀ (i : Nat) t (hi : i < l.length), inv i t → f (mk t (i : Int)) = some (.next (mk (g t l[i]) ((i : Int) + 1))) ∧ inv (i + 1) (g t l[i]))
    (he : ∀ t, inv l.length t → f (mk t (l.length : Int)) = some (.done (.next (fin t)))) (hN : l.length < N) : loopM f N s0 = some (.next (fin (l.foldl g t0))) := by
  rw [loop_fold (ρ := ρ) l mk (fun t x => .next (g t x)) fin inv t0 hs0 h0 (fun i t hi ht => ⟨(h i t hi ht).1, fun t' ht' => by injection ht' with ht'; subst ht'; exact (h i t hi ht).2⟩) he hN, foldE_next]
  rfl
/-- A loop that looks for the first element at which something is found. -/
theorem loop_find {α β ρ : Type} {f : Int → Option (Step Int (Step β ρ))} {N : Nat} (l : List α) (g : α → Option ρ) (t : β)
    (h : ∀ (i : Nat) (hi : i < l.length), f (i : Int) = match g l[i] with | some r => some (.done (.done r)) | none => some (.next ((i : Int) + 1)))
    (he : f (l.length : Int) = some (.done (.next t))) (hN : l.length < N) : loopM f N 0 = some (stepOf (l.findSome? g) t) := by
  have := scan (f := f) (n := l.length) (fun i => l[i]?.bind g) (t := t) (fun i hi => by rw [h i hi, List.getElem?_eq_getElem hi]; rfl) he hN
  rw [this]
  congr 1
  congr 1
  clear this h he hN
  induction l with
  | nil => rfl
  | cons x l ih =>
    rw [List.length_cons, List.range_succ_eq_map, List.findSome?_cons, List.findSome?_map, List.findSome?_cons]
    have e1 : ((x :: l)[0]?.bind g) = g x := rfl
    rw [e1]
    cases g x with
    | some r => rfl
    | none => exact ih

/-- A loop with an invariant that tells the end's state. -/
theorem loop_exE {τ β σ ρ : Type} {f : σ → Option (Step σ (Step β ρ))} {N : Nat} {s0 : σ} (n : Nat) (mk : τ → Int → σ) (fin : τ → β) (inv : Nat → τ → Prop) (R : ρ → Prop) (t0 : τ) (hs0 : s0 = mk t0 0) (h0 : inv 0 t0)
    (h : ∀ (i : Nat) t, i < n → inv i t → (∃ t', f (mk t (i : Int)) = some (.next (mk t' ((i : Int) + 1))) ∧ inv (i + 1) t') ∨ ∃ r, f (mk t (i : Int)) = some (.done (.done r)) ∧ R r)
    (he : ∀ t, inv n t → f (mk t (n : Int)) = some (.done (.next (fin t)))) (hN : n < N) : (∃ t, inv n t ∧ loopM f N s0 = some (.next (fin t))) ∨ ∃ r, R r ∧ loopM f N s0 = some (.done r) := by
  subst hs0
  have key : ∀ (k i : Nat) (t : τ) (M : Nat), i + k = n → k < M → inv i t → (∃ t', inv n t' ∧ loopM f M (mk t (i : Int)) = some (.next (fin t'))) ∨ ∃ r, R r ∧ loopM f M (mk t (i : Int)) = some (.done r) := by
    intro k
    induction k with
    | zero =>
      intro i t M hi hM ht
      obtain ⟨M, rfl⟩ : ∃ m, M = m + 1 := ⟨M - 1, by omega⟩
      have : i = n := by omega
      subst this
      refine .inl ⟨t, ht, ?_⟩
      unfold loopM
      rw [he t ht]
    | succ k ih =>
      intro i t M hi hM ht
      obtain ⟨M, rfl⟩ : ∃ m, M = m + 1 := ⟨M - 1, by omega⟩
      rcases h i t (by omega) ht with ⟨t', h1, h2⟩ | ⟨r, h1, h2⟩
      · have := ih (i + 1) t' M (by omega) (by omega) h2
        rw [Int.natCast_add] at this
        unfold loopM
        rw [h1]
        exact this
      · refine .inr ⟨r, h2, ?_⟩
        unfold loopM
        rw [h1]
  exact key n 0 t0 N (by omega) hN h0
theorem loop_ex {τ β σ ρ : Type} {f : σ → Option (Step σ (Step β ρ))} {N : Nat} {s0 : σ} (n : Nat) (mk : τ → Int → σ) (fin : τ → β) (inv : Nat → τ → Prop) (t0 : τ) (hs0 : s0 = mk t0 0) (h0 : inv 0 t0)
    (h : ∀ (i : Nat) t, i < n → inv i t → ∃ t', f (mk t (i : Int)) = some (.next (mk t' ((i : Int) + 1))) ∧ inv (i + 1) t')
    (he : ∀ t, inv n t → f (mk t (n : Int)) = some (.done (.next (fin t)))) (hN : n < N) : ∃ t, inv n t ∧ loopM f N s0 = some (.next (fin t)) := by
  rcases loop_exE (R := fun _ => False) n mk fin inv t0 hs0 h0 (fun i t hi ht => .inl (h i t hi ht)) he hN with h | ⟨_, h, _⟩
  · exact h
  · exact h.elim

/-- .. with what follows. -/
theorem then_exE {τ β σ ρ : Type} {f : σ → Option (Step σ (Step β ρ))} {N : Nat} {s0 : σ} {k : β → Option ρ} {res : Option ρ} (n : Nat) (mk : τ → Int → σ) (fin : τ → β) (inv : Nat → τ → Prop) (R : ρ → Prop) (t0 : τ) (hs0 : s0 = mk t0 0) (h0 : inv 0 t0) (hN : n < N)
    (h : ∀ (i : Nat) t, i < n → inv i t → (∃ t', f (mk t (i : Int)) = some (.next (mk t' ((i : Int) + 1))) ∧ inv (i + 1) t') ∨ ∃ r, f (mk t (i : Int)) = some (.done (.done r)) ∧ R r)
    (he : ∀ t, inv n t → f (mk t (n : Int)) = some (.done (.next (fin t)))) (h1 : ∀ t, inv n t → k (fin t) = res) (h2 : ∀ r, R r → some r = res) : andThen (loopM f N s0) k = res := by
  rcases loop_exE n mk fin inv R t0 hs0 h0 h he hN with ⟨t, ht, e⟩ | ⟨r, hr, e⟩
  · rw [e]; exact h1 t ht
  · rw [e]; exact h2 r hr
theorem then_ex {τ β σ ρ : Type} {f : σ → Option (Step σ (Step β ρ))} {N : Nat} {s0 : σ} {k : β → Option ρ} {res : Option ρ} (n : Nat) (mk : τ → Int → σ) (fin : τ → β) (inv : Nat → τ → Prop) (t0 : τ) (hs0 : s0 = mk t0 0) (h0 : inv 0 t0) (hN : n < N)
    (h : ∀ (i : Nat) t, i < n → inv i t → ∃ t', f (mk t (i : Int)) = some (.next (mk t' ((i : Int) + 1))) ∧ inv (i + 1) t')
    (he : ∀ t, inv n t → f (mk t (n : Int)) = some (.done (.next (fin t)))) (h1 : ∀ t, inv n t → k (fin t) = res) : andThen (loopM f N s0) k = res := by
  obtain ⟨t, ht, e⟩ := loop_ex n mk fin inv t0 hs0 h0 h he hN
  rw [e]; exact h1 t ht

/-! ### Sorted lists -/
section
variable {α : Type}
theorem sorted_unique {lt : α → α → Prop} {l1 l2 : List α} (hanti : ∀ a ∈ l1, ∀ b ∈ l1, lt a b → lt b a → False) (hp : l1.Perm l2) (h1 : l1.Pairwise lt) (h2 : l2.Pairwise lt) : l1 = l2 :=
  List.Perm.eq_of_pairwise (fun a b ha hb hab hba => (hanti a ha b (hp.mem_iff.2 hb) hab hba).elim) h1 h2 hp
theorem sortO_sorted {f : α → α → Option Int} {l : List α} (h : sortOk f l) (hn : l.Nodup) : (sortO f l).Pairwise (fun x y => ltO f x y = true) := by
  obtain ⟨_, o2, o3, o4, o5⟩ := h
  -- over the subtype of l's elements the comparison is total and transitive
  have hm := List.map_mergeSort (r := fun x y : {x // x ∈ l} => !(ltO f y.1 x.1)) (s := fun x y => !(ltO f y x)) (f := fun x : {x // x ∈ l} => x.1) (l := l.attach) (fun _ _ _ _ => rfl)
  rw [List.attach_map_subtype_val] at hm
  have hs := List.pairwise_mergeSort (le := fun x y : {x // x ∈ l} => !(ltO f y.1 x.1)) (fun a b c h1 h2 => by
    simp only [Bool.not_eq_true'] at h1 h2 ⊢
    exact o4 c.1 c.2 b.1 b.2 a.1 a.2 h2 h1) (fun a b => by
    simp only [Bool.or_eq_true, Bool.not_eq_true']
    cases hab : ltO f b.1 a.1 with
    | false => exact .inl rfl
    | true =>
      right
      cases hba : ltO f a.1 b.1 with
      | false => rfl
      | true =>
        have := o3 b.1 b.2 a.1 a.2 b.1 b.2 hab hba
        rw [o2 b.1 b.2] at this
        cases this) l.attach
  have hs2 : (sortO f l).Pairwise (fun x y => ltO f y x = false) := by
    unfold sortO
    rw [← hm, List.pairwise_map]
    exact hs.imp fun h => by simpa using h
  have hn2 : (sortO f l).Nodup := (sortO_perm f l).nodup_iff.2 hn
  have hmem : ∀ x ∈ sortO f l, x ∈ l := fun x hx => (sortO_perm f l).mem_iff.1 hx
  have hs3 : (sortO f l).Pairwise (fun x y => x ∈ sortO f l ∧ y ∈ sortO f l ∧ x ≠ y ∧ ltO f y x = false) := by
    refine List.Pairwise.imp_of_mem (fun {a b} ha hb h => ⟨ha, hb, h.1, h.2⟩) (hn2.and hs2)
  refine hs3.imp fun {a b} h => ?_
  obtain ⟨ha, hb, hne, hba⟩ := h
  cases hab : ltO f a b with
  | true => rfl
  | false => exact absurd (o5 a (hmem a ha) b (hmem b hb) hab hba) hne
theorem nodup_get {l : List α} (h : l.Nodup) {i j : Nat} (hi : i < l.length) (hj : j < l.length) (e : l[i] = l[j]) : i = j := by
  rcases Nat.lt_trichotomy i j with h1 | h1 | h1
  · exact absurd e (List.pairwise_iff_getElem.1 h i j hi hj h1)
  · exact h1
  · exact absurd e.symm (List.pairwise_iff_getElem.1 h j i hj hi h1)
/-- Insertion from the end: before the elements that are greater. -/
def insAt (lt : α → α → Bool) (x : α) : List α → Nat
  | [] => 0
  | y :: l => if l.all (fun z => lt x z) && lt x y then 0 else insAt lt x l + 1
theorem insAt_le (lt : α → α → Bool) (x : α) : ∀ l : List α, insAt lt x l ≤ l.length
  | [] => Nat.le_refl _
  | y :: l => by
    unfold insAt
    split
    · omega
    · have := insAt_le lt x l
      simp only [List.length_cons]; omega
theorem insAt_drop (lt : α → α → Bool) (x : α) : ∀ l : List α, ∀ y ∈ l.drop (insAt lt x l), lt x y = true
  | [], y, hy => by cases hy
  | z :: l, y, hy => by
    unfold insAt at hy
    split at hy
    · rename_i h
      simp only [Bool.and_eq_true, List.all_eq_true] at h
      rcases List.mem_cons.1 hy with rfl | hy
      · exact h.2
      · exact h.1 y hy
    · exact insAt_drop lt x l y hy
theorem insAt_stop (lt : α → α → Bool) (x : α) : ∀ l : List α, 0 < insAt lt x l → ∃ y, l[insAt lt x l - 1]? = some y ∧ lt x y = false
  | [], h => by simp [insAt] at h
  | z :: l, h => by
    unfold insAt at h ⊢
    split
    · rename_i h'; rw [if_pos h'] at h; omega
    · rename_i h'
      rcases Nat.eq_zero_or_pos (insAt lt x l) with h0 | hp
      · refine ⟨z, by rw [h0]; rfl, ?_⟩
        have hall : l.all (fun w => lt x w) = true := by
          rw [List.all_eq_true]
          intro w hw
          have := insAt_drop lt x l
          rw [h0] at this
          exact this w hw
        rw [hall, Bool.true_and] at h'
        simpa using h'
      · obtain ⟨y, h1, h2⟩ := insAt_stop lt x l hp
        refine ⟨y, ?_, h2⟩
        have : insAt lt x l + 1 - 1 = (insAt lt x l - 1) + 1 := by omega
        rw [this]
        exact h1
def insB (lt : α → α → Bool) (l : List α) (x : α) : List α := l.take (insAt lt x l) ++ [x] ++ l.drop (insAt lt x l)
theorem insB_perm (lt : α → α → Bool) (l : List α) (x : α) : (insB lt l x).Perm (l ++ [x]) := by
  unfold insB
  have h1 : (l.take (insAt lt x l) ++ [x] ++ l.drop (insAt lt x l)).Perm (l.take (insAt lt x l) ++ (l.drop (insAt lt x l) ++ [x])) := by
    rw [List.append_assoc]
    exact List.Perm.append_left _ List.perm_append_comm
  rw [← List.append_assoc, List.take_append_drop] at h1
  exact h1
theorem insB_sorted {lt : α → α → Bool} {l : List α} {x : α} (htr : ∀ a b c, lt a b = true → lt b c = true → lt a c = true) (htot : ∀ y ∈ l, lt x y = false → lt y x = true) (hs : l.Pairwise (fun a b => lt a b = true)) : (insB lt l x).Pairwise (fun a b => lt a b = true) := by
  unfold insB
  have hsp := hs
  rw [← List.take_append_drop (insAt lt x l) l] at hsp
  obtain ⟨p1, p2, p3⟩ := List.pairwise_append.1 hsp
  have hbef : ∀ y ∈ l.take (insAt lt x l), lt y x = true := by
    intro y hy
    obtain ⟨j, hj, rfl⟩ := List.mem_iff_getElem.1 hy
    have hjl : j < insAt lt x l := by rw [List.length_take] at hj; omega
    have hle := insAt_le lt x l
    obtain ⟨z, hz, hxz⟩ := insAt_stop lt x l (by omega)
    have hzm : z ∈ l := List.mem_of_getElem? hz
    have hzx := htot z hzm hxz
    rw [List.getElem_take]
    rcases Nat.lt_or_ge j (insAt lt x l - 1) with h | h
    · have hjl2 : j < l.length := by omega
      have hil : insAt lt x l - 1 < l.length := by omega
      rw [List.getElem?_eq_getElem hil] at hz
      injection hz with hz
      have := List.pairwise_iff_getElem.1 hs j (insAt lt x l - 1) hjl2 hil h
      rw [hz] at this
      exact htr _ _ _ this hzx
    · have he : j = insAt lt x l - 1 := by omega
      subst he
      have hil : insAt lt x l - 1 < l.length := by omega
      rw [List.getElem?_eq_getElem hil] at hz
      injection hz with hz
      rw [hz]; exact hzx
  rw [List.append_assoc]
  refine List.pairwise_append.2 ⟨p1, ?_, fun a ha b hb => ?_⟩
  · rw [List.singleton_append]
    exact List.pairwise_cons.2 ⟨fun b hb => insAt_drop lt x l b hb, p2⟩
  · rw [List.singleton_append] at hb
    rcases List.mem_cons.1 hb with rfl | hb
    · exact hbef a ha
    · exact p3 a ha b hb
end
end Go.Proofs.YtpbgfdmkebnjgaaGreatDoor
