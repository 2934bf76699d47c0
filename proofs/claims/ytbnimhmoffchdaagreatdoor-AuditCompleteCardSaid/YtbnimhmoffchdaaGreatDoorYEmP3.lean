/- Layer 18 in plain words: whose records they are. -/
import Derived.Test.YtbnimhmoffchdaaGreatDoorYEmP2
namespace Go.Proofs.YtbnimhmoffchdaaGreatDoor

theorem then_post {τ β σ ρ : Type} {f : σ → Option (Step σ (Step β ρ))} {N : Nat} {s0 : σ} {k : β → Option ρ} (Post : ρ → Prop) (n : Nat) (mk : τ → Int → σ) (fin : τ → β) (inv : Nat → τ → Prop) (t0 : τ) (hs0 : s0 = mk t0 0) (h0 : inv 0 t0) (hN : n < N)
  (h : ∀ (i : Nat) t, i < n → inv i t → (∃ t', f (mk t (i : Int)) = some (.next (mk t' ((i : Int) + 1))) ∧ inv (i + 1) t') ∨ ∃ r, f (mk t (i : Int)) = some (.done (.done r)) ∧ Post r)
  (he : ∀ t, inv n t → f (mk t (n : Int)) = some (.done (.next (fin t)))) (h1 : ∀ t, inv n t → ∃ r, k (fin t) = some r ∧ Post r) : ∃ r, andThen (loopM f N s0) k = some r ∧ Post r := by
 rcases loop_exE n mk fin inv Post t0 hs0 h0 h he hN with ⟨t, ht, e⟩ | ⟨r, hr, e⟩
 ·rw [e]; exact h1 t ht
 ·rw [e]; exact ⟨r, rfl, hr⟩

/-! ### Owners -/
def asgAt (c t : Int) (x : ApiAssign) : Bool := (decide (x.Container = c) && decide (x.When.From ≤ t)) && decide (t < x.When.To)
def ownerF (a : List ApiAssign) (c t : Int) : Option Int := (a.find? (asgAt c t)).map ApiAssign.Household
theorem owner_eq {N : Nat} {a : List ApiAssign} (hN : a.length < N) (ha : a.length ≤ 100000) (c t : Int) : m_household_Owner N a c t = some ((ownerF a c t).getD 0, (ownerF a c t).isSome) := by
 unfold m_household_Owner
 have h1 : m_household_chosen_household_Owner_1 N a c t = some (a.filter (asgAt c t)) := by
  unfold m_household_chosen_household_Owner_1
  refine then_ex a.length (fun (t : List ApiAssign) i => (t, i)) (fun t => t) (fun i s => s = (a.take i).filter (asgAt c t)) [] rfl rfl hN (fun i s hi hs => ?_) (fun s _ => by (try simp only); rw [if_neg (by omega)]) (fun s hs => by rw [hs, List.take_length])
  have h3 : I64 ((i : Int) + 1) := by unfold I64; omega
  have hsl : s.length ≤ i := by rw [hs]; exact Nat.le_trans (List.length_filter_le _ _) (by rw [List.length_take]; omega)
  refine ⟨_, ?_, rfl⟩
  try simp only
  rw [if_pos (by omega), ck_true ⟨by omega, by omega⟩, ix_nat hi, take_succ_get hi, List.filter_append, ← hs]
  unfold m_household_Owner_1
  rw [Option.bind_some]
  change andThen (if asgAt c t a[i] = true then _ else _) _ = _
  cases h : asgAt c t a[i] with
  | true => simp only [if_true]; rw [ck_true (by simp; omega), andThen_next, ck_true h3]; simp [h]
  | false => simp only [Bool.false_eq_true, if_false]; rw [andThen_next, ck_true h3]; simp [h]
 rw [h1, Option.bind_some]
 unfold ownerF
 rw [← List.head?_filter]
 cases hf : a.filter (asgAt c t) with
 | nil => rfl
 | cons x r =>
  rw [if_neg (by simp; omega), ck_true ⟨by omega, by simp⟩]
  rfl
theorem belongs_eq {N : Nat} {a : List ApiAssign} (hN : a.length < N) (ha : a.length ≤ 100000) (c h t : Int) : m_recyclingref18_Belongs N a c h t = some (decide (ownerF a c t = some h)) := by
 unfold m_recyclingref18_Belongs
 refine then_exE a.length (fun (_ : Unit) i => i) (fun _ => ()) (fun i _ => ∀ x ∈ a.take i, asgAt c t x = false) (fun r => r = decide (ownerF a c t = some h)) () rfl (by simp) hN (fun i s hi hs => ?_) (fun s _ => by (try simp only); rw [if_neg (by omega)]) (fun s hs => ?_) (fun r hr => by rw [hr])
 ·have h1 : (0 : Int) ≤ (i : Int) ∧ (i : Int) < (a.length : Int) := ⟨by omega, by omega⟩
  have h3 : I64 ((i : Int) + 1) := by unfold I64; omega
  try simp only
  rw [if_pos (by omega), ck_true h1, ck_true (fun _ => h1), ck_true (fun _ => h1), ix_nat hi]
  change (∃ t', (if asgAt c t a[i] = true then _ else _) = _ ∧ _) ∨ ∃ r, (if asgAt c t a[i] = true then _ else _) = _ ∧ _
  cases hx : asgAt c t a[i] with
  | false =>
   left
   simp only [Bool.false_eq_true, if_false]
   rw [ck_true h3]
   refine ⟨(), rfl, fun x hm => ?_⟩
   rw [take_succ_get hi] at hm
   rcases List.mem_append.1 hm with hm | hm
   ·exact hs x hm
   ·rw [List.mem_singleton] at hm; subst hm; exact hx
  | true =>
   right
   simp only [if_true]
   rw [ck_true h1]
   refine ⟨_, rfl, ?_⟩
   have : a.find? (asgAt c t) = some a[i] := by
    rw [List.find?_eq_some_iff_getElem]
    refine ⟨hx, i, hi, rfl, fun j hj => ?_⟩
    rw [hs a[j] (by rw [List.mem_take_iff_getElem]; exact ⟨j, by omega, rfl⟩)]
    rfl
   unfold ownerF
   rw [this]
   simp
 ·rw [List.take_length] at hs
  have : a.find? (asgAt c t) = none := List.find?_eq_none.2 fun x hx => by rw [hs x hx]; decide
  unfold ownerF
  rw [this]
  simp

/-! ### Records of a household -/
def winOk (w : ApiWindow) : Bool := (decide (0 ≤ w.From) && decide (w.From ≤ w.To)) && decide (w.To ≤ 3155760000)
def emMine (l : List ApiEmptying) (a : List ApiAssign) (h : Int) (w : ApiWindow) (i : Int) : Bool := (decide (w.From ≤ (ix l i).At) && decide ((ix l i).At < w.To)) && decide (ownerF a (ix l i).Container (ix l i).At = some h)
def emOf (l : List ApiEmptying) (a : List ApiAssign) (h : Int) (w : ApiWindow) (gap : Int) : List Int × Int :=
 if (emCounts l gap).2 ≠ 0 then ([], (emCounts l gap).2) else if winOk w = false then ([], 1) else ((emCounts l gap).1.filter (emMine l a h w), 0)
theorem emCounts_zero {l : List ApiEmptying} {gap : Int} (h : (emCounts l gap).2 = 0) : emCheck l 256 16 = 0 ∧ (0 ≤ gap ∧ gap ≤ 86400) ∧ (emCounts l gap).1 = emSel l gap := by
 unfold emCounts at h ⊢
 split
 ·rename_i hc; rw [if_pos hc] at h; exact absurd h hc
 ·rename_i hc
  rw [if_neg hc] at h
  split
  ·rename_i hg; rw [if_pos hg] at h; exact absurd h (by decide)
  ·exact ⟨by simpa using hc, by omega, rfl⟩
theorem emSel_mem {l : List ApiEmptying} {gap x : Int} (h : x ∈ emSel l gap) : 0 ≤ x ∧ x < l.length := by
 rcases emKeep_sub l gap _ _ x h with h | h
 ·cases h
 ·exact emOrder_mem.1 h
theorem emSel_len (l : List ApiEmptying) (gap : Int) : (emSel l gap).length ≤ l.length := by
 have := emKeep_len l gap (emOrder l) []
 rw [emOrder_len] at this
 unfold emSel
 simp at this; omega
theorem refOf_eq {N : Nat} (hN : 700 < N) (l : List ApiEmptying) {a : List ApiAssign} (haN : a.length < N) (ha : a.length ≤ 100000) (h : Int) (w : ApiWindow) (gap : Int) : m_recyclingref18_Of N l a h w gap = some (emOf l a h w gap) := by
 unfold m_recyclingref18_Of emOf m_recyclingref18_Window
 rw [refCounts_eq hN, Option.bind_some]
 by_cases hc : (emCounts l gap).2 = 0
 ·have hc' : ¬ (emCounts l gap).2 ≠ 0 := by simpa using hc
  rw [if_neg hc', if_neg hc', Option.bind_some]
  change (if (!winOk w) = true then _ else _) = _
  cases hw : winOk w with
  | false => rfl
  | true =>
   obtain ⟨hck, hg, hs⟩ := emCounts_zero hc
   obtain ⟨hl, hv, hn⟩ := emCheck_zero hck
   simp only [Bool.not_true, Bool.false_eq_true, if_false]
   rw [if_neg (by decide), hs]
   have hsl := emSel_len l gap
   refine then_ex (emSel l gap).length (fun (t : List Int) i => (t, i)) (fun t => t) (fun i s => s = ((emSel l gap).take i).filter (emMine l a h w)) [] rfl rfl (by omega) (fun i s hi hss => ?_) (fun s _ => by (try simp only); rw [if_neg (by omega)]) (fun s hss => by rw [hss, List.take_length])
   have h1 : (0 : Int) ≤ (i : Int) ∧ (i : Int) < ((emSel l gap).length : Int) := ⟨by omega, by omega⟩
   have h3 : I64 ((i : Int) + 1) := by unfold I64; omega
   have hx := emSel_mem (List.getElem_mem hi)
   have hsl2 : s.length ≤ i := by rw [hss]; exact Nat.le_trans (List.length_filter_le _ _) (by rw [List.length_take]; omega)
   refine ⟨_, ?_, rfl⟩
   try simp only
   rw [if_pos (by omega), ck_true h1, ix_nat hi, ck_true hx, take_succ_get hi, List.filter_append, ← hss]
   unfold callIf
   generalize hxx : (emSel l gap)[i] = x at hx
   have hm : emMine l a h w x = ((decide (w.From ≤ (ix l x).At) && decide ((ix l x).At < w.To)) && decide (ownerF a (ix l x).Container (ix l x).At = some h)) := rfl
   cases hb : (decide (w.From ≤ (ix l x).At) && decide ((ix l x).At < w.To)) with
   | false =>
    rw [hb, Bool.false_and] at hm
    simp only [Bool.false_eq_true, if_false, Bool.false_and]
    rw [andThen_next, ck_true h3]
    simp [hm]
   | true =>
    rw [hb, Bool.true_and] at hm
    simp only [if_true, Bool.true_and]
    rw [belongs_eq haN ha, Option.bind_some, ← hm]
    cases hmm : emMine l a h w x with
    | false => simp only [Bool.false_eq_true, if_false]; rw [andThen_next, ck_true h3]; simp [hmm]
    | true => simp only [if_true]; rw [ck_true h1, ck_true (by simp; omega), andThen_next, ck_true h3]; simp [hmm]
 ·rw [if_pos hc, if_pos hc]
theorem of1_eq {N : Nat} (l : List ApiEmptying) {a : List ApiAssign} (haN : a.length < N) (ha : a.length ≤ 100000) (h : Int) (w : ApiWindow) {x : Int} (hx : 0 ≤ x ∧ x < l.length) : m_emptying_Of_1 N x a l w h = some (!emMine l a h w x) := by
 unfold m_emptying_Of_1 m_emptying_in
 rw [ck_true hx, ck_true hx, owner_eq haN ha, Option.bind_some, ck_true hx, Option.bind_some]
 congr 1
 unfold emMine
 cases ho : ownerF a (ix l x).Container (ix l x).At with
 | none => simp
 | some q =>
  simp only [Option.isSome_some, Option.getD_some, Bool.not_true, Bool.or_false, Option.some.injEq]
  cases (decide (w.From ≤ (ix l x).At) && decide ((ix l x).At < w.To)) <;> simp
theorem filter_not_all {α : Type} {p : α → Bool} {l : List α} (h : ∀ x ∈ l, p x = true) : l.filter p = l := List.filter_eq_self.2 h
theorem delete_eq {N : Nat} (l : List ApiEmptying) {a : List ApiAssign} (haN : a.length < N) (ha : a.length ≤ 100000) (h : Int) (w : ApiWindow) {s : List Int} (hs : ∀ x ∈ s, 0 ≤ x ∧ x < (l.length : Int)) (hsN : s.length < N) (hs6 : s.length ≤ 100000) :
  m_slices_DeleteFunc N s a l w h = some (s.filter (emMine l a h w)) := by
 have hidx : ∃ r, m_slices_IndexFunc_emptying_Of_1 N s a l w h = some r ∧ ((r = -1 ∧ ∀ x ∈ s, emMine l a h w x = true) ∨ ∃ k : Nat, r = (k : Int) ∧ k < s.length ∧ (∀ x ∈ s.take k, emMine l a h w x = true) ∧ ∀ hk : k < s.length, emMine l a h w s[k] = false) := by
  unfold m_slices_IndexFunc_emptying_Of_1
  refine then_post _ s.length (fun (_ : Unit) i => i) (fun _ => ()) (fun i _ => ∀ x ∈ s.take i, emMine l a h w x = true) () rfl (by simp) hsN (fun i t hi ht => ?_) (fun t _ => by (try simp only); rw [if_neg (by omega)]) (fun t ht => ⟨-1, rfl, .inl ⟨rfl, by rwa [List.take_length] at ht⟩⟩)
  have h3 : I64 ((i : Int) + 1) := by unfold I64; omega
  try simp only
  rw [if_pos (by omega), ck_true ⟨by omega, by omega⟩, ix_nat hi, of1_eq l haN ha h w (hs _ (List.getElem_mem hi)), Option.bind_some]
  cases hm : emMine l a h w s[i] with
  | true =>
   left
   simp only [Bool.not_true, Bool.false_eq_true, if_false]
   rw [ck_true h3]
   refine ⟨(), rfl, fun x hx => ?_⟩
   rw [take_succ_get hi] at hx
   rcases List.mem_append.1 hx with hx | hx
   ·exact ht x hx
   ·rw [List.mem_singleton] at hx; subst hx; exact hm
  | false =>
   right
   simp only [Bool.not_false, if_true]
   exact ⟨_, rfl, .inr ⟨i, rfl, hi, ht, fun _ => hm⟩⟩
 obtain ⟨r, hr, hpost⟩ := hidx
 unfold m_slices_DeleteFunc
 rw [hr, Option.bind_some]
 rcases hpost with ⟨rfl, hall⟩ | ⟨k, rfl, hk, hpre, hhit⟩
 ·rw [if_pos rfl, filter_not_all hall]
 ·rw [if_neg (by omega), ck_true (by unfold I64; omega)]
  have hhit := hhit hk
  refine then_ex (s.length - (k + 1)) (fun (t : List Int × Nat) i => (t.1, (t.2 : Int), i + ((k : Int) + 1))) (fun t => (t.1, (t.2 : Int)))
   (fun i t => t.1.length = s.length ∧ t.2 ≤ k + i ∧ t.1.take t.2 = (s.take (k + 1 + i)).filter (emMine l a h w) ∧ t.1.drop (k + 1 + i) = s.drop (k + 1 + i)) (s, k) (by simp) ?_ (by omega) (fun i t hi ht => ?_) (fun t ht => ?_) (fun t ht => ?_)
  ·refine ⟨rfl, by omega, ?_, rfl⟩
   rw [Nat.add_zero, take_succ_get hk, List.filter_append, filter_not_all hpre]
   simp [hhit]
  ·obtain ⟨s1, m⟩ := t
   obtain ⟨t1, t2, t3, t4⟩ := ht
   simp only at t1 t2 t3 t4
   have hj : k + 1 + i < s.length := by omega
   have hj1 : k + 1 + i < s1.length := by omega
   have ej : ((i : Int) + ((k : Int) + 1)) = ((k + 1 + i : Nat) : Int) := by omega
   have h3 : I64 (((k + 1 + i : Nat) : Int) + 1) := by unfold I64; omega
   have hget : s1[k + 1 + i] = s[k + 1 + i] := by
    have e1 := List.drop_eq_getElem_cons hj1
    have e2 := List.drop_eq_getElem_cons hj
    rw [t4, e2] at e1
    injection e1 with e1 _
    exact e1.symm
   have hdr : s1.drop (k + 1 + i + 1) = s.drop (k + 1 + i + 1) := by
    have e1 := List.drop_eq_getElem_cons hj1
    have e2 := List.drop_eq_getElem_cons hj
    rw [t4, e2] at e1
    injection e1 with _ e1
    exact e1.symm
   have hx := hs _ (List.getElem_mem hj)
   simp only
   rw [ej, if_pos (by omega), ck_true ⟨by omega, by omega⟩, ix_nat hj1, hget, of1_eq l haN ha h w hx, Option.bind_some]
   cases hm : emMine l a h w s[k + 1 + i] with
   | true =>
    refine ⟨(s1.set m s[k + 1 + i], m + 1), ?_, by simp [t1], by simp only; omega, ?_, ?_⟩
    ·simp only [Bool.not_true, Bool.not_false, if_true]
     rw [ck_true ⟨by omega, by omega⟩, ck_true (by unfold I64; omega), andThen_next, ck_true h3, Int.toNat_natCast]
     congr 4
     omega
    ·simp only
     have e1 : k + 1 + (i + 1) = k + 1 + i + 1 := by omega
     rw [e1, take_succ_get hj, List.filter_append, ← t3, List.filter_cons, if_pos hm, List.filter_nil]
     have hm1 : m < s1.length := by omega
     rw [take_succ_get (l := s1.set m s[k + 1 + i]) (by simpa using hm1)]
     simp [List.take_set_of_le]
    ·simp only
     have e1 : k + 1 + (i + 1) = k + 1 + i + 1 := by omega
     rw [e1, List.drop_set_of_lt (by omega), hdr]
   | false =>
    refine ⟨(s1, m), ?_, t1, by simp only; omega, ?_, ?_⟩
    ·simp only [Bool.not_false, Bool.not_true, Bool.false_eq_true, if_false]
     rw [andThen_next, ck_true h3]
     congr 4
     omega
    ·simp only
     have e1 : k + 1 + (i + 1) = k + 1 + i + 1 := by omega
     rw [e1, take_succ_get hj, List.filter_append, ← t3]
     simp [hm]
    ·simp only
     have e1 : k + 1 + (i + 1) = k + 1 + i + 1 := by omega
     rw [e1, hdr]
  ·obtain ⟨t1, _⟩ := ht
   simp only
   rw [if_neg (by omega)]
  ·obtain ⟨t1, t2, t3, t4⟩ := ht
   have e1 : k + 1 + (s.length - (k + 1)) = s.length := by omega
   rw [e1, List.take_length] at t3
   have hc : (clearAt t.1 t.2 (0 : Int)).length = t.1.length := clearAt_len _ _ (by omega)
   simp only
   rw [ck_true ⟨by omega, by omega⟩, Int.toNat_natCast, ck_true ⟨by omega, by omega⟩]
   congr 1
   rw [← t3]
   unfold clearAt
   rw [List.take_append_of_le_length (by rw [List.length_take]; omega), List.take_take, Nat.min_self]
theorem progOf_eq {N : Nat} (hN : 700 < N) (l : List ApiEmptying) {a : List ApiAssign} (haN : a.length < N) (ha : a.length ≤ 100000) (h : Int) (w : ApiWindow) (gap : Int) : m_emptying_Of N l a h w gap = some (emOf l a h w gap) := by
 unfold m_emptying_Of emOf m_emptying_window
 rw [progECounts_eq hN, Option.bind_some]
 by_cases hc : (emCounts l gap).2 = 0
 ·have hc' : ¬ (emCounts l gap).2 ≠ 0 := by simpa using hc
  rw [if_neg hc', if_neg hc', Option.bind_some]
  change (if (!winOk w) = true then _ else _) = _
  cases hw : winOk w with
  | false => rfl
  | true =>
   obtain ⟨hck, hg, hs⟩ := emCounts_zero hc
   obtain ⟨hl, hv, hn⟩ := emCheck_zero hck
   have hsl := emSel_len l gap
   simp only [Bool.not_true, Bool.false_eq_true, if_false]
   rw [if_neg (by decide), hs, delete_eq l haN ha h w (fun x hx => emSel_mem hx) (by omega) (by omega), Option.bind_some]
 ·rw [if_pos hc, if_pos hc]
end Go.Proofs.YtbnimhmoffchdaaGreatDoor
