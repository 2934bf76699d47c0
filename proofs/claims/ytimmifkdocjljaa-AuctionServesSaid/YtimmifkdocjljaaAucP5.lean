/- The outcome of an auction by counts. -/
import Derived.Test.YtimmifkdocjljaaAucP4
import Derived.Test.YtimmifkdocjljaaAucLGrows
namespace Go.Proofs.Ytimmifkdocjljaa
open Go.Sort

theorem split_p {α : Type} {p : α → Bool} : ∀ {S : List α}, S.Pairwise (fun a b => p b = true → p a = true) → S = S.filter p ++ S.filter (fun x => !p x)
  | [], _ => rfl
  | x :: S, h => by
    have h1 := List.pairwise_cons.1 h
    have ih := split_p h1.2
    cases hx : p x with
    | true => simp only [List.filter_cons, hx, if_true, Bool.not_true, Bool.false_eq_true, if_false, List.cons_append]; rw [← ih]
    | false =>
      have hall : ∀ y ∈ S, p y = false := fun y hy => by
        cases hp : p y with
        | false => rfl
        | true => rw [h1.1 y hy hp] at hx; cases hx
      have e1 : S.filter p = [] := List.filter_eq_nil_iff.2 fun y hy => by rw [hall y hy]; decide
      have e2 : S.filter (fun x => !p x) = S := List.filter_eq_self.2 fun y hy => by rw [hall y hy]; rfl
      simp [hx, e1, e2]
theorem take_count {α : Type} {p : α → Bool} {S : List α} (h : S.Pairwise (fun a b => p b = true → p a = true)) (k : Nat) : (S.take k).countP p = min k (S.countP p) := by
  have e := split_p h
  have hc : S.countP p = (S.filter p).length := List.countP_eq_length_filter ..
  rw [hc]
  conv => lhs; rw [e]
  rw [List.take_append, List.countP_append]
  have h1 : ((S.filter p).take k).countP p = ((S.filter p).take k).length := List.countP_eq_length.2 fun a ha => (List.mem_filter.1 (List.mem_of_mem_take ha)).2
  have h2 : ((S.filter fun x => !p x).take (k - (S.filter p).length)).countP p = 0 := List.countP_eq_zero.2 fun a ha => by
    have := (List.mem_filter.1 (List.mem_of_mem_take ha)).2
    simpa using this
  rw [h1, h2, List.length_take]
  omega
theorem get_count {α : Type} {p : α → Bool} {S : List α} (h : S.Pairwise (fun a b => p b = true → p a = true)) {k : Nat} {u : α} (hu : S[k]? = some u) : p u = true ↔ k < S.countP p := by
  have e := split_p h
  have hc : S.countP p = (S.filter p).length := List.countP_eq_length_filter ..
  rw [hc]
  rw [e, List.getElem?_append] at hu
  split at hu
  · rename_i hk
    exact ⟨fun _ => hk, fun _ => (List.mem_filter.1 (List.mem_of_getElem? hu)).2⟩
  · rename_i hk
    have := (List.mem_filter.1 (List.mem_of_getElem? hu)).2
    constructor
    · intro hp; rw [hp] at this; cases this
    · intro hp; exact absurd hp hk
def sumN (n : Nat) (f : Nat → Nat) : Nat := ((List.range n).map f).sum
theorem sumN_succ (n : Nat) (f : Nat → Nat) : sumN (n + 1) f = sumN n f + f n := by
  unfold sumN
  rw [List.range_succ, List.map_append, List.sum_append]
  simp
theorem sumN_mono {n : Nat} {f g : Nat → Nat} (h : ∀ j, j < n → f j ≤ g j) : sumN n f ≤ sumN n g := by
  induction n with
  | zero => simp [sumN]
  | succ n ih =>
    rw [sumN_succ, sumN_succ]
    have := ih fun j hj => h j (by omega)
    have := h n (by omega)
    omega
theorem sumN_congr {n : Nat} {f g : Nat → Nat} (h : ∀ j, j < n → f j = g j) : sumN n f = sumN n g := by
  induction n with
  | zero => simp [sumN]
  | succ n ih => rw [sumN_succ, sumN_succ, ih fun j hj => h j (by omega), h n (by omega)]
/-- One place apart. -/
theorem sumN_at {n i : Nat} (hi : i < n) (f : Nat → Nat) : sumN n f = sumN n (fun j => if j = i then 0 else f j) + f i := by
  induction n with
  | zero => omega
  | succ n ih =>
    rw [sumN_succ, sumN_succ]
    by_cases hin : i = n
    · subst hin
      rw [if_pos rfl]
      have : sumN i f = sumN i (fun j => if j = i then 0 else f j) := sumN_congr fun j hj => by rw [if_neg (by omega)]
      omega
    · rw [if_neg (by omega), ih (by omega)]
      omega
theorem countP_flat {α : Type} (q : α → Bool) (c : Nat → Nat) (v : Nat → α) (e : Nat → Prop) [DecidablePred e] : ∀ n, ((List.range n).flatMap fun j => if e j then List.replicate (c j) (v j) else []).countP q = sumN n fun j => if e j ∧ q (v j) = true then c j else 0
  | 0 => by simp [sumN]
  | n + 1 => by
    rw [List.range_succ, List.flatMap_append, List.countP_append, countP_flat q c v e n, sumN_succ]
    congr 1
    simp only [List.flatMap_cons, List.flatMap_nil, List.append_nil]
    by_cases he : e n
    · rw [if_pos he, List.countP_replicate]
      cases hq : q (v n) <;> simp [he]
    · rw [if_neg he]; simp [he]

theorem unit_pw (u : List AuctionUnit) : (unitCmp_sorted u).Pairwise fun a b => ltOf unitCmp b a = false := by
  have h := List.pairwise_mergeSort (le := fun x y => !(ltOf unitCmp) y x) (fun a b c h1 h2 => by
    simp only [Bool.not_eq_true'] at *
    exact unit_swo.ntrans c b a h2 h1) (fun a b => by
    cases h1 : ltOf unitCmp b a with
    | false => rfl
    | true =>
      cases h2 : ltOf unitCmp a b with
      | false => rfl
      | true => have := unit_swo.trans _ _ _ h1 h2; rw [unit_swo.irrefl] at this; cases this) u
  exact h.imp fun h => by simpa using h
theorem sorted_count (q : AuctionUnit → Bool) (u : List AuctionUnit) : (unitCmp_sorted u).countP q = u.countP q := (List.mergeSort_perm _ _).countP_eq q
def cB (l : List ApiBid) (res p : Int) (i : Nat) : Nat := sumN l.length fun (j : Nat) => if res ≤ (ix l (j : Int)).Price ∧ (p < (ix l (j : Int)).Price ∨ (ix l (j : Int)).Price = p ∧ j < i) then (ix l (j : Int)).Count.toNat else 0
def cA (l : List ApiBid) (res t : Int) : Nat := sumN l.length fun (j : Nat) => if res ≤ (ix l (j : Int)).Price ∧ t ≤ (ix l (j : Int)).Price then (ix l (j : Int)).Count.toNat else 0
def cC (l : List ApiBid) (res : Int) (i : Nat) : Nat := if res ≤ (ix l (i : Int)).Price then (ix l (i : Int)).Count.toNat else 0
def pB (p : Int) (i : Nat) (x : AuctionUnit) : Bool := decide (p < x.price_ ∨ x.price_ = p ∧ x.bid_ < (i : Int))
theorem count_B (l : List ApiBid) (res p : Int) (i : Nat) : (unitsF l res).countP (pB p i) = cB l res p i := by
  unfold unitsF unitsTo cB
  rw [countP_flat (pB p i) (fun j => (ix l (j : Int)).Count.toNat) (fun j => ⟨(ix l (j : Int)).Price, j⟩) (fun j => res ≤ (ix l (j : Int)).Price)]
  refine sumN_congr fun j hj => ?_
  simp only [pB, decide_eq_true_eq, Int.ofNat_lt]
theorem count_A (l : List ApiBid) (res t : Int) : (unitsF l res).countP (fun x => decide (t ≤ x.price_)) = cA l res t := by
  unfold unitsF unitsTo cA
  rw [countP_flat (fun x : AuctionUnit => decide (t ≤ x.price_)) (fun j => (ix l (j : Int)).Count.toNat) (fun j => ⟨(ix l (j : Int)).Price, j⟩) (fun j => res ≤ (ix l (j : Int)).Price)]
  refine sumN_congr fun j hj => ?_
  simp only [decide_eq_true_eq]
theorem count_C {l : List ApiBid} {i : Nat} (hi : i < l.length) (res : Int) : (unitsF l res).countP (fun x => decide (x.bid_ = (i : Int))) = cC l res i := by
  unfold unitsF unitsTo cC
  rw [countP_flat (fun x : AuctionUnit => decide (x.bid_ = (i : Int))) (fun j => (ix l (j : Int)).Count.toNat) (fun j => ⟨(ix l (j : Int)).Price, j⟩) (fun j => res ≤ (ix l (j : Int)).Price)]
  rw [sumN_at hi]
  have e0 : sumN l.length (fun j => if j = i then 0 else if res ≤ (ix l (j : Int)).Price ∧ (decide (((j : Nat) : Int) = (i : Int))) = true then (ix l (j : Int)).Count.toNat else 0) = sumN l.length fun _ => 0 := sumN_congr fun j _ => by
    by_cases h : j = i
    · rw [if_pos h]
    · rw [if_neg h, if_neg (by simp; omega)]
  have e1 : ∀ n, sumN n (fun _ => 0) = 0 := fun n => by induction n with
    | zero => rfl
    | succ n ih => rw [sumN_succ, ih]
  rw [e0, e1, Nat.zero_add]
  simp
theorem count_or {α : Type} {p q r : α → Bool} : ∀ {S : List α}, (∀ x ∈ S, r x = (p x || q x) ∧ (p x && q x) = false) → S.countP r = S.countP p + S.countP q
  | [], _ => rfl
  | x :: S, h => by
    have ih := count_or fun y hy => h y (List.mem_cons_of_mem _ hy)
    obtain ⟨h1, h2⟩ := h x (List.mem_cons_self ..)
    rw [List.countP_cons, List.countP_cons, List.countP_cons, ih, h1]
    cases hp : p x <;> cases hq : q x <;> simp_all <;> omega
theorem won_len (l : List ApiBid) (supply res : Int) : (runF l supply res).Won.length = l.length := by simp [runF, wonOf]
theorem won_eq {l : List ApiBid} {i : Nat} (hi : i < l.length) (supply res : Int) : ix (runF l supply res).Won (i : Int) = ((min supply.toNat (cB l res (ix l (i : Int)).Price i + cC l res i) - min supply.toNat (cB l res (ix l (i : Int)).Price i) : Nat) : Int) := by
  have e0 : ix (runF l supply res).Won (i : Int) = ((((unitCmp_sorted (unitsF l res)).take supply.toNat).countP fun x => decide (x.bid_ = (i : Int)) : Nat) : Int) := by
    rw [ix_nat (by rw [won_len]; exact hi)]
    simp [runF, wonOf]
  rw [e0]
  have hS := fun u (hu : u ∈ unitCmp_sorted (unitsF l res)) => sorted_mem hu
  have hpw := unit_pw (unitsF l res)
  have hor : ∀ x ∈ unitCmp_sorted (unitsF l res), (pB (ix l (i : Int)).Price i x || decide (x.bid_ = (i : Int))) = (pB (ix l (i : Int)).Price i x || decide (x.bid_ = (i : Int))) ∧ (pB (ix l (i : Int)).Price i x && decide (x.bid_ = (i : Int))) = false := fun x hx => by
    refine ⟨rfl, ?_⟩
    obtain ⟨b, hb, h1, h2, h3⟩ := hS x hx
    by_cases hbi : x.bid_ = (i : Int)
    · have : b = i := by omega
      subst this
      simp [pB, h2, h1]
    · simp [hbi]
  have c1 := count_or (S := (unitCmp_sorted (unitsF l res)).take supply.toNat) fun x hx => hor x (List.mem_of_mem_take hx)
  have c2 := count_or hor
  have d1 : (unitCmp_sorted (unitsF l res)).Pairwise fun a b => pB (ix l (i : Int)).Price i b = true → pB (ix l (i : Int)).Price i a = true := hpw.imp fun {a b} h hb => by
    rw [unit_lt] at h
    simp only [pB, decide_eq_true_eq, decide_eq_false_iff_not] at *
    omega
  have d2 : (unitCmp_sorted (unitsF l res)).Pairwise fun a b => (pB (ix l (i : Int)).Price i b || decide (b.bid_ = (i : Int))) = true → (pB (ix l (i : Int)).Price i a || decide (a.bid_ = (i : Int))) = true := by
    refine (List.pairwise_iff_forall_sublist.2 fun {a b} hab => ?_)
    have h := List.pairwise_iff_forall_sublist.1 hpw hab
    obtain ⟨b', hb', q1, q2, q3⟩ := hS b (hab.subset (by simp))
    obtain ⟨a', ha', r1, r2, r3⟩ := hS a (hab.subset (by simp))
    rw [unit_lt] at h
    intro hb
    simp only [pB, Bool.or_eq_true, decide_eq_true_eq, decide_eq_false_iff_not] at *
    rcases hb with hb | hb
    · left; omega
    · have e1 : b' = i := by omega
      subst e1
      by_cases hai : a.bid_ = (b' : Int)
      · right; exact hai
      · left; omega
  rw [take_count d2, take_count d1] at c1
  rw [sorted_count, sorted_count, sorted_count, count_B, count_C hi] at c2
  rw [sorted_count, sorted_count, c2, count_B] at c1
  omega
theorem price_ge (l : List ApiBid) (supply res : Int) : res ≤ (runF l supply res).Price := by
  unfold runF
  simp only
  split
  · rename_i u hu
    obtain ⟨_, _, _, _, h⟩ := sorted_mem (List.mem_of_getElem? hu)
    exact h
  · exact Int.le_refl _
theorem price_iff (l : List ApiBid) (supply res t : Int) (ht : res < t) : t ≤ (runF l supply res).Price ↔ supply.toNat < cA l res t := by
  have d : (unitCmp_sorted (unitsF l res)).Pairwise fun a b => decide (t ≤ b.price_) = true → decide (t ≤ a.price_) = true := (unit_pw (unitsF l res)).imp fun {a b} h hb => by
    rw [unit_lt] at h
    simp only [decide_eq_true_eq, decide_eq_false_iff_not] at *
    omega
  rw [← count_A, ← sorted_count]
  unfold runF
  simp only
  split
  · rename_i u hu
    have := get_count d hu
    simpa using this
  · rename_i hn
    have h1 := List.getElem?_eq_none_iff.1 hn
    have h2 : (unitCmp_sorted (unitsF l res)).countP (fun x => decide (t ≤ x.price_)) ≤ (unitCmp_sorted (unitsF l res)).length := List.countP_le_length
    constructor
    · intro h; omega
    · intro h; omega
theorem runAll_ok {l : List ApiBid} {supply res : Int} (h : (runAll l supply res).2 = 0) : checkF l = 0 ∧ ¬ argsBad supply res ∧ runAll l supply res = (runF l supply res, 0) := by
  unfold runAll at *
  by_cases hc : checkF l = 0
  · rw [if_neg (by simpa using hc)] at *
    by_cases ha : argsBad supply res
    · rw [if_pos ha] at h; cases h
    · rw [if_neg ha]; exact ⟨hc, ha, rfl⟩
  · rw [if_pos hc] at h; exact absurd h hc
theorem lawGrows_eq {N : Nat} (hN : 7000 < N) (l : List ApiBid) (x : Arr3Int) : m_recyclinglaw51_AuctionGrows N l x = some true := by
  unfold m_recyclinglaw51_AuctionGrows
  rw [awake_eq hN, progRun_eq hN, progRun_eq hN]
  simp only [Option.bind_some]
  split
  · rfl
  · rename_i h0
    simp only [Bool.or_eq_true, decide_eq_true_eq, not_or] at h0
    split
    · rfl
    · rename_i h1
      simp only [Bool.or_eq_true, decide_eq_true_eq, not_or, Decidable.not_not] at h1
      obtain ⟨hc, ha, e1⟩ := runAll_ok h1.1
      obtain ⟨_, hb, e2⟩ := runAll_ok h1.2
      rw [e1, e2]
      simp only [won_len]
      unfold argsBad at ha hb
      have hp : ¬ (runF l x.E0 x.E2).Price < (runF l x.E1 x.E2).Price := fun hlt => by
        have g1 := price_ge l x.E0 x.E2
        have g2 := (price_iff l x.E1 x.E2 (runF l x.E1 x.E2).Price (by omega)).1 (Int.le_refl _)
        have g3 := (price_iff l x.E0 x.E2 (runF l x.E1 x.E2).Price (by omega)).2 (by omega)
        omega
      rw [if_neg (by simpa using hp)]
      rw [scan (n := l.length) (fun _ => none) (t := ()) ?_ ?_ (by omega)]
      · have : (List.range l.length).findSome? (fun _ => (none : Option Bool)) = none := List.findSome?_eq_none_iff.2 fun _ _ => rfl
        rw [this]; rfl
      · intro i hi
        have hw : ¬ ix (runF l x.E1 x.E2).Won (i : Int) < ix (runF l x.E0 x.E2).Won (i : Int) := by
          rw [won_eq hi, won_eq hi]
          omega
        rw [if_pos (by omega), ck_true ⟨by omega, by omega⟩, ck_true ⟨by omega, by omega⟩, if_neg hw, ck_true (i64_succ (by omega))]
      · simp
end Go.Proofs.Ytimmifkdocjljaa
