/- Layer 59 in plain words: Fees, Money, Deposits. -/
import Derived.Test.YtbnimhmoffchdaaGreatDoorAuR
import Derived.Test.YtbnimhmoffchdaaGreatDoorZC4
import Derived.Test.YtbnimhmoffchdaaGreatDoorZLComplete
namespace Go.Proofs.YtbnimhmoffchdaaGreatDoor
attribute [local instance] jfTrue

/-! ### Searches -/
def fst1 (q : Nat → Bool) (n : Nat) : Option Nat := (List.range n).find? q
theorem fst1_some {q : Nat → Bool} {n j : Nat} (h : fst1 q n = some j) : q j = true ∧ j < n ∧ ∀ k, k < j → q k = false := by
 obtain ⟨h1, h2, h3⟩ := List.find?_range_eq_some.1 h
 exact ⟨h1, List.mem_range.1 h2, fun k hk => by simpa using h3 k hk⟩
theorem fst1_none {q : Nat → Bool} {n : Nat} (h : fst1 q n = none) {j : Nat} (hj : j < n) : q j = false := by
 have := List.find?_eq_none.1 h j (List.mem_range.2 hj)
 simpa using this
theorem fst1_intro {q : Nat → Bool} {n j : Nat} (h1 : q j = true) (h2 : j < n) (h3 : ∀ k, k < j → q k = false) : fst1 q n = some j :=
 List.find?_range_eq_some.2 ⟨h1, List.mem_range.2 h2, fun k hk => by simp [h3 k hk]⟩
theorem fst1_not {q : Nat → Bool} {n : Nat} (h : ∀ j, j < n → q j = false) : fst1 q n = none :=
 List.find?_eq_none.2 fun j hj => by simp [h j (List.mem_range.1 hj)]
/-- A loop that stops at the first place at which something holds. -/
theorem loop_fst {ρ : Type} {f : Int → Option (Step Int ρ)} {N : Nat} (n : Nat) (q : Nat → Bool) (val : Nat → ρ) (dflt : ρ) (h : ∀ i : Nat, i < n → f (i : Int) = if q i = true then some (.done (val i)) else some (.next ((i : Int) + 1)))
  (he : f (n : Int) = some (.done dflt)) (hN : n < N) : loopM f N 0 = some (match fst1 q n with | some j => val j | none => dflt) := by
 have key : ∀ (k i : Nat) (M : Nat), i + k = n → k < M → (∀ j, j < i → q j = false) → loopM f M (i : Int) = some (match fst1 q n with | some j => val j | none => dflt) := by
  intro k
  induction k with
  | zero =>
   intro i M hi hM hq
   obtain ⟨M, rfl⟩ : ∃ m, M = m + 1 := ⟨M - 1, by omega⟩
   obtain rfl : i = n := by omega
   rw [fst1_not hq]
   rw [loopM, he]
  | succ k ih =>
   intro i M hi hM hq
   obtain ⟨M, rfl⟩ : ∃ m, M = m + 1 := ⟨M - 1, by omega⟩
   rw [loopM, h i (by omega)]
   cases hqi : q i with
   | true =>
    rw [if_pos rfl, fst1_intro hqi (by omega) hq]
   | false =>
    rw [if_neg (by decide)]
    show loopM f M ((i : Int) + 1) = _
    have := ih (i + 1) M (by omega) (by omega) fun j hj => by
     by_cases e : j = i
     ·rw [e]; exact hqi
     ·exact hq j (by omega)
    rwa [show ((i + 1 : Nat) : Int) = (i : Int) + 1 by omega] at this
 exact key n 0 N (by omega) hN fun j hj => absurd hj (Nat.not_lt_zero _)
/-- The first place in the whole list, or ahead of a place at which it holds. -/
theorem fst1_cut {q : Nat → Bool} {i n : Nat} (hi : i < n) (hq : q i = true) : ∃ j, fst1 q n = some j ∧ j ≤ i ∧ fst1 q i = if j < i then some j else none := by
 cases h : fst1 q n with
 | none => rw [fst1_none h hi] at hq; cases hq
 | some j =>
  obtain ⟨h1, h2, h3⟩ := fst1_some h
  have hle : j ≤ i := Nat.le_of_not_lt fun hlt => by rw [h3 i hlt] at hq; cases hq
  refine ⟨j, rfl, hle, ?_⟩
  by_cases e : j < i
  ·rw [if_pos e]; exact fst1_intro h1 e h3
  ·rw [if_neg e]; exact fst1_not fun k hk => h3 k (by omega)

/-! ### Fees -/
def gF (m : Int) (t : Int × Bool) (x : ApiFee) : Int × Bool :=
 if x.Material ≠ m then t else if ((t.2 && decide (0 ≤ x.Amount)) && decide (x.Amount ≤ 1000000000000)) = true then (t.1 + x.Amount, (t.2 && decide (0 ≤ x.Amount)) && decide (x.Amount ≤ 1000000000000)) else (t.1, (t.2 && decide (0 ≤ x.Amount)) && decide (x.Amount ≤ 1000000000000))
def rF (m : Int) (t : Int × Bool) (x : ApiFee) : Int × Bool :=
 if x.Material ≠ m then t else if (decide (x.Amount < 0) || decide (1000000000000 < x.Amount)) = true then (t.1, false) else (t.1 + x.Amount, t.2)
theorem gF_bound (m : Int) (i : Nat) (t : Int × Bool) (x : ApiFee) (h : 0 ≤ t.1 ∧ t.1 ≤ (i : Int) * 1000000000000) : 0 ≤ (gF m t x).1 ∧ (gF m t x).1 ≤ ((i + 1 : Nat) : Int) * 1000000000000 := by
 unfold gF
 split
 ·omega
 ·split
  ·rename_i h2
   simp only [Bool.and_eq_true, decide_eq_true_eq] at h2
   dsimp only
   omega
  ·dsimp only
   omega
theorem rF_bound (m : Int) (i : Nat) (t : Int × Bool) (x : ApiFee) (h : 0 ≤ t.1 ∧ t.1 ≤ (i : Int) * 1000000000000) : 0 ≤ (rF m t x).1 ∧ (rF m t x).1 ≤ ((i + 1 : Nat) : Int) * 1000000000000 := by
 unfold rF
 split
 ·omega
 ·split
  ·dsimp only
   omega
  ·rename_i h2
   simp only [Bool.or_eq_true, decide_eq_true_eq, not_or] at h2
   dsimp only
   omega
theorem gr_rel (m : Int) : ∀ (l : List ApiFee) (t u : Int × Bool), (t.2 = u.2 ∧ (t.2 = true → t.1 = u.1)) → ((l.foldl (gF m) t).2 = (l.foldl (rF m) u).2 ∧ ((l.foldl (gF m) t).2 = true → (l.foldl (gF m) t).1 = (l.foldl (rF m) u).1))
 | [], _, _, h => h
 | x :: l, t, u, h => by
  refine gr_rel m l (gF m t x) (rF m u x) ?_
  obtain ⟨a, b⟩ := t
  obtain ⟨c, d⟩ := u
  obtain ⟨h1, h2⟩ := h
  dsimp only at h1 h2
  subst h1
  unfold gF rF
  dsimp only
  by_cases hm : x.Material ≠ m
  ·rw [if_pos hm, if_pos hm]; exact ⟨rfl, h2⟩
  ·rw [if_neg hm, if_neg hm]
   by_cases h0 : 0 ≤ x.Amount
   ·by_cases hx : x.Amount ≤ 1000000000000
    ·cases b
     ·simp [h0, hx, Int.not_lt.2 h0, Int.not_lt.2 hx]
     ·have := h2 rfl
      simp [h0, hx, Int.not_lt.2 h0, Int.not_lt.2 hx, this]
    ·cases b <;> simp [h0, hx, Int.not_lt.2 h0, Int.lt_of_not_ge hx]
   ·cases b <;> simp [h0, Int.lt_of_not_ge h0]
def feeB (p : ApiBooks) (m : Nat) : Bool := !(p.Fees.foldl (gF m) ((0 : Int), true)).2 || decide ((p.Fees.foldl (gF m) ((0 : Int), true)).1 ≠ ix p.Costs m)
theorem feeB_ref (p : ApiBooks) (m : Nat) : (!(p.Fees.foldl (rF m) ((0 : Int), true)).2 || decide ((p.Fees.foldl (rF m) ((0 : Int), true)).1 ≠ ix p.Costs m)) = feeB p m := by
 obtain ⟨h1, h2⟩ := gr_rel m p.Fees ((0 : Int), true) ((0 : Int), true) ⟨rfl, fun _ => rfl⟩
 unfold feeB
 rw [← h1]
 cases h : (p.Fees.foldl (gF m) ((0 : Int), true)).2 with
 | false => rfl
 | true => rw [h2 h]
def g1F (p : ApiBooks) (m : Nat) : List ApiFinding := one (feeB p m) ⟨9, m, 0⟩
def g2F (p : ApiBooks) (i : Nat) : List ApiFinding := one (decide ((ix p.Fees i).Material < 0) || decide ((List.length p.Costs : Int) ≤ (ix p.Fees i).Material)) ⟨9, (ix p.Fees i).Material, 0⟩
def feesF (p : ApiBooks) : List ApiFinding × Int := if 16 < p.Costs.length ∨ 512 < p.Fees.length then ([], 8) else (apps p.Costs.length (g1F p) ++ apps p.Fees.length (g2F p), 0)
theorem or_iff {a b : Prop} [Decidable a] [Decidable b] : (decide a || decide b) = true ↔ a ∨ b := by simp
theorem g1F_len (p : ApiBooks) : (apps p.Costs.length (g1F p)).length ≤ p.Costs.length := apps_len _ fun _ _ => one_len _ _
theorem g2F_len (p : ApiBooks) : (apps p.Fees.length (g2F p)).length ≤ p.Fees.length := apps_len _ fun _ _ => one_len _ _
theorem progFees_eq (p : ApiBooks) : m_audit_Fees 40000 p = some (feesF p) := by
 unfold m_audit_Fees feesF
 by_cases h : 16 < p.Costs.length ∨ 512 < p.Fees.length
 ·rw [if_pos h, if_pos (or_iff.2 (by omega))]
 ·rw [if_neg h, if_neg (fun hh => h (by have := or_iff.1 hh; omega))]
  unfold m_audit_collector
  rw [Option.bind_some, loop_app p.Costs.length (g1F p) (fun F => .next F) 0 [] (by simp) (fun i _ => one_len _ _) (fun i F hi hF => ?_) (fun F => by dsimp only; rw [if_neg (by omega)]) (by omega), andThen_next, List.nil_append]
  ·have hl := g1F_len p
   refine then_ex (N := 40000) p.Fees.length (fun (F : List ApiFinding) i => (F, i)) (fun F => F) (fun i F => F = apps p.Costs.length (g1F p) ++ apps i (g2F p) ∧ F.length ≤ 16 + i) _ rfl ⟨by simp [apps], by omega⟩ (by omega) (fun i F hi hv => ?_) (fun F _ => by dsimp only; rw [if_neg (by omega)]) (fun F hF => by rw [hF.1])
   refine ⟨F ++ g2F p i, ?_, by rw [apps_succ, hv.1, List.append_assoc], by have := one_len (decide ((ix p.Fees i).Material < 0) || decide ((List.length p.Costs : Int) ≤ (ix p.Fees i).Material)) ⟨9, (ix p.Fees i).Material, 0⟩; unfold g2F; rw [List.length_append]; omega⟩
   dsimp only
   rw [if_pos (by omega), ck_yes (by omega)]
   unfold g2F one
   split
   ·rw [collect_eq (by omega), Option.bind_some, andThen_next, ck_yes (by unfold I64; omega)]
   ·rw [andThen_next, ck_yes (by unfold I64; omega), List.append_nil]
  ·dsimp only
   rw [if_pos (by omega), ck_yes (by omega)]
   rw [loop_foldl p.Fees (fun (t : Int × Bool) k => (t.1, t.2, k)) (gF i) (fun t => (t.1, t.2)) (fun k t => 0 ≤ t.1 ∧ t.1 ≤ (k : Int) * 1000000000000) ((0 : Int), true) rfl (by simp) (fun k t hk ht => ⟨?_, gF_bound i k t _ ht⟩) (fun t _ => by dsimp only; rw [if_neg (by omega)]) (by omega), andThen_next]
   ·dsimp only
    unfold g1F one feeB
    split
    ·rw [collect_eq (by omega), Option.bind_some, andThen_next, ck_yes (by unfold I64; omega)]
    ·rw [andThen_next, ck_yes (by unfold I64; omega), List.append_nil]
   ·dsimp only
    rw [if_pos (by omega), ck_yes (by omega), ix_nat hk]
    unfold gF
    by_cases h1 : p.Fees[k].Material ≠ i
    ·rw [if_pos h1, if_pos h1, andThen_next, ck_yes (by unfold I64; omega)]
    ·rw [if_neg h1, if_neg h1]
     by_cases h2 : ((t.2 && decide (0 ≤ p.Fees[k].Amount)) && decide (p.Fees[k].Amount ≤ 1000000000000)) = true
     ·rw [if_pos h2, if_pos h2, ck_yes (by simp at h2; unfold I64; omega), andThen_next, ck_yes (by unfold I64; omega)]
     ·rw [if_neg h2, if_neg h2, andThen_next, ck_yes (by unfold I64; omega)]
theorem refFees_eq (p : ApiBooks) : m_recyclingref59_Fees 40000 p = some (feesF p) := by
 unfold m_recyclingref59_Fees feesF
 by_cases h : 16 < p.Costs.length ∨ 512 < p.Fees.length
 ·rw [if_pos h, if_pos (or_iff.2 (by omega))]
 ·rw [if_neg h, if_neg (fun hh => h (by have := or_iff.1 hh; omega))]
  rw [loop_app p.Costs.length (g1F p) (fun F => .next F) 0 [] (by simp) (fun i _ => one_len _ _) (fun i F hi hF => ?_) (fun F => by dsimp only; rw [if_neg (by omega)]) (by omega), andThen_next, List.nil_append]
  ·have hl := g1F_len p
   refine then_ex (N := 40000) p.Fees.length (fun (F : List ApiFinding) i => (F, i)) (fun F => F) (fun i F => F = apps p.Costs.length (g1F p) ++ apps i (g2F p) ∧ F.length ≤ 16 + i) _ rfl ⟨by simp [apps], by omega⟩ (by omega) (fun i F hi hv => ?_) (fun F _ => by dsimp only; rw [if_neg (by omega)]) (fun F hF => by rw [hF.1])
   refine ⟨F ++ g2F p i, ?_, by rw [apps_succ, hv.1, List.append_assoc], by have := one_len (decide ((ix p.Fees i).Material < 0) || decide ((List.length p.Costs : Int) ≤ (ix p.Fees i).Material)) ⟨9, (ix p.Fees i).Material, 0⟩; unfold g2F; rw [List.length_append]; omega⟩
   dsimp only
   rw [if_pos (by omega), ck_yes (by omega), ck_yes (by omega)]
   unfold g2F one
   split
   ·rw [ck_yes (by omega), ck_yes (by simp; omega), andThen_next, ck_yes (by unfold I64; omega)]
   ·rw [andThen_next, ck_yes (by unfold I64; omega), List.append_nil]
  ·dsimp only
   rw [if_pos (by omega)]
   rw [loop_foldl p.Fees (fun (t : Int × Bool) k => (t.1, t.2, k)) (rF i) (fun t => (t.1, t.2)) (fun k t => 0 ≤ t.1 ∧ t.1 ≤ (k : Int) * 1000000000000) ((0 : Int), true) rfl (by simp) (fun k t hk ht => ⟨?_, rF_bound i k t _ ht⟩) (fun t _ => by dsimp only; rw [if_neg (by omega)]) (by omega), andThen_next]
   ·dsimp only
    rw [ck_yes (by omega), feeB_ref]
    unfold g1F one
    split
    ·rw [ck_yes (by simp; omega), andThen_next, ck_yes (by unfold I64; omega)]
    ·rw [andThen_next, ck_yes (by unfold I64; omega), List.append_nil]
   ·dsimp only
    rw [if_pos (by omega), ck_yes (by omega), ix_nat hk]
    unfold rF
    by_cases h1 : p.Fees[k].Material ≠ i
    ·rw [if_pos h1, if_pos h1, andThen_next, ck_yes (by unfold I64; omega)]
    ·rw [if_neg h1, if_neg h1, ck_yes (by omega), ck_yes (by omega)]
     by_cases h2 : (decide (p.Fees[k].Amount < 0) || decide (1000000000000 < p.Fees[k].Amount)) = true
     ·rw [if_pos h2, if_pos h2, andThen_next, ck_yes (by unfold I64; omega)]
     ·rw [if_neg h2, if_neg h2, ck_yes (by omega), ck_yes (by simp at h2; unfold I64; omega), andThen_next, ck_yes (by unfold I64; omega)]
end Go.Proofs.YtbnimhmoffchdaaGreatDoor
namespace Go.Proofs.YtbnimhmoffchdaaGreatDoor
attribute [local instance] jfTrue

/-! ### Money -/
def goodL (x : ApiLine) : Bool := (((decide (0 ≤ x.Account) && decide (x.Account ≤ 1000000)) && decide (x.Amount ≠ 0)) && decide (-1000000000000 ≤ x.Amount)) && decide (x.Amount ≤ 1000000000000)
def lsum (l : List ApiLine) : Int := l.foldl (fun s x => s + x.Amount) 0
theorem lsum_snoc (l : List ApiLine) (x : ApiLine) : lsum (l ++ [x]) = lsum l + x.Amount := by unfold lsum; rw [List.foldl_append]; rfl
def linesF (l : List ApiLine) : Int := if ∀ x ∈ l, goodL x = true then (if lsum l ≠ 0 then 16 else 0) else 1
def chkF (p : ApiPosting) : Int := if (p.ID < 1 ∨ 1000000 < p.ID) ∨ p.At < 0 ∨ 3155759999 < p.At then 1 else if 16 < p.Lines.length then 8 else if p.Lines.length < 2 then 10 else linesF p.Lines
theorem chk_cond (p : ApiPosting) : ((((decide (p.ID < 1)) || (decide (1000000 < p.ID))) || (decide (p.At < 0))) || (decide (3155759999 < p.At))) = true ↔ (p.ID < 1 ∨ 1000000 < p.ID) ∨ p.At < 0 ∨ 3155759999 < p.At := by
 simp only [Bool.or_eq_true, decide_eq_true_eq, or_assoc]
theorem goodL_in {x : ApiLine} (h : goodL x = true) : -1000000000000 ≤ x.Amount ∧ x.Amount ≤ 1000000000000 := by
 unfold goodL at h
 simp only [Bool.and_eq_true, decide_eq_true_eq] at h
 omega
theorem some_eq {o : Option Int} {v : Int} (h : ∃ r, o = some r ∧ r = v) : o = some v := by obtain ⟨r, h1, h2⟩ := h; rw [h1, h2]
theorem progCheck_eq (p : ApiPosting) : m_ledger_Check 40000 p = some (chkF p) := by
 unfold m_ledger_Check chkF
 by_cases h1 : (p.ID < 1 ∨ 1000000 < p.ID) ∨ p.At < 0 ∨ 3155759999 < p.At
 ·rw [if_pos ((chk_cond p).2 h1), if_pos h1]
 ·rw [if_neg (fun h => h1 ((chk_cond p).1 h)), if_neg h1]
  by_cases h2 : 16 < p.Lines.length
  ·rw [if_pos (by omega), if_pos h2]
  ·rw [if_neg (by omega), if_neg h2]
   by_cases h3 : p.Lines.length < 2
   ·rw [if_pos (by omega), if_pos h3]
   ·rw [if_neg (by omega), if_neg h3]
    refine some_eq (then_postE (N := 40000) (fun r => r = linesF p.Lines) p.Lines.length (fun (t : Int) i => (t, i)) (fun t => t) (fun i t => (∀ x ∈ p.Lines.take i, goodL x = true) ∧ t = lsum (p.Lines.take i) ∧ -((i : Int) * 1000000000000) ≤ t ∧ t ≤ (i : Int) * 1000000000000) 0 rfl ⟨by simp, rfl, by simp, by simp⟩ (by omega) (fun i t hi hv => ?_) (fun t _ => by dsimp only; rw [if_neg (by omega)]) (fun t ht => ?_))
    ·dsimp only
     rw [if_pos (by omega), ck_yes (by omega), ix_nat hi]
     unfold m_ledger_line
     rw [Option.bind_some]
     cases hg : goodL p.Lines[i] with
     | false =>
      right
      unfold goodL at hg
      rw [hg, if_pos (by decide)]
      refine ⟨1, rfl, ?_⟩
      unfold linesF
      rw [if_neg]
      intro hall
      have := hall _ (List.getElem_mem hi)
      unfold goodL at this
      rw [hg] at this
      cases this
     | true =>
      left
      have hin := goodL_in hg
      have hg' := hg
      unfold goodL at hg'
      rw [hg', if_neg (by decide), ck_yes (by unfold I64; omega), ck_yes (by unfold I64; omega)]
      refine ⟨_, rfl, fun x hx => ?_, ?_, by omega, by omega⟩
      ·rcases (mem_take_succ hi).1 hx with hx | hx
       ·exact hv.1 x hx
       ·rw [hx]; exact hg
      ·rw [take_succ_get hi, lsum_snoc, hv.2.1]
    ·obtain ⟨ha, hs, _⟩ := ht
     rw [List.take_length] at ha hs
     unfold linesF
     rw [if_pos ha, ← hs]
     by_cases h0 : t ≠ 0
     ·rw [if_pos h0, if_pos h0]; exact ⟨_, rfl, rfl⟩
     ·rw [if_neg h0, if_neg h0]; exact ⟨_, rfl, rfl⟩
theorem bad_iff (x : ApiLine) : (((((decide (x.Account < 0)) || (decide (1000000 < x.Account))) || (decide (x.Amount = 0))) || (decide (x.Amount < -1000000000000))) || (decide (1000000000000 < x.Amount))) = !goodL x := by
 unfold goodL
 rw [Bool.eq_iff_iff]
 simp only [Bool.or_eq_true, decide_eq_true_eq, Bool.not_eq_true', Bool.and_eq_false_iff, decide_eq_false_iff_not]
 omega
theorem refCheck_eq (p : ApiPosting) : m_recyclingref48_Check 40000 p = some (chkF p) := by
 unfold m_recyclingref48_Check chkF
 by_cases h1 : (p.ID < 1 ∨ 1000000 < p.ID) ∨ p.At < 0 ∨ 3155759999 < p.At
 ·rw [if_pos ((chk_cond p).2 h1), if_pos h1]
 ·rw [if_neg (fun h => h1 ((chk_cond p).1 h)), if_neg h1]
  by_cases h2 : 16 < p.Lines.length
  ·rw [if_pos (by omega), if_pos h2]
  ·rw [if_neg (by omega), if_neg h2]
   by_cases h3 : p.Lines.length < 2
   ·rw [if_pos (by omega), if_pos h3]
   ·rw [if_neg (by omega), if_neg h3]
    refine some_eq (then_postE (N := 40000) (fun r => r = linesF p.Lines) p.Lines.length (fun (_ : Unit) i => i) (fun _ => ()) (fun i _ => ∀ x ∈ p.Lines.take i, goodL x = true) () rfl (by simp) (by omega) (fun i t hi hv => ?_) (fun t _ => by rw [if_neg (by omega)]) (fun t ha => ?_))
    ·rw [if_pos (by omega), ck_yes (by omega), ix_nat hi, bad_iff]
     cases hg : goodL p.Lines[i] with
     | false =>
      right
      refine ⟨1, rfl, ?_⟩
      unfold linesF
      rw [if_neg]
      intro hall
      have := hall _ (List.getElem_mem hi)
      rw [hg] at this
      cases this
     | true =>
      left
      rw [if_neg (by decide), ck_yes (by unfold I64; omega)]
      refine ⟨(), rfl, fun x hx => ?_⟩
      rcases (mem_take_succ hi).1 hx with hx | hx
      ·exact hv x hx
      ·rw [hx]; exact hg
    ·rw [List.take_length] at ha
     refine then_postE (N := 40000) (fun r => r = linesF p.Lines) p.Lines.length (fun (t : Int) i => (t, i)) (fun t => t) (fun i t => t = lsum (p.Lines.take i) ∧ -((i : Int) * 1000000000000) ≤ t ∧ t ≤ (i : Int) * 1000000000000) 0 rfl ⟨rfl, by simp, by simp⟩ (by omega) (fun i t hi hv => .inl ?_) (fun t _ => by dsimp only; rw [if_neg (by omega)]) (fun t ht => ?_)
     ·dsimp only
      have hin := goodL_in (ha _ (List.getElem_mem hi))
      rw [if_pos (by omega), ck_yes (by omega), ix_nat hi, ck_yes (by unfold I64; omega), ck_yes (by unfold I64; omega)]
      exact ⟨_, rfl, by rw [take_succ_get hi, lsum_snoc, hv.1], by omega, by omega⟩
     ·obtain ⟨hs, _⟩ := ht
      rw [List.take_length] at hs
      unfold linesF
      rw [if_pos ha, ← hs]
      by_cases h0 : t ≠ 0
      ·rw [if_pos h0, if_pos h0]; exact ⟨_, rfl, rfl⟩
      ·rw [if_neg h0, if_neg h0]; exact ⟨_, rfl, rfl⟩
/-- A finding that names an elder place. -/
def elder (k : Int) (i : Nat) (q : Nat → Bool) : List ApiFinding := match fst1 q i with | some j => [⟨k, i, j⟩] | none => []
theorem elder_len (k : Int) (i : Nat) (q : Nat → Bool) : (elder k i q).length ≤ 1 := by unfold elder; split <;> simp
def sameID (p : ApiBooks) (i j : Nat) : Bool := decide ((ix p.Postings j).ID = (ix p.Postings i).ID)
def moF (p : ApiBooks) (i : Nat) : List ApiFinding := one (decide (chkF (ix p.Postings i) ≠ 0)) ⟨15, i, chkF (ix p.Postings i)⟩ ++ elder 16 i (sameID p i)
theorem moF_len (p : ApiBooks) (i : Nat) : (moF p i).length ≤ 2 := by
 unfold moF
 have h1 := one_len (decide (chkF (ix p.Postings i) ≠ 0)) ⟨15, i, chkF (ix p.Postings i)⟩
 have h2 := elder_len 16 i (sameID p i)
 rw [List.length_append]
 omega
def moneyF (p : ApiBooks) : List ApiFinding × Int := if 512 < p.Postings.length then ([], 8) else (apps p.Postings.length (moF p), 0)
theorem one_next {ρ : Type} {c : Prop} [Decidable c] {x : ApiFinding} {F : List ApiFinding} {y : Option (Step (List ApiFinding) ρ)} (h : c → y = some (.next (F ++ [x]))) : (if c then y else some (.next F)) = some (.next (F ++ one (decide c) x)) := by
 by_cases hc : c
 ·rw [if_pos hc, h hc, one, if_pos (decide_eq_true hc)]
 ·rw [if_neg hc, one, if_neg (by rw [decide_eq_false hc]; decide), List.append_nil]
/-- What the program does with the first place of the whole list. -/
theorem elder_next {ρ : Type} {k : Int} {i j n : Nat} {q : Nat → Bool} {F : List ApiFinding} {y : Option (Step (List ApiFinding) ρ)} (hi : i < n) (hq : q i = true) (hj : fst1 q n = some j) (h : y = some (.next (F ++ [⟨k, i, j⟩]))) :
  (if (j : Int) < (i : Int) then y else some (.next F)) = some (.next (F ++ elder k i q)) := by
 obtain ⟨j', h1, h2, h3⟩ := fst1_cut hi hq
 rw [hj] at h1
 injection h1 with h1
 subst h1
 unfold elder
 rw [h3]
 by_cases e : j < i
 ·rw [if_pos (by omega), if_pos e, h]
 ·rw [if_neg (by omega), if_neg e, List.append_nil]
theorem fst1_self {q : Nat → Bool} {i n : Nat} (hi : i < n) (hq : q i = true) : ∃ j, fst1 q n = some j := by obtain ⟨j, h, _⟩ := fst1_cut hi hq; exact ⟨j, h⟩
theorem idxMoney_eq (p : ApiBooks) (hn : p.Postings.length < 40000) (i j : Nat) (hj : fst1 (sameID p i) p.Postings.length = some j) : m_slices_IndexFunc_audit_Money_1 40000 p.Postings (ix p.Postings i) = some (j : Int) := by
 unfold m_slices_IndexFunc_audit_Money_1
 rw [loop_fst p.Postings.length (sameID p i) (fun j => .done (j : Int)) (.next ()) (fun k hk => ?_) (by rw [if_neg (by omega)]) hn, hj]
 ·rfl
 ·rw [if_pos (by omega), ck_yes (by omega)]
  unfold m_audit_Money_1 sameID
  rw [Option.bind_some, ck_yes (by unfold I64; omega)]
theorem progMoney_eq (p : ApiBooks) : m_audit_Money 40000 p = some (moneyF p) := by
 unfold m_audit_Money moneyF
 by_cases h : 512 < p.Postings.length
 ·rw [if_pos (by omega), if_pos h]
 ·rw [if_neg (by omega), if_neg h]
  unfold m_audit_collector
  rw [Option.bind_some]
  refine then_ex (N := 40000) p.Postings.length (fun (F : List ApiFinding) i => (F, i)) (fun F => F) (fun i F => F = apps i (moF p) ∧ F.length ≤ 2 * i) [] rfl ⟨rfl, by simp⟩ (by omega) (fun i F hi hv => ⟨F ++ moF p i, ?_, by rw [apps_succ, hv.1], by have := moF_len p i; rw [List.length_append]; omega⟩) (fun F _ => by dsimp only; rw [if_neg (by omega)]) (fun F hF => by rw [hF.1])
  have hq : sameID p i i = true := by unfold sameID; exact decide_eq_true rfl
  obtain ⟨j, hj⟩ := fst1_self hi hq
  dsimp only
  rw [if_pos (by omega), ck_yes (by omega), progCheck_eq, Option.bind_some]
  rw [one_next (x := ⟨15, i, chkF (ix p.Postings i)⟩) (fun _ => by rw [collect_eq (by omega), Option.bind_some]), andThen_next, idxMoney_eq p (by omega) i j hj, Option.bind_some]
  have h1 := one_len (decide (chkF (ix p.Postings i) ≠ 0)) ⟨15, i, chkF (ix p.Postings i)⟩
  rw [elder_next (k := 16) hi hq hj (by rw [collect_eq (by rw [List.length_append]; omega), Option.bind_some]), andThen_next, ck_yes (by unfold I64; omega)]
  unfold moF
  rw [List.append_assoc]
/-- What the reference does: the first place ahead. -/
theorem elder_loop {ρ : Type} {k : Int} {i : Nat} {q : Nat → Bool} {F : List ApiFinding} {f : Int → Option (Step Int (Step (List ApiFinding) ρ))} (h : ∀ j : Nat, j < i → f (j : Int) = if q j = true then some (.done (.next (F ++ [⟨k, i, j⟩]))) else some (.next ((j : Int) + 1))) (he : f (i : Int) = some (.done (.next F))) (hi : i < 40000) :
  loopM f 40000 0 = some (.next (F ++ elder k i q)) := by
 rw [loop_fst i q (fun j => .next (F ++ [⟨k, i, j⟩])) (.next F) h he hi]
 unfold elder
 cases fst1 q i with
 | none => rw [List.append_nil]
 | some j => rfl
theorem refMoney_eq (p : ApiBooks) : m_recyclingref59_Money 40000 p = some (moneyF p) := by
 unfold m_recyclingref59_Money moneyF
 by_cases h : 512 < p.Postings.length
 ·rw [if_pos (by omega), if_pos h]
 ·rw [if_neg (by omega), if_neg h]
  refine then_ex (N := 40000) p.Postings.length (fun (F : List ApiFinding) i => (F, i)) (fun F => F) (fun i F => F = apps i (moF p) ∧ F.length ≤ 2 * i) [] rfl ⟨rfl, by simp⟩ (by omega) (fun i F hi hv => ⟨F ++ moF p i, ?_, by rw [apps_succ, hv.1], by have := moF_len p i; rw [List.length_append]; omega⟩) (fun F _ => by dsimp only; rw [if_neg (by omega)]) (fun F hF => by rw [hF.1])
  dsimp only
  rw [if_pos (by omega), ck_yes (by omega), refCheck_eq, Option.bind_some]
  have h1 := one_len (decide (chkF (ix p.Postings i) ≠ 0)) ⟨15, i, chkF (ix p.Postings i)⟩
  rw [one_next (x := ⟨15, i, chkF (ix p.Postings i)⟩) (fun _ => by rw [ck_yes (by simp; omega)]), andThen_next]
  rw [elder_loop (k := 16) (i := i) (q := sameID p i) (fun j hj => ?_) (by rw [if_neg (by omega)]) (by omega), andThen_next, ck_yes (by unfold I64; omega)]
  ·unfold moF
   rw [List.append_assoc]
  ·rw [if_pos (by omega), ck_yes (by omega), ck_yes (by omega), ck_yes (by simp only [List.length_append, List.length_cons, List.length_nil]; omega), ck_yes (by unfold I64; omega)]
   unfold sameID
   by_cases e : (ix p.Postings j).ID = (ix p.Postings i).ID
   ·rw [if_pos e, if_pos (decide_eq_true e)]
   ·rw [if_neg e, if_neg (by rw [decide_eq_false e]; decide)]

/-! ### Deposits -/
def soldB (l : List ApiSale) (s : Int) (j : Nat) : Bool := (decide (0 ≤ (ix l j).First) && decide ((ix l j).First ≤ s)) && decide (s - (ix l j).First < (ix l j).Count)
theorem progSold_eq (l : List ApiSale) (hn : l.length < 40000) (s : Int) (hs : I64 s) : m_audit_sold 40000 l s = some (match fst1 (soldB l s) l.length with | some j => (ix l j, true) | none => ((ApiSale.mk 0 0 0 0 0), false)) := by
 unfold m_audit_sold
 rw [loop_fst l.length (soldB l s) (fun j => .done (ix l j, true)) (.next ()) (fun k hk => ?_) (by rw [if_neg (by omega)]) hn]
 ·cases fst1 (soldB l s) l.length <;> rfl
 ·unfold I64 at hs
  rw [if_pos (by omega), ck_yes (by omega), ck_yes (fun hh => by simp only [Bool.and_eq_true, decide_eq_true_eq] at hh; unfold I64; omega), ck_yes (by unfold I64; omega)]
  unfold soldB
  by_cases e : ((decide (0 ≤ (ix l (k : Int)).First) && decide ((ix l (k : Int)).First ≤ s)) && decide (s - (ix l (k : Int)).First < (ix l (k : Int)).Count)) = true
  ·rw [if_pos e, if_pos]
   simp only [Bool.and_eq_true, decide_eq_true_eq] at e ⊢
   omega
  ·rw [if_neg e, if_neg]
   intro hh
   apply e
   simp only [Bool.and_eq_true, decide_eq_true_eq] at hh ⊢
   omega
theorem refSold_eq (l : List ApiSale) (hn : l.length < 40000) (s : Int) (hs : I64 s) : m_recyclingref59_sold 40000 l s = some (match fst1 (soldB l s) l.length with | some j => (j : Int) | none => -1) := by
 unfold m_recyclingref59_sold
 rw [loop_fst l.length (soldB l s) (fun j => .done (j : Int)) (.next ()) (fun k hk => ?_) (by rw [if_neg (by omega)]) hn]
 ·cases fst1 (soldB l s) l.length <;> rfl
 ·unfold I64 at hs
  rw [if_pos (by omega), ck_yes (by omega), ck_yes (fun _ => by omega), ck_yes (fun _ => by omega), ck_yes (fun hh => by simp only [Bool.and_eq_true, decide_eq_true_eq] at hh; unfold I64; omega), ck_yes (fun _ => by omega), ck_yes (by unfold I64; omega)]
  rfl
/-- What is said of a payout's sale. -/
def salF (p : ApiBooks) (i : Nat) (x : ApiPayout) : List ApiFinding := match fst1 (soldB p.Sales x.Claim.Serial) p.Sales.length with
 | none => [⟨5, i, 0⟩]
 | some j => if (x.Product ≠ (ix p.Sales j).Product ∨ x.Product < 0) ∨ (p.Products.length : Int) ≤ x.Product then [⟨5, i, 0⟩] else one (decide (x.Amount ≠ (ix p.Products x.Product).Deposit)) ⟨6, i, 0⟩
theorem salF_len (p : ApiBooks) (i : Nat) (x : ApiPayout) : (salF p i x).length ≤ 1 := by
 unfold salF
 split
 ·simp
 ·split
  ·simp
  ·exact one_len _ _
def sameSer (p : ApiBooks) (i j : Nat) : Bool := decide ((ix p.Paid j).Claim.Serial = (ix p.Paid i).Claim.Serial)
def clmB (p : ApiBooks) (i j : Nat) : Bool := decide ((ix p.Claims j) = (ix p.Paid i).Claim)
def clmF (p : ApiBooks) (i : Nat) : List ApiFinding := match fst1 (clmB p i) p.Claims.length with | some _ => [] | none => [⟨8, i, 0⟩]
theorem clmF_len (p : ApiBooks) (i : Nat) : (clmF p i).length ≤ 1 := by unfold clmF; split <;> simp
def payF (p : ApiBooks) (i : Nat) : List ApiFinding := (salF p i (ix p.Paid i) ++ elder 7 i (sameSer p i)) ++ clmF p i
theorem payF_len (p : ApiBooks) (i : Nat) : (payF p i).length ≤ 3 := by
 unfold payF
 have h1 := salF_len p i (ix p.Paid i)
 have h2 := elder_len 7 i (sameSer p i)
 have h3 := clmF_len p i
 simp only [List.length_append]
 omega
def deposF (p : ApiBooks) : List ApiFinding × Int := if (64 < p.Products.length ∨ 512 < p.Sales.length) ∨ 512 < p.Claims.length ∨ 512 < p.Paid.length then ([], 8) else (apps p.Paid.length (payF p), 0)
theorem dep_cond (p : ApiBooks) : ((((decide (64 < (List.length p.Products : Int))) || (decide (512 < (List.length p.Sales : Int)))) || (decide (512 < (List.length p.Claims : Int)))) || (decide (512 < (List.length p.Paid : Int)))) = true ↔ (64 < p.Products.length ∨ 512 < p.Sales.length) ∨ 512 < p.Claims.length ∨ 512 < p.Paid.length := by
 simp only [Bool.or_eq_true, decide_eq_true_eq, or_assoc]
 omega
theorem idxPaid_eq (p : ApiBooks) (hn : p.Paid.length < 40000) (i j : Nat) (hj : fst1 (sameSer p i) p.Paid.length = some j) : m_slices_IndexFunc_audit_Deposits_1 40000 p.Paid (ix p.Paid i) = some (j : Int) := by
 unfold m_slices_IndexFunc_audit_Deposits_1
 rw [loop_fst p.Paid.length (sameSer p i) (fun j => .done (j : Int)) (.next ()) (fun k hk => ?_) (by rw [if_neg (by omega)]) hn, hj]
 ·rfl
 ·rw [if_pos (by omega), ck_yes (by omega)]
  unfold m_audit_Deposits_1 sameSer
  rw [Option.bind_some, ck_yes (by unfold I64; omega)]
theorem hasClaim_eq (p : ApiBooks) (hn : p.Claims.length < 40000) (i : Nat) : m_slices_Contains_91 40000 p.Claims (ix p.Paid i).Claim = some (fst1 (clmB p i) p.Claims.length).isSome := by
 unfold m_slices_Contains_91 m_slices_Index_131
 rw [loop_fst p.Claims.length (clmB p i) (fun j => .done (j : Int)) (.next ()) (fun k hk => ?_) (by rw [if_neg (by omega)]) hn]
 ·cases fst1 (clmB p i) p.Claims.length with
  | none => rfl
  | some j =>
   show some (decide (0 ≤ (j : Int))) = _
   rw [decide_eq_true (by omega)]
   rfl
 ·rw [if_pos (by omega), ck_yes (by omega), ck_yes (by unfold I64; omega)]
  unfold clmB
  by_cases e : (ix p.Claims (k : Int)) = (ix p.Paid i).Claim
  ·rw [if_pos e.symm, if_pos (decide_eq_true e)]
  ·rw [if_neg (fun h => e h.symm), if_neg (by rw [decide_eq_false e]; decide)]
theorem progDepos_eq (p : ApiBooks) (hw : ∀ y ∈ p.Paid, I64 y.Claim.Serial) : m_audit_Deposits 40000 p = some (deposF p) := by
 unfold m_audit_Deposits deposF
 by_cases h : (64 < p.Products.length ∨ 512 < p.Sales.length) ∨ 512 < p.Claims.length ∨ 512 < p.Paid.length
 ·rw [if_pos ((dep_cond p).2 h), if_pos h]
 ·rw [if_neg (fun hh => h ((dep_cond p).1 hh)), if_neg h]
  unfold m_audit_collector
  rw [Option.bind_some]
  refine then_ex (N := 40000) p.Paid.length (fun (F : List ApiFinding) i => (F, i)) (fun F => F) (fun i F => F = apps i (payF p) ∧ F.length ≤ 3 * i) [] rfl ⟨rfl, by simp⟩ (by omega) (fun i F hi hv => ⟨F ++ payF p i, ?_, by rw [apps_succ, hv.1], by have := payF_len p i; rw [List.length_append]; omega⟩) (fun F _ => by dsimp only; rw [if_neg (by omega)]) (fun F hF => by rw [hF.1])
  have hq : sameSer p i i = true := by unfold sameSer; exact decide_eq_true rfl
  obtain ⟨j, hj⟩ := fst1_self hi hq
  dsimp only
  rw [if_pos (by omega), ck_yes (by omega), progSold_eq p.Sales (by omega) _ (hw _ (ix_mem hi)), Option.bind_some]
  have l1 := salF_len p i (ix p.Paid i)
  have l2 := elder_len 7 i (sameSer p i)
  have l3 := clmF_len p i
  have key : ∀ (ρ : Type) (z : ApiSale × Bool), z = (match fst1 (soldB p.Sales (ix p.Paid i).Claim.Serial) p.Sales.length with | some j => (ix p.Sales j, true) | none => ((ApiSale.mk 0 0 0 0 0), false)) → (if ((((!z.2) || (decide ((ix p.Paid i).Product ≠ z.1.Product))) || (decide ((ix p.Paid i).Product < 0))) || (decide ((List.length p.Products : Int) ≤ (ix p.Paid i).Product))) = true then
     Option.bind (m_audit_collector_1 40000 (5 : Int) i (0 : Int) () F) fun _ => some (.next (F ++ ([(ApiFinding.mk (5 : Int) i (0 : Int))])))
    else
     ck ((0 : Int) ≤ (ix p.Paid i).Product ∧ (ix p.Paid i).Product < (List.length p.Products : Int)) (
      (if (ix p.Paid i).Amount ≠ (ix p.Products ((ix p.Paid i).Product)).Deposit then
       Option.bind (m_audit_collector_1 40000 (6 : Int) i (0 : Int) () F) fun _ => some (.next (F ++ ([(ApiFinding.mk (6 : Int) i (0 : Int))])))
      else
       some (.next F))) : Option (Step (List ApiFinding) ρ)) = some (.next (F ++ salF p i (ix p.Paid i))) := fun ρ z hz => by
   unfold salF
   rw [hz, collect_eq (by omega), collect_eq (by omega), Option.bind_some, Option.bind_some]
   cases fst1 (soldB p.Sales (ix p.Paid i).Claim.Serial) p.Sales.length with
   | none => rfl
   | some s =>
    dsimp only
    by_cases c : ((ix p.Paid i).Product ≠ (ix p.Sales s).Product ∨ (ix p.Paid i).Product < 0) ∨ (p.Products.length : Int) ≤ (ix p.Paid i).Product
    ·rw [if_pos c, if_pos]
     simp only [Bool.or_eq_true, decide_eq_true_eq]
     rcases c with (c | c) | c
     ·exact .inl (.inl (.inr c))
     ·exact .inl (.inr c)
     ·exact .inr c
    ·rw [if_neg c, if_neg, ck_yes (by omega), one_next (x := ⟨6, i, 0⟩) fun _ => rfl]
     intro hh
     simp only [Bool.or_eq_true, decide_eq_true_eq] at hh
     rcases hh with ((hh | hh) | hh) | hh
     ·cases hh
     ·exact c (.inl (.inl hh))
     ·exact c (.inl (.inr hh))
     ·exact c (.inr hh)
  rw [key _ _ rfl, andThen_next, idxPaid_eq p (by omega) i j hj, Option.bind_some]
  rw [elder_next (k := 7) hi hq hj (by rw [collect_eq (by rw [List.length_append]; omega), Option.bind_some]), andThen_next, hasClaim_eq p (by omega) i, Option.bind_some]
  unfold payF clmF
  cases fst1 (clmB p i) p.Claims.length with
  | none =>
   rw [if_pos (by decide), collect_eq (by simp only [List.length_append]; omega), Option.bind_some, andThen_next, ck_yes (by unfold I64; omega)]
   simp only [List.append_assoc]
  | some j =>
   rw [if_neg (fun h => by cases h), andThen_next, ck_yes (by unfold I64; omega)]
   simp only [List.append_assoc, List.append_nil]
theorem ref_pay (p : ApiBooks) (hw : ∀ y ∈ p.Paid, I64 y.Claim.Serial) (h : ¬ ((64 < p.Products.length ∨ 512 < p.Sales.length) ∨ 512 < p.Claims.length ∨ 512 < p.Paid.length)) {i : Nat} (hi : i < p.Paid.length) : m_recyclingref59_payout 40000 p i = some (payF p i) := by
 unfold m_recyclingref59_payout
 have l1 := salF_len p i (ix p.Paid i)
 have l2 := elder_len 7 i (sameSer p i)
 rw [ck_yes (by omega), refSold_eq p.Sales (by omega) _ (hw _ (ix_mem hi)), Option.bind_some]
 have key : ∀ (ρ : Type) (r : Int), r = (match fst1 (soldB p.Sales (ix p.Paid i).Claim.Serial) p.Sales.length with | some j => (j : Int) | none => -1) → (ck ((!(decide (r < 0))) = true → (0 : Int) ≤ r ∧ r < (List.length p.Sales : Int)) (
  (if ((((decide (r < 0)) || (decide ((ix p.Sales r).Product ≠ (ix p.Paid i).Product))) || (decide ((ix p.Paid i).Product < 0))) || (decide ((List.length p.Products : Int) ≤ (ix p.Paid i).Product))) = true then
   ck ((List.length ([] : List ApiFinding) + List.length ([(ApiFinding.mk 5 i 0)])) * 24 ≤ 140737488355328) (
    some (.next (([] : List ApiFinding) ++ ([(ApiFinding.mk 5 i 0)]))))
  else
   ck ((0 : Int) ≤ (ix p.Paid i).Product ∧ (ix p.Paid i).Product < (List.length p.Products : Int)) (
    (if (ix p.Products ((ix p.Paid i).Product)).Deposit ≠ (ix p.Paid i).Amount then
     ck ((List.length ([] : List ApiFinding) + List.length ([(ApiFinding.mk 6 i 0)])) * 24 ≤ 140737488355328) (
      some (.next (([] : List ApiFinding) ++ ([(ApiFinding.mk 6 i 0)]))))
    else
     some (.next ([] : List ApiFinding)))))) : Option (Step (List ApiFinding) ρ)) = some (.next (salF p i (ix p.Paid i))) := fun ρ r hr => by
  unfold salF
  cases hs : fst1 (soldB p.Sales (ix p.Paid i).Claim.Serial) p.Sales.length with
  | none =>
   rw [hs] at hr
   subst hr
   rw [ck_yes (fun hh => by cases hh), if_pos (by rfl), ck_yes (by simp)]
   rfl
  | some s =>
   rw [hs] at hr
   subst hr
   have hsl := (fst1_some hs).2.1
   dsimp only
   rw [ck_yes (fun _ => by omega)]
   by_cases c : ((ix p.Paid i).Product ≠ (ix p.Sales s).Product ∨ (ix p.Paid i).Product < 0) ∨ (p.Products.length : Int) ≤ (ix p.Paid i).Product
   ·rw [if_pos c, if_pos, ck_yes (by simp)]
    ·rfl
    ·simp only [Bool.or_eq_true, decide_eq_true_eq]
     rcases c with (c | c) | c
     ·exact .inl (.inl (.inr fun e => c e.symm))
     ·exact .inl (.inr c)
     ·exact .inr c
   ·rw [if_neg c, if_neg, ck_yes (by omega)]
    ·unfold one
     by_cases d : (ix p.Paid i).Amount ≠ (ix p.Products ((ix p.Paid i).Product)).Deposit
     ·rw [if_pos (fun e => d e.symm), ck_yes (by simp), if_pos (decide_eq_true d)]
      rfl
     ·rw [if_neg (fun e => e (Classical.not_not.1 d).symm), if_neg (by rw [decide_eq_false d]; decide)]
    ·intro hh
     simp only [Bool.or_eq_true, decide_eq_true_eq] at hh
     rcases hh with ((hh | hh) | hh) | hh
     ·omega
     ·exact c (.inl (.inl fun e => hh e.symm))
     ·exact c (.inl (.inr hh))
     ·exact c (.inr hh)
 rw [key _ _ rfl, andThen_next]
 rw [elder_loop (k := 7) (i := i) (q := sameSer p i) (fun j hj => ?_) (by rw [if_neg (by omega)]) (by omega), andThen_next]
 ·rw [loop_fst p.Claims.length (clmB p i) (fun _ => .done (salF p i (ix p.Paid i) ++ elder 7 i (sameSer p i))) (.next ()) (fun k hk => ?_) (by rw [if_neg (by omega)]) (by omega)]
  ·unfold payF clmF
   cases fst1 (clmB p i) p.Claims.length with
   | none =>
    rw [andThen_next, ck_yes (by simp only [List.length_append, List.length_cons, List.length_nil]; omega)]
   | some j =>
    rw [andThen_done, List.append_nil]
  ·rw [if_pos (by omega), ck_yes (by omega), ck_yes (by unfold I64; omega)]
   unfold clmB
   by_cases e : (ix p.Claims (k : Int)) = (ix p.Paid i).Claim
   ·rw [if_pos e, if_pos (decide_eq_true e)]
   ·rw [if_neg e, if_neg (by rw [decide_eq_false e]; decide)]
 ·rw [if_pos (by omega), ck_yes (by omega), ck_yes (by simp only [List.length_cons, List.length_nil]; omega), ck_yes (by unfold I64; omega)]
  unfold sameSer
  by_cases e : (ix p.Paid j).Claim.Serial = (ix p.Paid i).Claim.Serial
  ·rw [if_pos e, if_pos (decide_eq_true e)]
  ·rw [if_neg e, if_neg (by rw [decide_eq_false e]; decide)]
theorem refDepos_eq (p : ApiBooks) (hw : ∀ y ∈ p.Paid, I64 y.Claim.Serial) : m_recyclingref59_Deposits 40000 p = some (deposF p) := by
 unfold m_recyclingref59_Deposits deposF
 by_cases h : (64 < p.Products.length ∨ 512 < p.Sales.length) ∨ 512 < p.Claims.length ∨ 512 < p.Paid.length
 ·rw [if_pos ((dep_cond p).2 h), if_pos h]
 ·rw [if_neg (fun hh => h ((dep_cond p).1 hh)), if_neg h]
  refine then_ex (N := 40000) p.Paid.length (fun (F : List ApiFinding) i => (F, i)) (fun F => F) (fun i F => F = apps i (payF p) ∧ F.length ≤ 3 * i) [] rfl ⟨rfl, by simp⟩ (by omega) (fun i F hi hv => ⟨F ++ payF p i, ?_, by rw [apps_succ, hv.1], by have := payF_len p i; rw [List.length_append]; omega⟩) (fun F _ => by dsimp only; rw [if_neg (by omega)]) (fun F hF => by rw [hF.1])
  have := payF_len p i
  dsimp only
  rw [if_pos (by omega), ref_pay p hw h hi, Option.bind_some, ck_yes (by omega), ck_yes (by unfold I64; omega)]
end Go.Proofs.YtbnimhmoffchdaaGreatDoor
namespace Go.Proofs.YtbnimhmoffchdaaGreatDoor
attribute [local instance] jfTrue

theorem take_flat {l : List (List ApiFinding)} {i : Nat} (hi : i < l.length) : (l.take (i + 1)).flatten = (l.take i).flatten ++ l[i] := by
 rw [take_succ_get hi, List.flatten_append, List.flatten_cons, List.flatten_nil, List.append_nil]
theorem take_flat_le (l : List (List ApiFinding)) (i : Nat) : (l.take i).flatten.length ≤ l.flatten.length := by
 have : l.flatten = (l.take i).flatten ++ (l.drop i).flatten := by rw [← List.flatten_append, List.take_append_drop]
 rw [this, List.length_append]
 omega
theorem concat_eq (l : List (List ApiFinding)) (hl : l.length < 40000) (h : l.flatten.length ≤ 1000000) : m_slices_Concat 40000 l = some l.flatten := by
 unfold m_slices_Concat
 refine then_ex (N := 40000) l.length (fun (t : Int) i => (t, i)) (fun t => t) (fun i t => t = ((l.take i).flatten.length : Int)) 0 rfl rfl hl (fun i t hi hv => ⟨((l.take (i + 1)).flatten.length : Int), ?_, rfl⟩) (fun t _ => by dsimp only; rw [if_neg (by omega)]) (fun t ht => ?_)
 ·have h1 := take_flat_le l (i + 1)
  have h2 : ((l.take (i + 1)).flatten.length : Int) = t + (l[i].length : Int) := by
   rw [take_flat hi, List.length_append, hv]
   omega
  dsimp only
  rw [if_pos (by omega), ck_yes (by omega), ix_nat hi, ck_yes (by unfold I64; omega), if_neg (by omega), andThen_next, ck_yes (by unfold I64; omega), h2]
 ·rw [List.take_length] at ht
  rw [ck_yes (by omega)]
  refine then_ex (N := 40000) l.length (fun (F : List ApiFinding) i => (F, i)) (fun F => F) (fun i F => F = (l.take i).flatten) [] rfl rfl hl (fun i F hi hv => ⟨(l.take (i + 1)).flatten, ?_, rfl⟩) (fun F _ => by dsimp only; rw [if_neg (by omega)]) (fun F hF => ?_)
  ·have h1 := take_flat_le l (i + 1)
   rw [take_flat hi, List.length_append] at h1
   dsimp only
   rw [if_pos (by omega), ck_yes (by omega), ix_nat hi, hv, ck_yes (by omega), ck_yes (by unfold I64; omega), take_flat hi]
  ·rw [List.take_length] at hF
   rw [hF]
noncomputable def allF (p : ApiBooks) : List ApiFinding × Int :=
 if (massM p).2 ≠ 0 then ([], (massM p).2) else if (deposF p).2 ≠ 0 then ([], (deposF p).2) else if (feesF p).2 ≠ 0 then ([], (feesF p).2) else if (billsF p).2 ≠ 0 then ([], (billsF p).2) else if (moneyF p).2 ≠ 0 then ([], (moneyF p).2) else
 ((((massM p).1 ++ (deposF p).1) ++ (feesF p).1) ++ (billsF p).1 ++ (moneyF p).1, 0)
theorem massM_len (p : ApiBooks) : (massM p).1.length ≤ 600 := by
 unfold massM
 split
 ·simp
 ·have := massF_le (p.Transfers.map trM) p.Inside p.Bins (p.Bales.map baM)
  rw [List.length_map] at this
  dsimp only
  rw [List.length_map]
  omega
theorem apps_le {γ : Type} {g : Nat → List γ} {c : Nat} (hg : ∀ i, (g i).length ≤ c) : ∀ n, (apps n g).length ≤ c * n
 | 0 => by simp [apps]
 | n + 1 => by
  have := apps_le hg n
  have := hg n
  rw [apps_succ, List.length_append, Nat.mul_succ]
  omega
theorem deposF_len (p : ApiBooks) : (deposF p).1.length ≤ 1600 := by
 unfold deposF
 split
 ·simp
 ·have := apps_le (payF_len p) p.Paid.length
  dsimp only
  omega
theorem feesF_len (p : ApiBooks) : (feesF p).1.length ≤ 600 := by
 unfold feesF
 split
 ·simp
 ·have h1 := g1F_len p
  have h2 := g2F_len p
  dsimp only
  rw [List.length_append]
  omega
theorem moneyF_len (p : ApiBooks) : (moneyF p).1.length ≤ 1100 := by
 unfold moneyF
 split
 ·simp
 ·have := apps_le (moF_len p) p.Postings.length
  dsimp only
  omega
theorem progAll_eq {p : ApiBooks} (hl : lightP p) (hw : ∀ y ∈ p.Paid, I64 y.Claim.Serial) : m_audit_All 40000 p = some (allF p) := by
 have l1 := massM_len p
 have l2 := deposF_len p
 have l3 := feesF_len p
 have l4 := billsF_len hl
 have l5 := moneyF_len p
 unfold m_audit_All allF m_audit_Mass
 rw [Option.bind_some, progDepos_eq p hw, Option.bind_some, progFees_eq p, Option.bind_some, progBills_eq hl, Option.bind_some, progMoney_eq p, Option.bind_some]
 rw [concat_eq [(massM p).1, (deposF p).1, (feesF p).1, (billsF p).1, (moneyF p).1] (by simp) (by simp only [List.flatten_cons, List.flatten_nil, List.length_append, List.length_nil]; omega), Option.bind_some]
 simp only [List.flatten_cons, List.flatten_nil, List.append_nil, List.append_assoc]
 repeat' split
 all_goals rfl
theorem refAll_eq {p : ApiBooks} (hl : lightP p) (hw : ∀ y ∈ p.Paid, I64 y.Claim.Serial) : m_recyclingref59_All 40000 p = some (allF p) := by
 have l1 := massM_len p
 have l2 := deposF_len p
 have l3 := feesF_len p
 have l4 := billsF_len hl
 have l5 := moneyF_len p
 unfold m_recyclingref59_All allF m_recyclingref59_Mass
 rw [Option.bind_some, refDepos_eq p hw, Option.bind_some, refFees_eq p, Option.bind_some, refBills_eq hl, Option.bind_some, refMoney_eq p, Option.bind_some]
 simp only [List.nil_append, List.length_append]
 rw [ck_yes (by simp; omega), ck_yes (by omega), ck_yes (by omega), ck_yes (by omega), ck_yes (by omega)]
 repeat' split
 all_goals rfl
theorem allF_len {p : ApiBooks} (hl : lightP p) : (allF p).1.length ≤ 20000 := by
 have l1 := massM_len p
 have l2 := deposF_len p
 have l3 := feesF_len p
 have l4 := billsF_len hl
 have l5 := moneyF_len p
 unfold allF
 repeat' split
 all_goals (simp only [List.length_append, List.length_nil]; omega)
theorem lawComplete_eq (p : ApiBooks) (hw : ∀ y ∈ p.Paid, I64 y.Claim.Serial) : m_recyclinglaw59_AuditComplete 40000 p = some true := by
 unfold m_recyclinglaw59_AuditComplete
 have hex : m_exampleHolds 40000 = some true := rfl
 obtain ⟨r, e, h⟩ := light_eq p
 rw [e, Option.bind_some]
 cases r with
 | false => rw [if_pos (by decide), hex]; rfl
 | true =>
  have hl := h rfl
  have hn := allF_len hl
  rw [if_neg (by decide), refAll_eq hl hw, Option.bind_some, progAll_eq hl hw, Option.bind_some, decide_eq_true (show (allF p).2 = (allF p).2 from rfl), callIf_yes rfl, fsame_eq (by omega) (by omega), Option.bind_some, callIf_yes (by decide), hex]
  rfl
end Go.Proofs.YtbnimhmoffchdaaGreatDoor
