/- Accounts: the program's checks and the reference's answer alike. -/
import Derived.Test.YtbnimhmoffchdaaGreatDoorKD
import Derived.Test.YtbnimhmoffchdaaGreatDoorZR1
namespace Go.Proofs.YtbnimhmoffchdaaGreatDoor

/-- Pairs of an index and one before it that don't go together. -/
def Bad (R : Nat → Nat → Prop) (n : Nat) : Prop := ∃ s t, t < s ∧ s < n ∧ R s t
theorem loop_pair {ρ : Type} {f : Int → Option (Step Int (Step Unit ρ))} {N : Nat} {k : Unit → Option ρ} {res : Option ρ} (R : Nat → Nat → Prop) (n : Nat) (e : ρ) (hN : n < N)
  (h1 : ∀ s : Nat, s < n → (∃ t, t < s ∧ R s t) → f (s : Int) = some (.done (.done e))) (h2 : ∀ s : Nat, s < n → ¬ (∃ t, t < s ∧ R s t) → f (s : Int) = some (.next ((s : Int) + 1)))
  (he : f (n : Int) = some (.done (.next ()))) (hb : Bad R n → some e = res) (hg : ¬ Bad R n → k () = res) : andThen (loopM f N 0) k = res := by
 refine then_exE n (fun (_ : Unit) i => i) (fun _ => ()) (fun i _ => ¬ Bad R i) (fun r => r = e ∧ Bad R n) () rfl (fun ⟨s, t, a, b, _⟩ => by omega) hN (fun i t hi ht => ?_) (fun t _ => he) (fun t ht => hg ht) (fun r ⟨hr, hd⟩ => by rw [hr]; exact hb hd)
 by_cases h : ∃ t, t < i ∧ R i t
 ·obtain ⟨t, a, b⟩ := h
  exact .inr ⟨e, h1 i hi ⟨t, a, b⟩, rfl, i, t, a, hi, b⟩
 ·refine .inl ⟨(), h2 i hi h, fun ⟨s, t, a, b, c⟩ => ?_⟩
  rcases Nat.lt_or_ge s i with hs | hs
  ·exact ht ⟨s, t, a, hs, c⟩
  ·have : s = i := by omega
   subst this
   exact h ⟨t, a, c⟩
/-- The inner loop over what lies before. -/
theorem loop_before {ρ : Type} {f : Int → Option (Step Int (Step Unit ρ))} {N : Nat} {k : Unit → Option ρ} (R : Nat → Prop) (s : Nat) (e : ρ) (hN : s < N)
  (h1 : ∀ t : Nat, t < s → R t → f (t : Int) = some (.done (.done e))) (h2 : ∀ t : Nat, t < s → ¬ R t → f (t : Int) = some (.next ((t : Int) + 1))) (he : f (s : Int) = some (.done (.next ()))) :
  ((∃ t, t < s ∧ R t) → andThen (loopM f N 0) k = some e) ∧ (¬ (∃ t, t < s ∧ R t) → andThen (loopM f N 0) k = k ()) := by
 have key := fun res => then_exE (f := f) (N := N) (s0 := 0) (k := k) (res := res) s (fun (_ : Unit) i => i) (fun _ => ()) (fun i _ => ∀ t, t < i → ¬ R t) (fun r => r = e ∧ ∃ t, t < s ∧ R t) () rfl (fun t h => absurd h (Nat.not_lt_zero _)) hN (fun i _ hi ht => by
  by_cases h : R i
  ·exact .inr ⟨e, h1 i hi h, rfl, i, hi, h⟩
  ·refine .inl ⟨(), h2 i hi h, fun t htt => ?_⟩
   rcases Nat.lt_or_ge t i with hs | hs
   ·exact ht t hs
   ·have : t = i := by omega
    subst this
    exact h) (fun _ _ => he)
 refine ⟨fun ⟨t, a, b⟩ => key _ (fun _ ht => absurd b (ht t a)) (fun r ⟨hr, _⟩ => by rw [hr]), fun hn => key _ (fun _ _ => rfl) (fun r ⟨_, h⟩ => absurd h hn)⟩

/-! ### Identifiers -/
def letterB (c : Int) : Bool := (decide (97 ≤ c) && decide (c ≤ 122)) || (decide (65 ≤ c) && decide (c ≤ 90))
def badC (c : Int) : Bool := ((((!(letterB c)) && ((decide (c < 48)) || (decide (57 < c)))) && (decide (c ≠ 45))) && (decide (c ≠ 95))) && (decide (c ≠ 46))
def identP (s : ByteArray) : Prop := (1 ≤ s.size ∧ s.size ≤ 32) ∧ letterB (bget s 0) = true ∧ ∀ j : Nat, j < s.size → badC (bget s (j : Int)) = false
theorem ident_iff {N : Nat} (hN : 40 < N) (s : ByteArray) : ∃ v, m_ident_Valid N s = some v ∧ (v = true ↔ identP s) := by
 unfold m_ident_Valid m_ident_letter identP
 by_cases h1 : s.size < 1 ∨ 32 < s.size
 ·have e1 : (decide ((s.size : Int) < 1) || decide (32 < (s.size : Int))) = true := by simp only [Bool.or_eq_true, decide_eq_true_eq]; omega
  rw [e1, ck_true (fun h => absurd h (by decide))]
  exact ⟨false, rfl, (fun h => by cases h), fun h => by omega⟩
 ·have e1 : (decide ((s.size : Int) < 1) || decide (32 < (s.size : Int))) = false := by rw [Bool.or_eq_false_iff]; simp only [decide_eq_false_iff_not]; omega
  rw [e1, ck_true (fun _ => ⟨by omega, by omega⟩)]
  simp only [callIf, Bool.not_false, if_true, Option.bind_some, Bool.false_or]
  change ∃ v, (if (!letterB (bget s 0)) = true then _ else _) = _ ∧ _
  cases hl : letterB (bget s 0) with
  | false => exact ⟨false, rfl, (fun h => by cases h), fun h => by cases h.2.1⟩
  | true =>
   rw [if_neg (by decide)]
   refine then_postE (fun v => v = true ↔ (1 ≤ s.size ∧ s.size ≤ 32) ∧ true = true ∧ ∀ j : Nat, j < s.size → badC (bget s (j : Int)) = false) (s.size - 1) (fun (_ : Unit) i => i + 1) (fun _ => ()) (fun i _ => ∀ j : Nat, j < i + 1 → badC (bget s (j : Int)) = false) () rfl (fun j hj => ?_) (by omega) (fun i t hi ht => ?_) (fun t _ => by (try simp only); rw [if_neg (by omega)]) (fun t ht => ⟨true, rfl, fun _ => ⟨by omega, rfl, fun j hj => ht j (by omega)⟩, fun _ => rfl⟩)
   ·have : j = 0 := by omega
    subst this
    unfold badC
    have : bget s ((0 : Nat) : Int) = bget s 0 := rfl
    rw [this, hl]
    rfl
   ·have h3 : I64 ((i : Int) + 1 + 1) := by unfold I64; omega
    try simp only
    rw [if_pos (by omega), ck_true ⟨by omega, by omega⟩]
    change (∃ t', (if badC (bget s ((i : Int) + 1)) = true then _ else _) = _ ∧ _) ∨ ∃ r, (if badC (bget s ((i : Int) + 1)) = true then _ else _) = _ ∧ _
    cases hb : badC (bget s ((i : Int) + 1)) with
    | true => exact .inr ⟨false, rfl, (fun h => by cases h), fun h => by
      have := h.2.2 (i + 1) (by omega)
      rw [Int.natCast_add] at this
      rw [show ((1 : Nat) : Int) = 1 from rfl, hb] at this
      cases this⟩
    | false =>
     rw [if_neg (by decide), ck_true h3]
     refine .inl ⟨(), rfl, fun j hj => ?_⟩
     rcases Nat.lt_or_ge j (i + 1) with h | h
     ·exact ht j h
     ·have : j = i + 1 := by omega
      subst this
      exact hb
theorem refLetter_eq (c : Int) : (((decide (65 ≤ c)) && (decide (c ≤ 90))) || ((decide (97 ≤ c)) && (decide (c ≤ 122)))) = letterB c := Bool.or_comm ..
theorem refIdent_iff {N : Nat} (hN : 40 < N) (s : ByteArray) : ∃ v, m_recyclingref04_Valid N s = some v ∧ (v = true ↔ identP s) := by
 unfold m_recyclingref04_Valid m_recyclingref04_letter identP
 simp only [refLetter_eq]
 by_cases h1 : s.size < 1 ∨ 32 < s.size
 ·have e1 : (decide ((s.size : Int) < 1) || decide (32 < (s.size : Int))) = true := by simp only [Bool.or_eq_true, decide_eq_true_eq]; omega
  rw [e1, ck_true (fun h => absurd h (by decide))]
  exact ⟨false, rfl, (fun h => by cases h), fun h => by omega⟩
 ·have e1 : (decide ((s.size : Int) < 1) || decide (32 < (s.size : Int))) = false := by rw [Bool.or_eq_false_iff]; simp only [decide_eq_false_iff_not]; omega
  rw [e1, ck_true (fun _ => ⟨by omega, by omega⟩)]
  simp only [callIf, Bool.not_false, if_true, Option.bind_some, Bool.false_or]
  cases hl : letterB (bget s 0) with
  | false => exact ⟨false, rfl, (fun h => by cases h), fun h => by cases h.2.1⟩
  | true =>
   rw [if_neg (by decide)]
   refine then_postE (fun v => v = true ↔ (1 ≤ s.size ∧ s.size ≤ 32) ∧ true = true ∧ ∀ j : Nat, j < s.size → badC (bget s (j : Int)) = false) s.size (fun (_ : Unit) i => i) (fun _ => ()) (fun i _ => ∀ j : Nat, j < i → badC (bget s (j : Int)) = false) () rfl (fun j hj => absurd hj (Nat.not_lt_zero _)) (by omega) (fun i t hi ht => ?_) (fun t _ => by (try simp only); rw [if_neg (by omega)]) (fun t ht => ⟨true, rfl, fun _ => ⟨by omega, rfl, ht⟩, fun _ => rfl⟩)
   have h3 : I64 ((i : Int) + 1) := by unfold I64; omega
   try simp only
   rw [if_pos (by omega), ck_true ⟨by omega, by omega⟩]
   change (∃ t', (if badC (bget s (i : Int)) = true then _ else _) = _ ∧ _) ∨ ∃ r, (if badC (bget s (i : Int)) = true then _ else _) = _ ∧ _
   cases hb : badC (bget s (i : Int)) with
   | true => exact .inr ⟨false, rfl, (fun h => by cases h), fun h => by
     have := h.2.2 i (by omega)
     rw [hb] at this
     cases this⟩
   | false =>
    rw [if_neg (by decide), ck_true h3]
    refine .inl ⟨(), rfl, fun j hj => ?_⟩
    rcases Nat.lt_or_ge j i with h | h
    ·exact ht j h
    ·have : j = i := by omega
     subst this
     exact hb
theorem ident_same {N : Nat} (hN : 40 < N) (s : ByteArray) : ∃ v, m_ident_Valid N s = some v ∧ m_recyclingref04_Valid N s = some v ∧ (v = true → s.size ≤ 32) := by
 obtain ⟨v, e, h⟩ := ident_iff hN s
 obtain ⟨w, f, g⟩ := refIdent_iff hN s
 have : w = v := Bool.eq_iff_iff.2 (g.trans h.symm)
 subst this
 exact ⟨w, e, f, fun hh => (h.1 hh).1.2⟩

/-! ### Containers -/
def identB (s : ByteArray) : Bool := (m_ident_Valid 40000 s).getD false
theorem identB_eq (s : ByteArray) : m_ident_Valid 40000 s = some (identB s) ∧ m_recyclingref04_Valid 40000 s = some (identB s) ∧ (identB s = true → s.size ≤ 32) := by
 obtain ⟨v, e, f, h⟩ := ident_same (N := 40000) (by omega) s
 have : identB s = v := by unfold identB; rw [e]; rfl
 rw [this]
 exact ⟨e, f, h⟩
def conFault (x : ApiContainer) (m n : Int) : Int :=
 if identB x.ID = false then 5 else if x.Kind < 0 ∨ m ≤ x.Kind then 21 else if x.Litres < 1 ∨ 40000 < x.Litres ∨ x.Grams < 1 ∨ 1073741824 < x.Grams then 1 else if x.Node < 0 ∨ n ≤ x.Node then 7 else 0
theorem conFault_ident {x : ApiContainer} {m n : Int} (h : conFault x m n = 0) : x.ID.size ≤ 32 := by
 unfold conFault at h
 split at h
 ·omega
 ·rename_i hv
  exact (identB_eq x.ID).2.2 (by simpa using hv)
theorem conCheck1_eq (x : ApiContainer) (m n : Int) : m_container_check 40000 x m n = some (conFault x m n) := by
 unfold m_container_check conFault
 rw [(identB_eq x.ID).1, Option.bind_some]
 cases hv : identB x.ID with
 | false => rfl
 | true =>
  simp only [Bool.not_true, Bool.false_eq_true, if_false, Bool.or_eq_true, decide_eq_true_eq, or_assoc, reduceCtorEq]
  (repeat' split) <;> first | rfl | (exfalso; omega)
def fstBad {α : Type} (f : α → Int) (l : List α) : Option Int := l.findSome? fun x => if f x = 0 then none else some (f x)
theorem fstBad_none {α : Type} {f : α → Int} {l : List α} (h : fstBad f l = none) : ∀ x ∈ l, f x = 0 := fun x hx => by
 unfold fstBad at h
 rw [List.findSome?_eq_none_iff] at h
 have := h x hx
 split at this
 ·assumption
 ·cases this
open Classical in
noncomputable def conSpec (l : List ApiContainer) (m n : Int) : Int :=
 if 256 < l.length then 8 else match fstBad (fun x => conFault x m n) l with
  | some e => e
  | none => if Bad (fun s t => (ix l (s : Int)).ID = (ix l (t : Int)).ID) l.length then 6 else 0
theorem conRef_eq (l : List ApiContainer) (m n : Int) : m_recyclingref13_Check 40000 l m n = some (conSpec l m n) := by
 unfold m_recyclingref13_Check conSpec
 by_cases h512 : 256 < l.length
 ·rw [if_pos (by omega), if_pos h512]
 ·rw [if_neg (by omega), if_neg h512]
  rw [loop_find l (fun x => if conFault x m n = 0 then none else some (conFault x m n)) () (fun i hi => by
   have h1 : ((i : Int)) < (l.length : Int) := by omega
   have h2 : I64 ((i : Int) + 1) := by unfold I64; omega
   rw [if_pos h1, ck_true ⟨by omega, h1⟩, ix_nat hi, (identB_eq _).2.1, Option.bind_some, ck_true h2]
   unfold conFault
   cases hv : identB l[i].ID with
   | false => rfl
   | true =>
    simp only [Bool.not_true, Bool.false_eq_true, if_false, Bool.or_eq_true, decide_eq_true_eq, or_assoc, reduceCtorEq]
    (repeat' split) <;> first | rfl | (exfalso; omega) | simp_all) (by rw [if_neg (by omega)]) (by omega)]
  change andThen (some (stepOf (fstBad (fun x => conFault x m n) l) ())) _ = _
  cases hb : fstBad (fun x => conFault x m n) l with
  | some e => rfl
  | none =>
   show andThen (some (Step.next ())) _ = _
   rw [andThen_next]
   refine loop_pair (fun s t => (ix l (s : Int)).ID = (ix l (t : Int)).ID) l.length 6 (by omega) (fun s hs h => ?_) (fun s hs h => ?_) (by rw [if_neg (by omega)]) (fun hbad => by simp only; rw [if_pos hbad]) (fun hgood => by simp only; rw [if_neg hgood])
   ·have h1 : ((s : Int)) < (l.length : Int) := by omega
    rw [if_pos h1]
    refine (loop_before (fun t => (ix l (s : Int)).ID = (ix l (t : Int)).ID) s _ (by omega) (fun t ht hr => ?_) (fun t ht hr => ?_) (by rw [if_neg (by omega)])).1 h
    ·rw [if_pos (by omega), ck_true ⟨by omega, h1⟩, ck_true ⟨by omega, by omega⟩, if_pos hr]
    ·rw [if_pos (by omega), ck_true ⟨by omega, h1⟩, ck_true ⟨by omega, by omega⟩, if_neg hr, ck_true (by unfold I64; omega)]
   ·have h1 : ((s : Int)) < (l.length : Int) := by omega
    rw [if_pos h1]
    refine ((loop_before (fun t => (ix l (s : Int)).ID = (ix l (t : Int)).ID) s (Step.done (Step.done 6)) (by omega) (fun t ht hr => ?_) (fun t ht hr => ?_) (by rw [if_neg (by omega)])).2 h).trans (by rw [ck_true (by unfold I64; omega)])
    ·rw [if_pos (by omega), ck_true ⟨by omega, h1⟩, ck_true ⟨by omega, by omega⟩, if_pos hr]
    ·rw [if_pos (by omega), ck_true ⟨by omega, h1⟩, ck_true ⟨by omega, by omega⟩, if_neg hr, ck_true (by unfold I64; omega)]
theorem conProg_eq (l : List ApiContainer) (m n : Int) : m_container_Check 40000 l m n = some (conSpec l m n) := by
 unfold m_container_Check conSpec
 by_cases h512 : 256 < l.length
 ·rw [if_pos (by omega), if_pos h512]
 ·rw [if_neg (by omega), if_neg h512]
  rw [loop_find l (fun x => if conFault x m n = 0 then none else some (conFault x m n)) () (fun i hi => by
   have h1 : ((i : Int)) < (l.length : Int) := by omega
   have h2 : I64 ((i : Int) + 1) := by unfold I64; omega
   rw [if_pos h1, ck_true ⟨by omega, h1⟩, conCheck1_eq, Option.bind_some, ix_nat hi, ck_true h2]
   by_cases hz : conFault l[i] m n = 0
   ·rw [if_neg (fun h => h hz), if_pos hz]
   ·rw [if_pos hz, if_neg hz]) (by rw [if_neg (by omega)]) (by omega)]
  change andThen (some (stepOf (fstBad (fun x => conFault x m n) l) ())) _ = _
  cases hb : fstBad (fun x => conFault x m n) l with
  | some e => rfl
  | none =>
   have hv := fstBad_none hb
   show andThen (some (Step.next ())) _ = _
   rw [andThen_next]
   simp only
   refine then_exE l.length (fun (t : List (ByteArray × Bool)) i => (t, i)) (fun _ => ()) (fun i t => ¬ Bad (fun s t => (ix l (s : Int)).ID = (ix l (t : Int)).ID) i ∧ ∀ y, Option.getD (mget t y) false = true ↔ ∃ j : Nat, j < i ∧ (ix l (j : Int)).ID = y) (fun r => r = 6 ∧ Bad (fun s t => (ix l (s : Int)).ID = (ix l (t : Int)).ID) l.length) [] rfl ⟨fun ⟨s, t, a, b, _⟩ => by omega, fun y => ⟨fun h => by simp [mget] at h, fun ⟨j, hj, _⟩ => absurd hj (Nat.not_lt_zero _)⟩⟩ (by omega)
    (fun i t hi ⟨hn, ht⟩ => ?_) (fun t _ => by simp only; rw [if_neg (by omega)]) (fun t ⟨ht, _⟩ => by rw [if_neg ht]) (fun r ⟨hr, hd⟩ => by rw [hr, if_pos hd])
   have h1 : ((i : Int)) < (l.length : Int) := by omega
   have h2 : I64 ((i : Int) + 1) := by unfold I64; omega
   have h3 : ByteArray.size (ix l (i : Int)).ID ≤ 9223372036854775807 := by
    have := conFault_ident (hv l[i] (List.getElem_mem hi))
    rw [ix_nat hi]
    omega
   simp only
   rw [if_pos h1, ck_true ⟨by omega, h1⟩, ck_true h3, ck_true h3, ck_true h2]
   by_cases hm : Option.getD (mget t (ix l (i : Int)).ID) false = true
   ·rw [if_pos hm]
    obtain ⟨j, hj, e⟩ := (ht _).1 hm
    exact .inr ⟨6, rfl, rfl, i, j, hj, hi, e.symm⟩
   ·rw [if_neg hm]
    refine .inl ⟨_, rfl, fun ⟨s, t', a, b, c⟩ => ?_, fun y => ?_⟩
    ·rcases Nat.lt_or_ge s i with hs | hs
     ·exact hn ⟨s, t', a, hs, c⟩
     ·have : s = i := by omega
      subst this
      exact hm ((ht _).2 ⟨t', a, c.symm⟩)
    ·rw [mget_mput]
     by_cases hy : y = (ix l (i : Int)).ID
     ·subst hy
      simp only [if_true, Option.getD_some, true_iff]
      exact ⟨i, by omega, rfl⟩
     ·rw [if_neg hy, ht]
      refine ⟨fun ⟨j, a, b⟩ => ⟨j, by omega, b⟩, fun ⟨j, a, b⟩ => ⟨j, ?_, b⟩⟩
      rcases Nat.lt_or_ge j i with hs | hs
      ·exact hs
      ·have : j = i := by omega
       subst this
       exact absurd b.symm hy
end Go.Proofs.YtbnimhmoffchdaaGreatDoor
