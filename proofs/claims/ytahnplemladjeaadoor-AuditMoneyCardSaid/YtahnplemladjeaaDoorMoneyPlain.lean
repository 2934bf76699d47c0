/- The plain law of Money: postings, their check, the findings. -/
import Derived.Test.YtahnplemladjeaaDoorRefSt
namespace Go.Proofs.YtahnplemladjeaaDoor
open Go.RowKit

structure Ln where
  acc : Int
  amt : Int
structure Pst where
  id : Int
  at_ : Int
  lines : List Ln
def lnC (x : Ln) : List Value := [.int .i64 x.acc, .int .i64 x.amt]
def LnR (x : Ln) (cs : List Value) : Prop := cs = lnC x
def PsR (w : World) (B : Nat) (x : Pst) (cs : List Value) : Prop := ∃ A c, cs = [.int .i64 x.id, .int .i64 x.at_, .slice A x.lines.length c] ∧ Rd w B 2 LnR A x.lines
theorem PsR.later {w w' : World} (hb : Below w.heap.size w w') (x : Pst) (cs : List Value) (h : PsR w w.heap.size x cs) : PsR w' w'.heap.size x cs := by
  obtain ⟨A, c, e, h⟩ := h
  exact ⟨A, c, e, (h.below hb).more hb.size⟩
theorem ln_at {w : World} {B : Nat} {A : Option Addr} {l : List Ln} {k : Nat} {x : Ln} (h : Rd w B 2 LnR A l) (hx : l[k]? = some x) : ∃ b off, A = some ⟨b, off, none⟩ ∧ w.cell? ⟨b, off + k * 2 + 1, none⟩ = some (.int .i64 x.amt) ∧ ∀ j u, (lnC x)[j]? = some u → w.cell? ⟨b, off + k * 2 + j, none⟩ = some u := by
  obtain ⟨b, off, e, _, cs, _, rfl, hc⟩ := h.at_ hx
  exact ⟨b, off, e, hc 1 _ rfl, hc⟩
def lineOk (x : Ln) : Bool := decide (0 ≤ x.acc ∧ x.acc ≤ 1000000 ∧ x.amt ≠ 0 ∧ -1000000000000 ≤ x.amt ∧ x.amt ≤ 1000000000000)
def headBad (p : Pst) : Bool := decide (p.id < 1 ∨ 1000000 < p.id ∨ p.at_ < 0 ∨ 3155759999 < p.at_)
def sumL : List Ln → Int
  | [] => 0
  | x :: l => x.amt + sumL l
theorem sumL_snoc (l : List Ln) (x : Ln) : sumL (l ++ [x]) = sumL l + x.amt := by
  induction l with
  | nil => simp [sumL]
  | cons y l ih => simp only [List.cons_append, sumL, ih]; omega
theorem sumL_in {l : List Ln} {k : Nat} {x : Ln} (h : l[k]? = some x) : sumL (l.take (k + 1)) = sumL (l.take k) + x.amt := by rw [take_snoc h, sumL_snoc]
theorem sumL_bd (l : List Ln) (h : ∀ x ∈ l, lineOk x = true) : -((l.length : Int) * 1000000000000) ≤ sumL l ∧ sumL l ≤ (l.length : Int) * 1000000000000 := by
  induction l with
  | nil => simp [sumL]
  | cons x l ih =>
    have h1 := h x (List.mem_cons_self ..)
    have h2 := ih fun y hy => h y (List.mem_cons_of_mem _ hy)
    simp [lineOk] at h1
    simp only [sumL, List.length_cons]
    omega
def checkF (p : Pst) : Int :=
  if headBad p then 1 else if 16 < p.lines.length then 8 else if p.lines.length < 2 then 10 else if p.lines.all lineOk then (if sumL p.lines ≠ 0 then 16 else 0) else 1
theorem take_ok {l : List Ln} {k : Nat} {x : Ln} (h : ∀ y ∈ l.take k, lineOk y = true) (hx : l[k]? = some x) (hk : lineOk x = true) : ∀ y ∈ l.take (k + 1), lineOk y = true := by
  rw [take_snoc hx]
  intro y hy
  rcases List.mem_append.1 hy with hy | hy
  · exact h y hy
  · simp at hy; subst hy; exact hk
theorem not_all {l : List Ln} {k : Nat} {x : Ln} (hx : l[k]? = some x) (hk : lineOk x = false) : l.all lineOk = false := by
  rw [List.all_eq_false]
  exact ⟨x, List.mem_of_getElem? hx, by simp [hk]⟩
/-- The findings on the postings before number k. -/
def sameId (l : List Pst) (x : Pst) : Nat := l.findIdx fun y => decide (y.id = x.id)
def moneyStep (l : List Pst) (k : Nat) (x : Pst) : List Fnd := (if checkF x ≠ 0 then [⟨15, k, checkF x⟩] else []) ++ (if sameId l x < k then [⟨16, k, (sameId l x : Nat)⟩] else [])
def moneyF (l : List Pst) : Nat → List Fnd
  | 0 => []
  | k + 1 => moneyF l k ++ (match l[k]? with
    | none => []
    | some x => moneyStep l k x)
theorem moneyF_in {l : List Pst} {k : Nat} {x : Pst} (h : l[k]? = some x) : moneyF l (k + 1) = moneyF l k ++ moneyStep l k x := by simp [moneyF, h]
theorem moneyStep_le (l : List Pst) (k : Nat) (x : Pst) : (moneyStep l k x).length ≤ 2 := by
  unfold moneyStep
  rw [List.length_append]
  split <;> split <;> simp
theorem moneyF_le (l : List Pst) (k : Nat) : (moneyF l k).length ≤ 2 * k := by
  induction k with
  | zero => simp [moneyF]
  | succ k ih =>
    cases h : l[k]? with
    | none => simp [moneyF, h]; omega
    | some x => rw [moneyF_in h, List.length_append]; have := moneyStep_le l k x; omega
theorem sameId_self {l : List Pst} {k : Nat} {x : Pst} (h : l[k]? = some x) : sameId l x ≤ k := by
  obtain ⟨hk, rfl⟩ := List.getElem?_eq_some_iff.1 h
  apply Nat.le_of_not_lt
  intro hlt
  have := List.not_of_lt_findIdx hlt
  simp at this
theorem sameId_ge {l : List Pst} {x : Pst} {k : Nat} (h : ∀ j y, j < k → l[j]? = some y → y.id ≠ x.id) (hk : k ≤ l.length) : k ≤ sameId l x := by
  apply Nat.le_of_not_lt
  intro hlt
  have hl : sameId l x < l.length := by omega
  have h1 := List.findIdx_getElem (w := hl)
  have h2 := h _ _ hlt (List.getElem?_eq_getElem hl)
  simp at h1
  exact h2 h1
theorem sameId_at {l : List Pst} {x y : Pst} {k : Nat} (h : k ≤ sameId l x) (hy : l[k]? = some y) (he : y.id = x.id) : sameId l x = k := by
  apply Nat.le_antisymm _ h
  apply Nat.le_of_not_lt
  intro hlt
  obtain ⟨hk, rfl⟩ := List.getElem?_eq_some_iff.1 hy
  have := List.not_of_lt_findIdx hlt
  simp [he] at this
theorem sameId_past {l : List Pst} {x y : Pst} {k : Nat} (h : k ≤ sameId l x) (hy : l[k]? = some y) (he : y.id ≠ x.id) : k + 1 ≤ sameId l x := by
  apply Nat.succ_le_of_lt
  apply Nat.lt_of_le_of_ne h
  intro e
  obtain ⟨hk, rfl⟩ := List.getElem?_eq_some_iff.1 hy
  have hl : sameId l x < l.length := by omega
  have h1 := List.findIdx_getElem (w := hl)
  simp only [decide_eq_true_eq] at h1
  apply he
  rw [← h1]
  congr 2
theorem ps_at {w : World} {B : Nat} {A : Option Addr} {l : List Pst} {k : Nat} {x : Pst} {w0 : World} {B0 : Nat} (h : Rd w B 3 (PsR w0 B0) A l) (hx : l[k]? = some x) : ∃ b off lA lc, A = some ⟨b, off, none⟩ ∧ w.cell? ⟨b, off + k * 3, none⟩ = some (.int .i64 x.id) ∧ Rd w0 B0 2 LnR lA x.lines ∧ ∀ j u, ([.int .i64 x.id, .int .i64 x.at_, .slice lA x.lines.length lc] : List Value)[j]? = some u → w.cell? ⟨b, off + k * 3 + j, none⟩ = some u := by
  obtain ⟨b, off, e, _, cs, _, ⟨lA, lc, rfl, hl⟩, hc⟩ := h.at_ hx
  exact ⟨b, off, lA, lc, e, hc 0 _ rfl, hl, hc⟩
end Go.Proofs.YtahnplemladjeaaDoor
