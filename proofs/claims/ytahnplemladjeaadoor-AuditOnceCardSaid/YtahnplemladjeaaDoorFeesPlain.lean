/- The plain law of Fees: no program in sight. And the state that the collecting functions of audit share. -/
import Derived.Test.YtahnplemladjeaaDoorMassCells
namespace Go.Proofs.YtahnplemladjeaaDoor
open Go.RowKit

structure Fee where
  prod : Int
  mat : Int
  amt : Int
def feC (x : Fee) : List Value := [.int .i64 x.prod, .int .i64 x.mat, .int .i64 x.amt]
def FeR (x : Fee) (cs : List Value) : Prop := cs = feC x
theorem fe_cells {w : World} {B : Nat} {A : Option Addr} {l : List Fee} {k : Nat} {x : Fee} (h : Rd w B 3 FeR A l) (hx : l[k]? = some x) :
    ∃ b off, A = some ⟨b, off, none⟩ ∧ b < B ∧ w.cell? ⟨b, off + k * 3, none⟩ = some (.int .i64 x.prod) ∧ w.cell? ⟨b, off + k * 3 + 1, none⟩ = some (.int .i64 x.mat) ∧ w.cell? ⟨b, off + k * 3 + 2, none⟩ = some (.int .i64 x.amt) := by
  obtain ⟨b, off, e, hb, cs, _, rfl, hc⟩ := h.at_ hx
  exact ⟨b, off, e, hb, hc 0 _ rfl, hc 1 _ rfl, hc 2 _ rfl⟩
def amtOk (n : Int) : Bool := decide (0 ≤ n) && decide (n ≤ 1000000000000)
/-- The program's way: the sum is kept while all amounts are right. -/
def feStep (m : Int) (a : Int × Bool) (x : Fee) : Int × Bool :=
  if x.mat = m then (if a.2 && amtOk x.amt then a.1 + x.amt else a.1, a.2 && amtOk x.amt) else a
def feAcc (m : Int) (l : List Fee) : Int × Bool := l.foldl (feStep m) (0, true)
theorem feAcc_snoc (m : Int) (l : List Fee) (x : Fee) : feAcc m (l ++ [x]) = feStep m (feAcc m l) x := by simp [feAcc]
theorem feAcc_in {m : Int} {l : List Fee} {j : Nat} {x : Fee} (h : l[j]? = some x) : feAcc m (l.take (j + 1)) = feStep m (feAcc m (l.take j)) x := by rw [take_snoc h, feAcc_snoc]
/-- The reference's way: the sum of the right amounts. -/
def reStep (m : Int) (a : Int × Bool) (x : Fee) : Int × Bool :=
  if x.mat = m then (if amtOk x.amt then (a.1 + x.amt, a.2) else (a.1, false)) else a
def reAcc (m : Int) (l : List Fee) : Int × Bool := l.foldl (reStep m) (0, true)
theorem reAcc_snoc (m : Int) (l : List Fee) (x : Fee) : reAcc m (l ++ [x]) = reStep m (reAcc m l) x := by simp [reAcc]
theorem reAcc_in {m : Int} {l : List Fee} {j : Nat} {x : Fee} (h : l[j]? = some x) : reAcc m (l.take (j + 1)) = reStep m (reAcc m (l.take j)) x := by rw [take_snoc h, reAcc_snoc]
def AccBd (n : Nat) (a : Int × Bool) : Prop := 0 ≤ a.1 ∧ a.1 ≤ (n : Int) * 1000000000000
theorem amtOk_bd {n : Int} (h : amtOk n = true) : 0 ≤ n ∧ n ≤ 1000000000000 := by
  simp [amtOk] at h; exact h
theorem feStep_bd {n : Nat} {a : Int × Bool} (h : AccBd n a) (m : Int) (x : Fee) : AccBd (n + 1) (feStep m a x) := by
  obtain ⟨h1, h2⟩ := h
  unfold feStep AccBd
  split
  · split
    · rename_i hc
      have := amtOk_bd (n := x.amt) (by simp at hc; exact hc.2)
      simp only; omega
    · simp only; omega
  · omega
theorem reStep_bd {n : Nat} {a : Int × Bool} (h : AccBd n a) (m : Int) (x : Fee) : AccBd (n + 1) (reStep m a x) := by
  obtain ⟨h1, h2⟩ := h
  unfold reStep AccBd
  split
  · split
    · rename_i hc
      have := amtOk_bd hc
      simp only; omega
    · simp only; omega
  · omega
theorem feAcc_bd (m : Int) (l : List Fee) : AccBd l.length (feAcc m l) := by
  have gen : ∀ (l : List Fee) (n : Nat) (a : Int × Bool), AccBd n a → AccBd (n + l.length) (l.foldl (feStep m) a) := by
    intro l
    induction l with
    | nil => intro n a h; exact h
    | cons x l ih => intro n a h; have := ih (n + 1) _ (feStep_bd h m x); simp only [List.foldl_cons, List.length_cons]; rw [show n + (l.length + 1) = n + 1 + l.length from by omega]; exact this
  have := gen l 0 (0, true) ⟨by simp, by simp⟩
  rw [Nat.zero_add] at this
  exact this
theorem reAcc_bd (m : Int) (l : List Fee) : AccBd l.length (reAcc m l) := by
  have gen : ∀ (l : List Fee) (n : Nat) (a : Int × Bool), AccBd n a → AccBd (n + l.length) (l.foldl (reStep m) a) := by
    intro l
    induction l with
    | nil => intro n a h; exact h
    | cons x l ih => intro n a h; have := ih (n + 1) _ (reStep_bd h m x); simp only [List.foldl_cons, List.length_cons]; rw [show n + (l.length + 1) = n + 1 + l.length from by omega]; exact this
  have := gen l 0 (0, true) ⟨by simp, by simp⟩
  rw [Nat.zero_add] at this
  exact this
/-- The two ways agree on what matters. -/
theorem acc_same (m : Int) (l : List Fee) : (reAcc m l).2 = (feAcc m l).2 ∧ ((feAcc m l).2 = true → (reAcc m l).1 = (feAcc m l).1) := by
  have gen : ∀ (l : List Fee) (a b : Int × Bool), (b.2 = a.2 ∧ (a.2 = true → b.1 = a.1)) → ((l.foldl (reStep m) b).2 = (l.foldl (feStep m) a).2 ∧ ((l.foldl (feStep m) a).2 = true → (l.foldl (reStep m) b).1 = (l.foldl (feStep m) a).1)) := by
    intro l
    induction l with
    | nil => intro a b h; exact h
    | cons x l ih =>
      intro a b h
      simp only [List.foldl_cons]
      refine ih _ _ ?_
      obtain ⟨h1, h2⟩ := h
      unfold feStep reStep
      by_cases hm : x.mat = m
      · rw [if_pos hm, if_pos hm]
        cases hx : amtOk x.amt <;> cases ha : a.2 <;> simp_all
      · rw [if_neg hm, if_neg hm]; exact ⟨h1, h2⟩
  exact gen l (0, true) (0, true) ⟨rfl, fun _ => rfl⟩

def costBad (costs : List Int) (l : List Fee) (k : Nat) : Bool := !(feAcc k l).2 || ((feAcc k l).1 != costs.getD k 0)
def costsF (costs : List Int) (l : List Fee) : Nat → List Fnd
  | 0 => []
  | k + 1 => costsF costs l k ++ (if costBad costs l k then [⟨9, k, 0⟩] else [])
def strayB (n : Nat) (x : Fee) : Bool := decide (x.mat < 0) || decide ((n : Int) ≤ x.mat)
def strayF (n : Nat) (l : List Fee) : List Fnd := l.flatMap fun x => if strayB n x then [⟨9, x.mat, 0⟩] else []
def feesF (costs : List Int) (l : List Fee) : List Fnd := costsF costs l costs.length ++ strayF costs.length l
theorem costsF_le (costs : List Int) (l : List Fee) (k : Nat) : (costsF costs l k).length ≤ k := by
  induction k with
  | zero => simp [costsF]
  | succ k ih => simp only [costsF, List.length_append]; split <;> simp <;> omega
theorem strayF_snoc (n : Nat) (l : List Fee) (x : Fee) : strayF n (l ++ [x]) = strayF n l ++ (if strayB n x then [⟨9, x.mat, 0⟩] else []) := by simp [strayF]
theorem strayF_in {n : Nat} {l : List Fee} {j : Nat} {x : Fee} (h : l[j]? = some x) : strayF n (l.take (j + 1)) = strayF n (l.take j) ++ (if strayB n x then [⟨9, x.mat, 0⟩] else []) := by rw [take_snoc h, strayF_snoc]
theorem strayF_le (n : Nat) (l : List Fee) : (strayF n l).length ≤ l.length := by
  induction l with
  | nil => simp [strayF]
  | cons x l ih =>
    have : strayF n (x :: l) = (if strayB n x then [⟨9, x.mat, 0⟩] else []) ++ strayF n l := by simp [strayF]
    rw [this]; simp only [List.length_append, List.length_cons]; split <;> simp <;> omega

/-- What holds in a collecting function of audit: the books in block N, out in N + 1, the captured pointer in N + 2. -/
def APre (w : World) (N : Nat) (bk : List Value) (fs : List Fnd) (wr : World) : Prop :=
  Below N w wr ∧ N + 3 ≤ wr.heap.size ∧ Blk wr N 40 bk ∧ Out wr N (N + 1) (N + 1 + 1) fs
theorem Out.later {w w' : World} {base Bo Bl : Nat} {fs : List Fnd} (h : Out w base Bo Bl fs) (hb : Below w.heap.size w w') : Out w' base Bo Bl fs := by
  obtain ⟨a, b, v, c, d⟩ := h
  exact ⟨a, b.below hb b.lt, v, c.below hb c.lt, d.kept (row := none) ⟨hb.os, hb.tape, hb.output, hb.size, fun k hk _ => hb.block k hk⟩ (by cases v.ownBlock <;> simp)⟩
section
variable {w wr w' : World} {N : Nat} {bk : List Value} {fs fs' : List Fnd}
theorem APre.later (h : APre w N bk fs wr) (hb : Below wr.heap.size wr w') : APre w N bk fs w' := by
  obtain ⟨a, b, c, d⟩ := h
  exact ⟨a.trans (hb.mono (by omega)), Nat.le_trans b hb.size, c.below hb c.lt, d.later hb⟩
theorem APre.alloc (h : APre w N bk fs wr) (o : Obj) : APre w N bk fs (wr.alloc o) := h.later ((Below.refl _ _).alloc (Nat.le_refl _) _)
theorem APre.found (h : APre w N bk fs wr) (ho : Out w' N (N + 1) (N + 1 + 1) fs') (hk : Kp [41, 49] N wr w') : APre w N bk fs' w' := by
  obtain ⟨a, b, c, _⟩ := h
  exact ⟨a.trans hk.below, Nat.le_trans b hk.below.size, hk.blk _ _ _ (by decide) c, ho⟩
theorem APre.out (h : APre w N bk fs wr) : Out wr N (N + 1) (N + 1 + 1) fs := h.2.2.2
end
theorem apre_start {w : World} {bk : List Value} : APre w w.heap.size bk [] (((w.alloc (.cells bk.toArray 40)).alloc (.cells #[.slice none 0 0] 41)).alloc (.cells #[.pointer (some ⟨w.heap.size + 1, 0, none⟩)] 74)) := by
  have h0 := Blk.new w 40 bk
  have h1 := Blk.new (w.alloc (.cells bk.toArray 40)) 41 [.slice none 0 0]
  have h2 := Blk.new ((w.alloc (.cells bk.toArray 40)).alloc (.cells #[.slice none 0 0] 41)) 74 [.pointer (some ⟨w.heap.size + 1, 0, none⟩)]
  simp only [World.size_alloc] at h1 h2
  exact ⟨(((Below.refl _ _).alloc (Nat.le_refl _) _).alloc (by simp) _).alloc (by simp only [World.size_alloc]; omega) _, by simp, (h0.alloc _).alloc _, ⟨by omega, h2, _, h1.alloc _, World.ownsRow_nil _ _ _ _⟩⟩
end Go.Proofs.YtahnplemladjeaaDoor
