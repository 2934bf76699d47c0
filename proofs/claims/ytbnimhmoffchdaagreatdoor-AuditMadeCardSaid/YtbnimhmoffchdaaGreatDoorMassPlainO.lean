/- The plain law of Mass: stocks, findings and the sum of the bales as functions of lists; no program in sight. -/
import Derived.Test.YtbnimhmoffchdaaGreatDoorSmallO
namespace Go.Proofs.YtbnimhmoffchdaaGreatDoor
open Go.RowKit

structure Tr where
  f : Int
  t : Int
  lo : Int
  hi : Int
def trC (x : Tr) : List Value := [.int .i64 x.f, .int .i64 x.t, .int .i64 x.lo, .int .i64 x.hi]
def Tr.bad (x : Tr) : Bool := invalidB x.f x.t x.lo x.hi
def upd {α : Type} (S : Nat → α) (i : Nat) (v : α) : Nat → α := fun j => if j = i then v else S j
def stepFrom (S : Nat → Int) (x : Tr) : Nat → Int := upd (upd S (x.f.toNat * 2) (S (x.f.toNat * 2) - x.hi)) (x.f.toNat * 2 + 1) (S (x.f.toNat * 2 + 1) - x.lo)
def stepTo (S : Nat → Int) (x : Tr) : Nat → Int := upd (upd S (x.t.toNat * 2) (S (x.t.toNat * 2) + x.lo)) (x.t.toNat * 2 + 1) (S (x.t.toNat * 2 + 1) + x.hi)
def stepS (S : Nat → Int) (x : Tr) : Nat → Int := if x.bad then S else stepTo (stepFrom S x) x
def stk (ts : List Tr) : Nat → Int := ts.foldl stepS (fun _ => 0)
theorem stk_snoc (ts : List Tr) (x : Tr) : stk (ts ++ [x]) = stepS (stk ts) x := by simp [stk]
theorem good_of {x : Tr} (h : x.bad = false) : 0 ≤ x.f ∧ x.f < 7 ∧ 0 ≤ x.t ∧ x.t < 7 ∧ x.f ≠ x.t ∧ 0 ≤ x.lo ∧ x.lo ≤ x.hi ∧ x.hi ≤ 70368744177664 := by
  simp [Tr.bad, invalidB] at h; omega
/-- Stocks stay within count times the greatest mass. -/
def Bd (m : Nat) (S : Nat → Int) : Prop := ∀ j, -((m : Int) * 70368744177664) ≤ S j ∧ S j ≤ (m : Int) * 70368744177664
theorem Bd_mono {m n : Nat} {S : Nat → Int} (h : Bd m S) (hn : m ≤ n) : Bd n S := by
  intro j; have := h j; omega
theorem Bd_step {m : Nat} {S : Nat → Int} (h : Bd m S) (x : Tr) : Bd (m + 1) (stepS S x) := by
  unfold stepS
  split
  · exact Bd_mono h (by omega)
  · rename_i hb
    have g := good_of (by simpa using hb)
    intro j
    have a1 := h (x.f.toNat * 2)
    have a2 := h (x.f.toNat * 2 + 1)
    have a3 := h (x.t.toNat * 2)
    have a4 := h (x.t.toNat * 2 + 1)
    have a5 := h j
    unfold stepTo stepFrom upd
    repeat' split
    all_goals omega
theorem stk_bd (ts : List Tr) : Bd ts.length (stk ts) := by
  have gen : ∀ (l : List Tr) (m : Nat) (S : Nat → Int), Bd m S → Bd (m + l.length) (l.foldl stepS S) := by
    intro l
    induction l with
    | nil => intro m S h; simpa using h
    | cons x l ih => intro m S h; have := ih (m + 1) _ (Bd_step h x); simp only [List.foldl_cons, List.length_cons]; rw [show m + (l.length + 1) = m + 1 + l.length from by omega]; exact this
  have := gen ts 0 (fun _ => 0) (fun j => by simp)
  rw [Nat.zero_add] at this
  exact this

/-- The nodes that have a finding, and the findings, after the first k transfers. -/
def stepO (ts : List Tr) (k : Nat) (x : Tr) (o : (Nat → Bool) × List Fnd) : (Nat → Bool) × List Fnd :=
  if x.bad then (o.1, o.2 ++ [⟨1, k, 0⟩])
  else if x.f ≠ 0 ∧ stk (ts.take (k + 1)) (x.f.toNat * 2 + 1) < 0 ∧ o.1 x.f.toNat = false then (upd o.1 x.f.toNat true, o.2 ++ [⟨2, x.f, k⟩])
  else o
def outs (ts : List Tr) : Nat → (Nat → Bool) × List Fnd
  | 0 => (fun _ => false, [])
  | k + 1 => match ts[k]? with
    | none => outs ts k
    | some x => stepO ts k x (outs ts k)
theorem outs_succ {ts : List Tr} {k : Nat} {x : Tr} (h : ts[k]? = some x) : outs ts (k + 1) = stepO ts k x (outs ts k) := by simp [outs, h]
theorem outs_le (ts : List Tr) (k : Nat) : (outs ts k).2.length ≤ k := by
  induction k with
  | zero => simp [outs]
  | succ k ih =>
    cases h : ts[k]? with
    | none => simp only [outs, h]; omega
    | some x =>
      rw [outs_succ h]; unfold stepO
      split
      · simp; omega
      · split
        · simp; omega
        · omega

/-- The sum of the bales' masses while all are in range. -/
def accStep (a : Int × Bool) (n : Int) : Int × Bool :=
  (if a.2 && (decide (0 ≤ n) && decide (n ≤ 1073741824)) then wrap64 (a.1 + n) else a.1, a.2 && (decide (0 ≤ n) && decide (n ≤ 1073741824)))
def acc (l : List Int) : Int × Bool := l.foldl accStep (0, true)
theorem acc_snoc (l : List Int) (n : Int) : acc (l ++ [n]) = accStep (acc l) n := by simp [acc]
structure Bale where
  id : Int
  mat : Int
  at_ : Int
  mix : List Int
def mixes (bs : List Bale) : List Int := bs.flatMap (·.mix)
theorem mixes_snoc (bs : List Bale) (x : Bale) : mixes (bs ++ [x]) = mixes bs ++ x.mix := by simp [mixes]

def plantBad (ts : List Tr) (ins bins : Int) : Bool :=
  !withinB 0 70368744177664 ins || !withinB 0 70368744177664 bins || !withinB (stk ts 6) (stk ts 7) (ins + bins)
def balesBad (ts : List Tr) (bs : List Bale) : Bool :=
  !(acc (mixes bs)).2 || !withinB (stk ts 8) (stk ts 9) (acc (mixes bs)).1
def massF (ts : List Tr) (ins bins : Int) (bs : List Bale) : List Fnd :=
  (outs ts ts.length).2 ++ (if plantBad ts ins bins then [⟨3, 0, 0⟩] else []) ++ (if balesBad ts bs then [⟨4, 0, 0⟩] else [])
/-- Cells of the program's two arrays. -/
def stC (S : Nat → Int) : List Value := (List.range 14).map fun i => .int .i64 (S i)
def toC (T : Nat → Bool) : List Value := (List.range 7).map fun i => .bool (T i)
theorem stC_get (S : Nat → Int) {i : Nat} (h : i < 14) : (stC S)[i]? = some (.int .i64 (S i)) := by simp [stC, h]
theorem toC_get (T : Nat → Bool) {i : Nat} (h : i < 7) : (toC T)[i]? = some (.bool (T i)) := by simp [toC, h]
theorem map_set {α β : Type} (g : α → β) (S : Nat → α) (n i : Nat) (v : α) : ((List.range n).map fun j => g (S j)).set i (g v) = (List.range n).map fun j => g (upd S i v j) := by
  apply List.ext_getElem?
  intro j
  rw [List.getElem?_set]
  by_cases hj : j < n
  · simp only [List.length_map, List.length_range, List.getElem?_map, List.getElem?_range hj, Option.map_some, upd]
    by_cases e : i = j
    · subst e; simp [hj]
    · rw [if_neg e, if_neg (fun h : j = i => e h.symm)]
  · have : (List.range n)[j]? = none := by simp; omega
    simp [this]; intro _; omega
theorem stC_set (S : Nat → Int) (i : Nat) (v : Int) : (stC S).set i (.int .i64 v) = stC (upd S i v) := map_set (Value.int .i64) S 14 i v
theorem toC_set (T : Nat → Bool) (i : Nat) (v : Bool) : (toC T).set i (.bool v) = toC (upd T i v) := map_set Value.bool T 7 i v
end Go.Proofs.YtbnimhmoffchdaaGreatDoor
