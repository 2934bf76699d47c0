/- The plain law of Deposits: sales, claims, payouts, products and the findings. -/
import Derived.Test.YtahnplemladjeaaDoorRefSt
import Derived.Test.YtahnplemladjeaaDoorIdxFunc
namespace Go.Proofs.YtahnplemladjeaaDoor
open Go.RowKit

structure Clm where
  serial : Int
  machine : Int
  seq : Int
  at_ : Int
  paid : Bool
structure Pay where
  serial : Int
  machine : Int
  seq : Int
  at_ : Int
  paid : Bool
  prod : Int
  amt : Int
structure Sal where
  prod : Int
  first : Int
  count : Int
  ret : Int
  at_ : Int
structure Prd where
  code : ByteArray
  producer : Int
  dep : Int
  mat : Int
  grams : Int
def clC (x : Clm) : List Value := [.int .i64 x.serial, .int .i64 x.machine, .int .i64 x.seq, .int .i64 x.at_, .bool x.paid]
def paC (x : Pay) : List Value := [.int .i64 x.serial, .int .i64 x.machine, .int .i64 x.seq, .int .i64 x.at_, .bool x.paid, .int .i64 x.prod, .int .i64 x.amt]
def saC (x : Sal) : List Value := [.int .i64 x.prod, .int .i64 x.first, .int .i64 x.count, .int .i64 x.ret, .int .i64 x.at_]
def prC (x : Prd) : List Value := [.string x.code, .int .i64 x.producer, .int .i64 x.dep, .int .i64 x.mat, .int .i64 x.grams]
def ClR (x : Clm) (cs : List Value) : Prop := cs = clC x
def PaR (x : Pay) (cs : List Value) : Prop := cs = paC x ∧ I64 x.serial
def SaR (x : Sal) (cs : List Value) : Prop := cs = saC x
def PrR (x : Prd) (cs : List Value) : Prop := cs = prC x
def Pay.claim (x : Pay) : Clm := ⟨x.serial, x.machine, x.seq, x.at_, x.paid⟩
def clEq (a b : Clm) : Bool := decide (a.serial = b.serial) && (decide (a.machine = b.machine) && (decide (a.seq = b.seq) && (decide (a.at_ = b.at_) && (a.paid == b.paid))))
def soldB (serial : Int) (s : Sal) : Bool := decide (0 ≤ s.first ∧ s.first ≤ serial ∧ serial - s.first < s.count)
/-- The sale that contains a serial number. -/
def saleOf (sl : List Sal) (serial : Int) : Option Sal := sl[sl.findIdx (soldB serial)]?
def unsoldB (sl : List Sal) (np : Nat) (x : Pay) : Bool :=
  match saleOf sl x.serial with
  | none => true
  | some s => decide (x.prod ≠ s.prod ∨ x.prod < 0 ∨ (np : Int) ≤ x.prod)
def depOf (pl : List Prd) (k : Int) : Int := match pl[k.toNat]? with
  | none => 0
  | some p => p.dep
def firstSer (l : List Pay) (x : Pay) : Nat := l.findIdx fun y => decide (y.serial = x.serial)
def payA (sl : List Sal) (pl : List Prd) (k : Nat) (x : Pay) : List Fnd := if unsoldB sl pl.length x then [⟨5, k, 0⟩] else if x.amt ≠ depOf pl x.prod then [⟨6, k, 0⟩] else []
def payB (l : List Pay) (k : Nat) (x : Pay) : List Fnd := if firstSer l x < k then [⟨7, k, (firstSer l x : Nat)⟩] else []
def payC (cl : List Clm) (k : Nat) (x : Pay) : List Fnd := if cl.any (clEq x.claim) then [] else [⟨8, k, 0⟩]
def payStep (sl : List Sal) (pl : List Prd) (cl : List Clm) (l : List Pay) (k : Nat) (x : Pay) : List Fnd := payA sl pl k x ++ payB l k x ++ payC cl k x
def depF (sl : List Sal) (pl : List Prd) (cl : List Clm) (l : List Pay) : Nat → List Fnd
  | 0 => []
  | k + 1 => depF sl pl cl l k ++ (match l[k]? with
    | none => []
    | some x => payStep sl pl cl l k x)
section
variable {sl : List Sal} {pl : List Prd} {cl : List Clm} {l : List Pay} {k : Nat} {x : Pay}
theorem depF_in (h : l[k]? = some x) : depF sl pl cl l (k + 1) = depF sl pl cl l k ++ payStep sl pl cl l k x := by simp [depF, h]
theorem payA_le : (payA sl pl k x).length ≤ 1 := by unfold payA; split <;> (try split) <;> simp
theorem payB_le : (payB l k x).length ≤ 1 := by unfold payB; split <;> simp
theorem payC_le : (payC cl k x).length ≤ 1 := by unfold payC; split <;> simp
theorem payStep_le : (payStep sl pl cl l k x).length ≤ 3 := by
  unfold payStep
  have := payA_le (sl := sl) (pl := pl) (k := k) (x := x)
  have := payB_le (l := l) (k := k) (x := x)
  have := payC_le (cl := cl) (k := k) (x := x)
  simp only [List.length_append]; omega
end
theorem depF_le (sl : List Sal) (pl : List Prd) (cl : List Clm) (l : List Pay) (k : Nat) : (depF sl pl cl l k).length ≤ 3 * k := by
  induction k with
  | zero => simp [depF]
  | succ k ih =>
    cases h : l[k]? with
    | none => simp [depF, h]; omega
    | some x => rw [depF_in h, List.length_append]; have := payStep_le (sl := sl) (pl := pl) (cl := cl) (l := l) (k := k) (x := x); omega
end Go.Proofs.YtahnplemladjeaaDoor
