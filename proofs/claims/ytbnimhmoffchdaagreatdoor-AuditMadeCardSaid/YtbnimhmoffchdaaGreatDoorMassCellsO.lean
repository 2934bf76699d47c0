/- Cells of transfers and bales; steps of the stocks and findings. -/
import Derived.Test.YtbnimhmoffchdaaGreatDoorMassPlainO
namespace Go.Proofs.YtbnimhmoffchdaaGreatDoor
open Go.RowKit

theorem stk_good {ts : List Tr} {k : Nat} {x : Tr} (hx : ts[k]? = some x) (hb : ¬ x.bad = true) : stk (ts.take (k + 1)) = stepTo (stepFrom (stk (ts.take k)) x) x := by
  rw [take_snoc hx, stk_snoc]; simp [stepS, hb]
theorem stk_bad {ts : List Tr} {k : Nat} {x : Tr} (hx : ts[k]? = some x) (hb : x.bad = true) : stk (ts.take (k + 1)) = stk (ts.take k) := by
  rw [take_snoc hx, stk_snoc]; simp [stepS, hb]
theorem outs_bad {ts : List Tr} {k : Nat} {x : Tr} (hx : ts[k]? = some x) (hb : x.bad = true) : outs ts (k + 1) = ((outs ts k).1, (outs ts k).2 ++ [⟨1, k, 0⟩]) := by
  rw [outs_succ hx]; simp [stepO, hb]
theorem outs_neg {ts : List Tr} {k : Nat} {x : Tr} (hx : ts[k]? = some x) (hb : ¬ x.bad = true) (h : x.f ≠ 0 ∧ stepTo (stepFrom (stk (ts.take k)) x) x (x.f.toNat * 2 + 1) < 0 ∧ (outs ts k).1 x.f.toNat = false) :
    outs ts (k + 1) = (upd (outs ts k).1 x.f.toNat true, (outs ts k).2 ++ [⟨2, x.f, k⟩]) := by
  rw [outs_succ hx]; unfold stepO; rw [stk_good hx hb, if_neg hb, if_pos h]
theorem outs_not {ts : List Tr} {k : Nat} {x : Tr} (hx : ts[k]? = some x) (hb : ¬ x.bad = true) (h : ¬ (x.f ≠ 0 ∧ stepTo (stepFrom (stk (ts.take k)) x) x (x.f.toNat * 2 + 1) < 0 ∧ (outs ts k).1 x.f.toNat = false)) : outs ts (k + 1) = outs ts k := by
  rw [outs_succ hx]; unfold stepO; rw [stk_good hx hb, if_neg hb, if_neg h]
def IntR (n : Int) (cs : List Value) : Prop := cs = [.int .i64 n]
/-- A bale's four cells; its mix lies below B and reads as a list. -/
def BaR (w : World) (B : Nat) (x : Bale) (cs : List Value) : Prop := ∃ A c, cs = [.int .i64 x.id, .int .i64 x.mat, .int .i64 x.at_, .slice A x.mix.length c] ∧ Rd w B 1 IntR A x.mix
theorem BaR.below {w w' : World} {B : Nat} (hb : Below B w w') (x : Bale) (cs : List Value) (h : BaR w B x cs) : BaR w' B x cs := by
  obtain ⟨A, c, e, h⟩ := h
  exact ⟨A, c, e, h.below hb⟩
theorem int_cell {w : World} {B : Nat} {A : Option Addr} {xs : List Int} {j : Nat} {n : Int} (h : Rd w B 1 IntR A xs) (hx : xs[j]? = some n) : ∃ b off, A = some ⟨b, off, none⟩ ∧ b < B ∧ w.cell? ⟨b, off + j, none⟩ = some (.int .i64 n) := by
  obtain ⟨b, off, e, hb, cs, _, rfl, hc⟩ := h.at_ hx
  have := hc 0 _ rfl
  simp only [Nat.mul_one, Nat.add_zero] at this
  exact ⟨b, off, e, hb, this⟩
theorem ba_cells {w : World} {B : Nat} {A : Option Addr} {bs : List Bale} {k : Nat} {x : Bale} (h : Rd w B 4 (BaR w B) A bs) (hx : bs[k]? = some x) :
    ∃ b off mA mc, A = some ⟨b, off, none⟩ ∧ b < B ∧ w.cell? ⟨b, off + k * 4, none⟩ = some (.int .i64 x.id) ∧ w.cell? ⟨b, off + k * 4 + 1, none⟩ = some (.int .i64 x.mat) ∧ w.cell? ⟨b, off + k * 4 + 2, none⟩ = some (.int .i64 x.at_) ∧ w.cell? ⟨b, off + k * 4 + 3, none⟩ = some (.slice mA x.mix.length mc) ∧ Rd w B 1 IntR mA x.mix := by
  obtain ⟨b, off, e, hb, cs, _, ⟨mA, mc, rfl, hm⟩, hc⟩ := h.at_ hx
  exact ⟨b, off, mA, mc, e, hb, hc 0 _ rfl, hc 1 _ rfl, hc 2 _ rfl, hc 3 _ rfl, hm⟩
theorem acc_in {L M : List Int} {j : Nat} {n : Int} (h : M[j]? = some n) : acc (L ++ M.take (j + 1)) = accStep (acc (L ++ M.take j)) n := by
  rw [take_snoc h, ← List.append_assoc, acc_snoc]
theorem acc_out {bs : List Bale} {k : Nat} {x : Bale} (h : bs[k]? = some x) : acc (mixes (bs.take (k + 1))) = acc (mixes (bs.take k) ++ x.mix.take x.mix.length) := by
  rw [take_snoc h, mixes_snoc, List.take_length]
def TrR (x : Tr) (cs : List Value) : Prop := cs = trC x
theorem tr_cells {w : World} {B : Nat} {A : Option Addr} {ts : List Tr} {k : Nat} {x : Tr} (h : Rd w B 4 TrR A ts) (hx : ts[k]? = some x) :
    ∃ b off, A = some ⟨b, off, none⟩ ∧ b < B ∧ w.cell? ⟨b, off + k * 4, none⟩ = some (.int .i64 x.f) ∧ w.cell? ⟨b, off + k * 4 + 1, none⟩ = some (.int .i64 x.t) ∧ w.cell? ⟨b, off + k * 4 + 2, none⟩ = some (.int .i64 x.lo) ∧ w.cell? ⟨b, off + k * 4 + 3, none⟩ = some (.int .i64 x.hi) := by
  obtain ⟨b, off, e, hb, cs, _, rfl, hc⟩ := h.at_ hx
  exact ⟨b, off, e, hb, hc 0 _ rfl, hc 1 _ rfl, hc 2 _ rfl, hc 3 _ rfl⟩

end Go.Proofs.YtbnimhmoffchdaaGreatDoor
