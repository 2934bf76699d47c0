/- The walk of recyclingref59.Same at equal lists. -/
import Derived.Test.YtahnplemladjeaaDoorSmall
namespace Go.Proofs.YtahnplemladjeaaDoor
open Go.RowKit

def FnR (f : Fnd) (cs : List Value) : Prop := cs = fnC f
theorem fn_cells {w : World} {B : Nat} {A : Option Addr} {fs : List Fnd} {k : Nat} {x : Fnd} (h : Rd w B 3 FnR A fs) (hx : fs[k]? = some x) :
    ∃ b off, A = some ⟨b, off, none⟩ ∧ b < B ∧ w.cell? ⟨b, off + k * 3, none⟩ = some (.int .i64 x.kind) ∧ w.cell? ⟨b, off + k * 3 + 1, none⟩ = some (.int .i64 x.a) ∧ w.cell? ⟨b, off + k * 3 + 2, none⟩ = some (.int .i64 x.b) := by
  obtain ⟨b, off, e, hb, cs, _, rfl, hc⟩ := h.at_ hx
  exact ⟨b, off, e, hb, hc 0 _ rfl, hc 1 _ rfl, hc 2 _ rfl⟩
set_option maxHeartbeats 2000000 in
theorem same_any (A1 A2 : Option Addr) (c1 c2 : Nat) (fs : List Fnd) (B1 B2 : Nat) (w : World) (h1 : Rd w B1 3 FnR A1 fs) (h2 : Rd w B2 3 FnR A2 fs) :
    Calls Tryd.prog 13 #[.slice A1 fs.length c1, .slice A2 fs.length c2] w fun e w' => e = .returned (.bool true) ∧ Below w.heap.size w w' := by
  have hl := h1.1
  go_enter Tryd.func13, Tryd.ntmps13
  go_wp2_with fail
  go_loopw [5] (fun i wr => ∃ k : Nat, ∃ m : Nat, k ≤ fs.length ∧ i = .int .i64 k ∧ w.drewN m = wr) (fun i _ => fs.length - (intOf i).toNat)
  case atStart => exact ⟨0, 0, Nat.zero_le _, rfl, rfl⟩
  case round =>
    obtain ⟨k, m, hk, rfl, rfl⟩ := hrel
    by_cases hlt : k < fs.length
    · obtain ⟨x, hx⟩ := get_of_lt hlt
      obtain ⟨b1, o1, rfl, _, x0, x1, x2⟩ := fn_cells h1 hx
      obtain ⟨b2, o2, rfl, _, y0, y1, y2⟩ := fn_cells h2 hx
      clear hx
      go_wp2_with fail
      go_quiet (fail)
      go_wp2
      exact ⟨⟨k + 1, _, by omega, by go_num, rfl⟩, by simp [intOf]; omega⟩
    · go_wp2_with fail
      go_ret
      exact ⟨rfl, below_drewN (Below.refl _ _) _⟩
end Go.Proofs.YtahnplemladjeaaDoor
