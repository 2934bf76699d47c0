/- Books as an argument: postings. -/
import Derived.Test.YtahnplemladjeaaDoorBooksMass
import Derived.Test.YtahnplemladjeaaDoorMoneyPlain
namespace Go.Proofs.YtahnplemladjeaaDoor
open Go.ChangeShapes Go.WideShapes Go.RowKit Go.Deep
section
variable {H : Type} {enc : TypeId × Value → H} {w : World} {base : Nat} {spare : Nat → Bool} {held : Bool} {fuel : Nat} {cs : List Value} {x : DataW H × List MemPlace}
set_option maxRecDepth 100000 in
theorem ln_open (h : DataW.trod enc Tryd.prog w base spare held fuel 105 cs = some x) : ∃ a : Ln, LnR a cs := by
  have hl : cs.length = 2 := (struct_len Tryd.underlying105 h).trans (by kernel_rfl)
  match cs, hl with
  | [c0, c1], _ =>
    obtain ⟨_, _, h0⟩ := field_at (j := 0) (ty := 3) (off := 0) (k := 1) Tryd.underlying105 (by kernel_rfl) (by kernel_rfl) h
    obtain ⟨_, _, h1⟩ := field_at (j := 1) (ty := 3) (off := 1) (k := 1) Tryd.underlying105 (by kernel_rfl) (by kernel_rfl) h
    obtain ⟨n0, rfl, _⟩ := int_of (v := c0) Tryd.underlying3 h0
    obtain ⟨n1, rfl, _⟩ := int_of (v := c1) Tryd.underlying3 h1
    exact ⟨⟨n0, n1⟩, rfl⟩
set_option maxRecDepth 100000 in
theorem ps_open (h : DataW.trod enc Tryd.prog w base spare held fuel 97 cs = some x) : ∃ a : Pst, PsR w w.heap.size a cs := by
  have hl : cs.length = 3 := (struct_len Tryd.underlying97 h).trans (by kernel_rfl)
  match cs, hl with
  | [c0, c1, c2], _ =>
    obtain ⟨_, _, h0⟩ := field_at (j := 0) (ty := 3) (off := 0) (k := 1) Tryd.underlying97 (by kernel_rfl) (by kernel_rfl) h
    obtain ⟨_, _, h1⟩ := field_at (j := 1) (ty := 3) (off := 1) (k := 1) Tryd.underlying97 (by kernel_rfl) (by kernel_rfl) h
    obtain ⟨_, _, h2⟩ := field_at (j := 2) (ty := 95) (off := 2) (k := 1) Tryd.underlying97 (by kernel_rfl) (by kernel_rfl) h
    obtain ⟨n0, rfl, _⟩ := int_of (v := c0) Tryd.underlying3 h0
    obtain ⟨n1, rfl, _⟩ := int_of (v := c1) Tryd.underlying3 h1
    obtain ⟨A2, k2, xs2, e2, _, hr2⟩ := open_rd (k := 2) Tryd.underlying95 (by kernel_rfl) (by omega) (fun _ _ _ hh => ln_open hh) h2
    have e2' : c2 = .slice A2 xs2.length k2 := by simpa using e2
    subst e2'
    exact ⟨⟨n0, n1, xs2⟩, A2, k2, rfl, hr2⟩
end
section
variable {H : Type} {enc : TypeId × Value → H} {w : World} {base : Nat} {spare : Nat → Bool} {held : Bool} {r : Reach} {b0 : Nat} {v : Value} {d : DataW H} {p : List MemPlace}
set_option maxRecDepth 100000 in
theorem books_money (hv : Value.okWide Tryd.prog w r b0 40 v) (h : DataW.Trod enc Tryd.prog w base spare held 40 v d p) :
    ∃ (now hh cc as_ em ta gap tr ins bins ba pr sa cl pa co fe bi : Value) (poA : Option Addr) (poc : Nat) (pol : List Pst), v = .agg #[now, hh, cc, as_, em, ta, gap, tr, ins, bins, ba, pr, sa, cl, pa, co, fe, bi, .slice poA pol.length poc] ∧ Rd w w.heap.size 3 (PsR w w.heap.size) poA pol := by
  obtain ⟨cs, rfl, hl, fuel, x, hf⟩ := agg_cells Tryd.underlying40 (k := 19) (by kernel_rfl) hv h
  match cs, hl with
  | [c0, c1, c2, c3, c4, c5, c6, c7, c8, c9, c10, c11, c12, c13, c14, c15, c16, c17, c18], _ =>
    obtain ⟨_, _, h18⟩ := field_at (j := 13) (ty := 38) (off := 18) (k := 1) Tryd.underlying40 (by kernel_rfl) (by kernel_rfl) hf
    obtain ⟨A18, k18, xs18, e18, _, hr18⟩ := open_rd (k := 3) Tryd.underlying38 (by kernel_rfl) (by omega) (fun _ _ _ hh => ps_open hh) h18
    have e18' : c18 = .slice A18 xs18.length k18 := by simpa using e18
    subst e18'
    exact ⟨c0, c1, c2, c3, c4, c5, c6, c7, c8, c9, c10, c11, c12, c13, c14, c15, c16, c17, A18, k18, xs18, rfl, hr18⟩
end
end Go.Proofs.YtahnplemladjeaaDoor
