/- Books as an argument: costs and fees. -/
import Derived.Test.YtahnplemladjeaaDoorBooksMass
import Derived.Test.YtahnplemladjeaaDoorFeesPlain
namespace Go.Proofs.YtahnplemladjeaaDoor
open Go.ChangeShapes Go.WideShapes Go.RowKit Go.Deep
section
variable {H : Type} {enc : TypeId × Value → H} {w : World} {base : Nat} {spare : Nat → Bool} {held : Bool} {fuel : Nat} {cs : List Value} {x : DataW H × List MemPlace}
set_option maxRecDepth 100000 in
theorem fe_open (h : DataW.trod enc Tryd.prog w base spare held fuel 85 cs = some x) : ∃ a : Fee, FeR a cs := by
  have hl : cs.length = 3 := (struct_len Tryd.underlying85 h).trans (by kernel_rfl)
  match cs, hl with
  | [c0, c1, c2], _ =>
    obtain ⟨_, _, h0⟩ := field_at (j := 0) (ty := 3) (off := 0) (k := 1) Tryd.underlying85 (by kernel_rfl) (by kernel_rfl) h
    obtain ⟨_, _, h1⟩ := field_at (j := 1) (ty := 3) (off := 1) (k := 1) Tryd.underlying85 (by kernel_rfl) (by kernel_rfl) h
    obtain ⟨_, _, h2⟩ := field_at (j := 2) (ty := 3) (off := 2) (k := 1) Tryd.underlying85 (by kernel_rfl) (by kernel_rfl) h
    obtain ⟨n0, rfl, _⟩ := int_of (v := c0) Tryd.underlying3 h0
    obtain ⟨n1, rfl, _⟩ := int_of (v := c1) Tryd.underlying3 h1
    obtain ⟨n2, rfl, _⟩ := int_of (v := c2) Tryd.underlying3 h2
    exact ⟨⟨n0, n1, n2⟩, rfl⟩
end
section
variable {H : Type} {enc : TypeId × Value → H} {w : World} {base : Nat} {spare : Nat → Bool} {held : Bool} {r : Reach} {b0 : Nat} {v : Value} {d : DataW H} {p : List MemPlace}
set_option maxRecDepth 100000 in
theorem books_fees (hv : Value.okWide Tryd.prog w r b0 40 v) (h : DataW.Trod enc Tryd.prog w base spare held 40 v d p) :
    ∃ (now hh cc as_ em ta gap tr ins bins ba pr sa cl pa bi po : Value) (coA : Option Addr) (coc : Nat) (col : List Int) (feA : Option Addr) (fec : Nat) (fel : List Fee), v = .agg #[now, hh, cc, as_, em, ta, gap, tr, ins, bins, ba, pr, sa, cl, pa, .slice coA col.length coc, .slice feA fel.length fec, bi, po] ∧ Rd w w.heap.size 1 IntR coA col ∧ Rd w w.heap.size 3 FeR feA fel := by
  obtain ⟨cs, rfl, hl, fuel, x, hf⟩ := agg_cells Tryd.underlying40 (k := 19) (by kernel_rfl) hv h
  match cs, hl with
  | [c0, c1, c2, c3, c4, c5, c6, c7, c8, c9, c10, c11, c12, c13, c14, c15, c16, c17, c18], _ =>
    obtain ⟨_, _, h15⟩ := field_at (j := 10) (ty := 35) (off := 15) (k := 1) Tryd.underlying40 (by kernel_rfl) (by kernel_rfl) hf
    obtain ⟨A15, k15, xs15, e15, _, hr15⟩ := open_rd (k := 1) Tryd.underlying35 (by kernel_rfl) (by omega) (fun _ _ _ hh => int_open hh) h15
    have e15' : c15 = .slice A15 xs15.length k15 := by simpa using e15
    subst e15'
    obtain ⟨_, _, h16⟩ := field_at (j := 11) (ty := 36) (off := 16) (k := 1) Tryd.underlying40 (by kernel_rfl) (by kernel_rfl) hf
    obtain ⟨A16, k16, xs16, e16, _, hr16⟩ := open_rd (k := 3) Tryd.underlying36 (by kernel_rfl) (by omega) (fun _ _ _ hh => fe_open hh) h16
    have e16' : c16 = .slice A16 xs16.length k16 := by simpa using e16
    subst e16'
    exact ⟨c0, c1, c2, c3, c4, c5, c6, c7, c8, c9, c10, c11, c12, c13, c14, c17, c18, A15, k15, xs15, A16, k16, xs16, rfl, hr15, hr16⟩
end
end Go.Proofs.YtahnplemladjeaaDoor
