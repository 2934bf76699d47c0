/- Books as an argument: its cells, and the fields that Mass reads. -/
import Derived.Test.YtahnplemladjeaaDoorOpen
namespace Go.Proofs.YtahnplemladjeaaDoor
open Go.ChangeShapes Go.WideShapes Go.RowKit Go.Deep

section
variable {H : Type} {enc : TypeId × Value → H} {w : World} {base : Nat} {spare : Nat → Bool} {held : Bool} {r : Reach} {b0 : Nat} {v : Value} {d : DataW H} {p : List MemPlace}
set_option maxRecDepth 100000 in
theorem agg_cells {t : TypeId} {fs : Array Field} {k : Nat} (hs : Tryd.prog.underlying t = some (.struct fs)) (hk : Tryd.prog.cellsOf t = k) (hv : Value.okWide Tryd.prog w r b0 t v) (h : DataW.Trod enc Tryd.prog w base spare held t v d p) :
    ∃ cs : List Value, v = .agg cs.toArray ∧ cs.length = k ∧ ∃ fuel x, DataW.trod enc Tryd.prog w base spare held fuel t cs = some x := by
  obtain ⟨cs, rfl, hsz⟩ := okWide_struct hs hv
  obtain ⟨fuel, hf⟩ := h
  refine ⟨cs.toList, by simp, by rw [← hk, ← hsz]; simp, fuel, _, by simpa [Value.cells] using hf⟩
set_option maxRecDepth 100000 in
theorem books_mass (hv : Value.okWide Tryd.prog w r b0 40 v) (h : DataW.Trod enc Tryd.prog w base spare held 40 v d p) :
    ∃ (now hh cc as_ em ta gap : Value) (trA : Option Addr) (c : Nat) (ts : List Tr) (ins bins : Int) (baA : Option Addr) (cb : Nat) (bs : List Bale) (pr sa cl pa co fe bi po : Value),
      v = .agg #[now, hh, cc, as_, em, ta, gap, .slice trA ts.length c, .int .i64 ins, .int .i64 bins, .slice baA bs.length cb, pr, sa, cl, pa, co, fe, bi, po] ∧ Rd w w.heap.size 4 TrR trA ts ∧ Rd w w.heap.size 4 (BaR w w.heap.size) baA bs := by
  obtain ⟨cs, rfl, hl, fuel, x, hf⟩ := agg_cells Tryd.underlying40 (k := 19) (by kernel_rfl) hv h
  match cs, hl with
  | [c0, c1, c2, c3, c4, c5, c6, c7, c8, c9, c10, c11, c12, c13, c14, c15, c16, c17, c18], _ =>
    obtain ⟨_, _, h7⟩ := field_at (j := 2) (ty := 29) (off := 7) (k := 1) Tryd.underlying40 (by kernel_rfl) (by kernel_rfl) hf
    obtain ⟨_, _, h8⟩ := field_at (j := 3) (ty := 3) (off := 8) (k := 1) Tryd.underlying40 (by kernel_rfl) (by kernel_rfl) hf
    obtain ⟨_, _, h9⟩ := field_at (j := 4) (ty := 3) (off := 9) (k := 1) Tryd.underlying40 (by kernel_rfl) (by kernel_rfl) hf
    obtain ⟨_, _, h10⟩ := field_at (j := 5) (ty := 30) (off := 10) (k := 1) Tryd.underlying40 (by kernel_rfl) (by kernel_rfl) hf
    obtain ⟨A, c, ts, e7, _, hT⟩ := open_rd (k := 4) Tryd.underlying29 (by kernel_rfl) (by omega) (fun _ _ _ hh => tr_open hh) h7
    obtain ⟨ins, rfl, _⟩ := int_of (v := c8) Tryd.underlying3 h8
    obtain ⟨bins, rfl, _⟩ := int_of (v := c9) Tryd.underlying3 h9
    obtain ⟨B, cb, bs, e10, _, hB⟩ := open_rd (k := 4) Tryd.underlying30 (by kernel_rfl) (by omega) (fun _ _ _ hh => ba_open hh) h10
    have e7' : c7 = .slice A ts.length c := by simpa using e7
    have e10' : c10 = .slice B bs.length cb := by simpa using e10
    subst e7' e10'
    exact ⟨c0, c1, c2, c3, c4, c5, c6, A, c, ts, ins, bins, B, cb, bs, c11, c12, c13, c14, c15, c16, c17, c18, rfl, hT, hB⟩
end
end Go.Proofs.YtahnplemladjeaaDoor
