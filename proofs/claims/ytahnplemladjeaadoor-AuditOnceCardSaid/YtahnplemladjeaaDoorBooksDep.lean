/- Books as an argument: products, sales, claims and payouts. -/
import Derived.Test.YtahnplemladjeaaDoorBooksMass
import Derived.Test.YtahnplemladjeaaDoorDepPlain
namespace Go.Proofs.YtahnplemladjeaaDoor
open Go.ChangeShapes Go.WideShapes Go.RowKit Go.Deep
theorem bool_of {H : Type} {enc : TypeId × Value → H} {P : Program} {w : World} {base : Nat} {spare : Nat → Bool} {held : Bool} {fuel : Nat} {t : TypeId} {x : DataW H × List MemPlace} {v : Value} (ht : P.underlying t = some .bool) (h : DataW.trod enc P w base spare held fuel t [v] = some x) : ∃ b, v = .bool b := by
  obtain ⟨b, e, _⟩ := DataW.trod_bool ht h
  simp only [List.cons.injEq, and_true] at e
  exact ⟨b, e⟩
theorem string_of {H : Type} {enc : TypeId × Value → H} {P : Program} {w : World} {base : Nat} {spare : Nat → Bool} {held : Bool} {fuel : Nat} {t : TypeId} {x : DataW H × List MemPlace} {v : Value} (ht : P.underlying t = some .string) (h : DataW.trod enc P w base spare held fuel t [v] = some x) : ∃ b, v = .string b := by
  obtain ⟨b, e, _⟩ := DataW.trod_string ht h
  simp only [List.cons.injEq, and_true] at e
  exact ⟨b, e⟩
section
variable {H : Type} {enc : TypeId × Value → H} {w : World} {base : Nat} {spare : Nat → Bool} {held : Bool} {fuel : Nat} {cs : List Value} {x : DataW H × List MemPlace}
set_option maxRecDepth 100000 in
theorem cl_open (h : DataW.trod enc Tryd.prog w base spare held fuel 59 cs = some x) : ∃ a : Clm, ClR a cs := by
  have hl : cs.length = 5 := (struct_len Tryd.underlying59 h).trans (by kernel_rfl)
  match cs, hl with
  | [c0, c1, c2, c3, c4], _ =>
    obtain ⟨_, _, h0⟩ := field_at (j := 0) (ty := 3) (off := 0) (k := 1) Tryd.underlying59 (by kernel_rfl) (by kernel_rfl) h
    obtain ⟨_, _, h1⟩ := field_at (j := 1) (ty := 3) (off := 1) (k := 1) Tryd.underlying59 (by kernel_rfl) (by kernel_rfl) h
    obtain ⟨_, _, h2⟩ := field_at (j := 2) (ty := 3) (off := 2) (k := 1) Tryd.underlying59 (by kernel_rfl) (by kernel_rfl) h
    obtain ⟨_, _, h3⟩ := field_at (j := 3) (ty := 3) (off := 3) (k := 1) Tryd.underlying59 (by kernel_rfl) (by kernel_rfl) h
    obtain ⟨_, _, h4⟩ := field_at (j := 4) (ty := 4) (off := 4) (k := 1) Tryd.underlying59 (by kernel_rfl) (by kernel_rfl) h
    obtain ⟨n0, rfl, _⟩ := int_of (v := c0) Tryd.underlying3 h0
    obtain ⟨n1, rfl, _⟩ := int_of (v := c1) Tryd.underlying3 h1
    obtain ⟨n2, rfl, _⟩ := int_of (v := c2) Tryd.underlying3 h2
    obtain ⟨n3, rfl, _⟩ := int_of (v := c3) Tryd.underlying3 h3
    obtain ⟨n4, rfl⟩ := bool_of (v := c4) Tryd.underlying4 h4
    exact ⟨⟨n0, n1, n2, n3, n4⟩, rfl⟩
set_option maxRecDepth 100000 in
theorem sa_open (h : DataW.trod enc Tryd.prog w base spare held fuel 88 cs = some x) : ∃ a : Sal, SaR a cs := by
  have hl : cs.length = 5 := (struct_len Tryd.underlying88 h).trans (by kernel_rfl)
  match cs, hl with
  | [c0, c1, c2, c3, c4], _ =>
    obtain ⟨_, _, h0⟩ := field_at (j := 0) (ty := 3) (off := 0) (k := 1) Tryd.underlying88 (by kernel_rfl) (by kernel_rfl) h
    obtain ⟨_, _, h1⟩ := field_at (j := 1) (ty := 3) (off := 1) (k := 1) Tryd.underlying88 (by kernel_rfl) (by kernel_rfl) h
    obtain ⟨_, _, h2⟩ := field_at (j := 2) (ty := 3) (off := 2) (k := 1) Tryd.underlying88 (by kernel_rfl) (by kernel_rfl) h
    obtain ⟨_, _, h3⟩ := field_at (j := 3) (ty := 3) (off := 3) (k := 1) Tryd.underlying88 (by kernel_rfl) (by kernel_rfl) h
    obtain ⟨_, _, h4⟩ := field_at (j := 4) (ty := 3) (off := 4) (k := 1) Tryd.underlying88 (by kernel_rfl) (by kernel_rfl) h
    obtain ⟨n0, rfl, _⟩ := int_of (v := c0) Tryd.underlying3 h0
    obtain ⟨n1, rfl, _⟩ := int_of (v := c1) Tryd.underlying3 h1
    obtain ⟨n2, rfl, _⟩ := int_of (v := c2) Tryd.underlying3 h2
    obtain ⟨n3, rfl, _⟩ := int_of (v := c3) Tryd.underlying3 h3
    obtain ⟨n4, rfl, _⟩ := int_of (v := c4) Tryd.underlying3 h4
    exact ⟨⟨n0, n1, n2, n3, n4⟩, rfl⟩
set_option maxRecDepth 100000 in
theorem pr_open (h : DataW.trod enc Tryd.prog w base spare held fuel 63 cs = some x) : ∃ a : Prd, PrR a cs := by
  have hl : cs.length = 5 := (struct_len Tryd.underlying63 h).trans (by kernel_rfl)
  match cs, hl with
  | [c0, c1, c2, c3, c4], _ =>
    obtain ⟨_, _, h0⟩ := field_at (j := 0) (ty := 9) (off := 0) (k := 1) Tryd.underlying63 (by kernel_rfl) (by kernel_rfl) h
    obtain ⟨_, _, h1⟩ := field_at (j := 1) (ty := 3) (off := 1) (k := 1) Tryd.underlying63 (by kernel_rfl) (by kernel_rfl) h
    obtain ⟨_, _, h2⟩ := field_at (j := 2) (ty := 3) (off := 2) (k := 1) Tryd.underlying63 (by kernel_rfl) (by kernel_rfl) h
    obtain ⟨_, _, h3⟩ := field_at (j := 3) (ty := 3) (off := 3) (k := 1) Tryd.underlying63 (by kernel_rfl) (by kernel_rfl) h
    obtain ⟨_, _, h4⟩ := field_at (j := 4) (ty := 3) (off := 4) (k := 1) Tryd.underlying63 (by kernel_rfl) (by kernel_rfl) h
    obtain ⟨n0, rfl⟩ := string_of (v := c0) Tryd.underlying9 h0
    obtain ⟨n1, rfl, _⟩ := int_of (v := c1) Tryd.underlying3 h1
    obtain ⟨n2, rfl, _⟩ := int_of (v := c2) Tryd.underlying3 h2
    obtain ⟨n3, rfl, _⟩ := int_of (v := c3) Tryd.underlying3 h3
    obtain ⟨n4, rfl, _⟩ := int_of (v := c4) Tryd.underlying3 h4
    exact ⟨⟨n0, n1, n2, n3, n4⟩, rfl⟩
set_option maxRecDepth 100000 in
theorem pa_open (h : DataW.trod enc Tryd.prog w base spare held fuel 61 cs = some x) : ∃ a : Pay, PaR a cs := by
  have hl : cs.length = 7 := (struct_len Tryd.underlying61 h).trans (by kernel_rfl)
  match cs, hl with
  | [c0, c1, c2, c3, c4, c5, c6], _ =>
    obtain ⟨_, _, h0⟩ := field_at (j := 0) (ty := 59) (off := 0) (k := 5) Tryd.underlying61 (by kernel_rfl) (by kernel_rfl) h
    obtain ⟨_, _, h00⟩ := field_at (j := 0) (ty := 3) (off := 0) (k := 1) Tryd.underlying59 (by kernel_rfl) (by kernel_rfl) h0
    obtain ⟨_, _, h01⟩ := field_at (j := 1) (ty := 3) (off := 1) (k := 1) Tryd.underlying59 (by kernel_rfl) (by kernel_rfl) h0
    obtain ⟨_, _, h02⟩ := field_at (j := 2) (ty := 3) (off := 2) (k := 1) Tryd.underlying59 (by kernel_rfl) (by kernel_rfl) h0
    obtain ⟨_, _, h03⟩ := field_at (j := 3) (ty := 3) (off := 3) (k := 1) Tryd.underlying59 (by kernel_rfl) (by kernel_rfl) h0
    obtain ⟨_, _, h04⟩ := field_at (j := 4) (ty := 4) (off := 4) (k := 1) Tryd.underlying59 (by kernel_rfl) (by kernel_rfl) h0
    obtain ⟨_, _, h1⟩ := field_at (j := 1) (ty := 3) (off := 5) (k := 1) Tryd.underlying61 (by kernel_rfl) (by kernel_rfl) h
    obtain ⟨_, _, h2⟩ := field_at (j := 2) (ty := 3) (off := 6) (k := 1) Tryd.underlying61 (by kernel_rfl) (by kernel_rfl) h
    obtain ⟨n0, rfl, i0⟩ := int_of (v := c0) Tryd.underlying3 h00
    obtain ⟨n1, rfl, _⟩ := int_of (v := c1) Tryd.underlying3 h01
    obtain ⟨n2, rfl, _⟩ := int_of (v := c2) Tryd.underlying3 h02
    obtain ⟨n3, rfl, _⟩ := int_of (v := c3) Tryd.underlying3 h03
    obtain ⟨n4, rfl⟩ := bool_of (v := c4) Tryd.underlying4 h04
    obtain ⟨n5, rfl, _⟩ := int_of (v := c5) Tryd.underlying3 h1
    obtain ⟨n6, rfl, _⟩ := int_of (v := c6) Tryd.underlying3 h2
    exact ⟨⟨n0, n1, n2, n3, n4, n5, n6⟩, rfl, i0⟩
end
section
variable {H : Type} {enc : TypeId × Value → H} {w : World} {base : Nat} {spare : Nat → Bool} {held : Bool} {r : Reach} {b0 : Nat} {v : Value} {d : DataW H} {p : List MemPlace}
set_option maxRecDepth 100000 in
theorem books_dep (hv : Value.okWide Tryd.prog w r b0 40 v) (h : DataW.Trod enc Tryd.prog w base spare held 40 v d p) :
    ∃ (now hh cc as_ em ta gap tr ins bins ba co fe bi po : Value) (prA : Option Addr) (prc : Nat) (prl : List Prd) (saA : Option Addr) (sac : Nat) (sal : List Sal) (clA : Option Addr) (clc : Nat) (cll : List Clm) (paA : Option Addr) (pac : Nat) (pal : List Pay), v = .agg #[now, hh, cc, as_, em, ta, gap, tr, ins, bins, ba, .slice prA prl.length prc, .slice saA sal.length sac, .slice clA cll.length clc, .slice paA pal.length pac, co, fe, bi, po] ∧ Rd w w.heap.size 5 PrR prA prl ∧ Rd w w.heap.size 5 SaR saA sal ∧ Rd w w.heap.size 5 ClR clA cll ∧ Rd w w.heap.size 7 PaR paA pal := by
  obtain ⟨cs, rfl, hl, fuel, x, hf⟩ := agg_cells Tryd.underlying40 (k := 19) (by kernel_rfl) hv h
  match cs, hl with
  | [c0, c1, c2, c3, c4, c5, c6, c7, c8, c9, c10, c11, c12, c13, c14, c15, c16, c17, c18], _ =>
    obtain ⟨_, _, h11⟩ := field_at (j := 6) (ty := 31) (off := 11) (k := 1) Tryd.underlying40 (by kernel_rfl) (by kernel_rfl) hf
    obtain ⟨A11, k11, xs11, e11, hc11, hr11⟩ := open_rd (k := 5) Tryd.underlying31 (by kernel_rfl) (by omega) (fun _ _ _ hh => pr_open hh) h11
    have e11' : c11 = .slice A11 xs11.length k11 := by simpa using e11
    subst e11'
    obtain ⟨_, _, h12⟩ := field_at (j := 7) (ty := 32) (off := 12) (k := 1) Tryd.underlying40 (by kernel_rfl) (by kernel_rfl) hf
    obtain ⟨A12, k12, xs12, e12, hc12, hr12⟩ := open_rd (k := 5) Tryd.underlying32 (by kernel_rfl) (by omega) (fun _ _ _ hh => sa_open hh) h12
    have e12' : c12 = .slice A12 xs12.length k12 := by simpa using e12
    subst e12'
    obtain ⟨_, _, h13⟩ := field_at (j := 8) (ty := 33) (off := 13) (k := 1) Tryd.underlying40 (by kernel_rfl) (by kernel_rfl) hf
    obtain ⟨A13, k13, xs13, e13, hc13, hr13⟩ := open_rd (k := 5) Tryd.underlying33 (by kernel_rfl) (by omega) (fun _ _ _ hh => cl_open hh) h13
    have e13' : c13 = .slice A13 xs13.length k13 := by simpa using e13
    subst e13'
    obtain ⟨_, _, h14⟩ := field_at (j := 9) (ty := 34) (off := 14) (k := 1) Tryd.underlying40 (by kernel_rfl) (by kernel_rfl) hf
    obtain ⟨A14, k14, xs14, e14, hc14, hr14⟩ := open_rd (k := 7) Tryd.underlying34 (by kernel_rfl) (by omega) (fun _ _ _ hh => pa_open hh) h14
    have e14' : c14 = .slice A14 xs14.length k14 := by simpa using e14
    subst e14'
    exact ⟨c0, c1, c2, c3, c4, c5, c6, c7, c8, c9, c10, c15, c16, c17, c18, A11, k11, xs11, A12, k12, xs12, A13, k13, xs13, A14, k14, xs14, rfl, hr11, hr12, hr13, hr14⟩
set_option maxRecDepth 100000 in
theorem books_once (hv : Value.okWide Tryd.prog w r b0 40 v) (h : DataW.Trod enc Tryd.prog w base spare held 40 v d p) :
    ∃ (now hh cc as_ em ta gap tr ins bins ba co fe bi po : Value) (prA : Option Addr) (prc : Nat) (prl : List Prd) (saA : Option Addr) (sac : Nat) (sal : List Sal) (clA : Option Addr) (clc : Nat) (cll : List Clm) (paA : Option Addr) (pac : Nat) (pal : List Pay), v = .agg #[now, hh, cc, as_, em, ta, gap, tr, ins, bins, ba, .slice prA prl.length prc, .slice saA sal.length sac, .slice clA cll.length clc, .slice paA pal.length pac, co, fe, bi, po] ∧ Rd w w.heap.size 5 PrR prA prl ∧ Rd w w.heap.size 5 SaR saA sal ∧ Rd w w.heap.size 5 ClR clA cll ∧ Rd w w.heap.size 7 PaR paA pal ∧ pal.length ≤ pac := by
  obtain ⟨cs, rfl, hl, fuel, x, hf⟩ := agg_cells Tryd.underlying40 (k := 19) (by kernel_rfl) hv h
  match cs, hl with
  | [c0, c1, c2, c3, c4, c5, c6, c7, c8, c9, c10, c11, c12, c13, c14, c15, c16, c17, c18], _ =>
    obtain ⟨_, _, h11⟩ := field_at (j := 6) (ty := 31) (off := 11) (k := 1) Tryd.underlying40 (by kernel_rfl) (by kernel_rfl) hf
    obtain ⟨A11, k11, xs11, e11, hc11, hr11⟩ := open_rd (k := 5) Tryd.underlying31 (by kernel_rfl) (by omega) (fun _ _ _ hh => pr_open hh) h11
    have e11' : c11 = .slice A11 xs11.length k11 := by simpa using e11
    subst e11'
    obtain ⟨_, _, h12⟩ := field_at (j := 7) (ty := 32) (off := 12) (k := 1) Tryd.underlying40 (by kernel_rfl) (by kernel_rfl) hf
    obtain ⟨A12, k12, xs12, e12, hc12, hr12⟩ := open_rd (k := 5) Tryd.underlying32 (by kernel_rfl) (by omega) (fun _ _ _ hh => sa_open hh) h12
    have e12' : c12 = .slice A12 xs12.length k12 := by simpa using e12
    subst e12'
    obtain ⟨_, _, h13⟩ := field_at (j := 8) (ty := 33) (off := 13) (k := 1) Tryd.underlying40 (by kernel_rfl) (by kernel_rfl) hf
    obtain ⟨A13, k13, xs13, e13, hc13, hr13⟩ := open_rd (k := 5) Tryd.underlying33 (by kernel_rfl) (by omega) (fun _ _ _ hh => cl_open hh) h13
    have e13' : c13 = .slice A13 xs13.length k13 := by simpa using e13
    subst e13'
    obtain ⟨_, _, h14⟩ := field_at (j := 9) (ty := 34) (off := 14) (k := 1) Tryd.underlying40 (by kernel_rfl) (by kernel_rfl) hf
    obtain ⟨A14, k14, xs14, e14, hc14, hr14⟩ := open_rd (k := 7) Tryd.underlying34 (by kernel_rfl) (by omega) (fun _ _ _ hh => pa_open hh) h14
    have e14' : c14 = .slice A14 xs14.length k14 := by simpa using e14
    subst e14'
    exact ⟨c0, c1, c2, c3, c4, c5, c6, c7, c8, c9, c10, c15, c16, c17, c18, A11, k11, xs11, A12, k12, xs12, A13, k13, xs13, A14, k14, xs14, rfl, hr11, hr12, hr13, hr14, hc14⟩
end
end Go.Proofs.YtahnplemladjeaaDoor
