/- The walk of recyclinglaw59.exampleHolds. -/
import Derived.Test.YtbnimhmoffchdaaGreatDoorMassWalkO
import Derived.Test.YtbnimhmoffchdaaGreatDoorTextO
namespace Go.Proofs.YtbnimhmoffchdaaGreatDoor
open Go.RowKit Go.Sort

theorem ex_mass : massF [⟨1, 2, 5, 6⟩] 0 0 [] = [⟨2, 1, 0⟩] := by rfl
theorem ex_text : (textV 7 (numB 1) (numB 0)).1 = (⟨#[112, 97, 121, 111, 117, 116, 32, 49, 32, 114, 101, 112, 101, 97, 116, 115, 32, 112, 97, 121, 111, 117, 116, 32, 48]⟩ : ByteArray) := by
 decide +kernel
theorem ex_textE : (textV 7 (numB 1) (numB 0)).2 = 0 := rfl
theorem ex_rd (w : World) : Rd (w.alloc (.cells #[.int .i64 1, .int .i64 2, .int .i64 5, .int .i64 6] 60)) (w.alloc (.cells #[.int .i64 1, .int .i64 2, .int .i64 5, .int .i64 6] 60)).heap.size 4 TrR (some ⟨w.heap.size, 0, none⟩) [⟨1, 2, 5, 6⟩] := by
 refine ⟨by simp, fun _ => ⟨w.heap.size, 0, rfl, by simp, fun i x hx => ?_⟩⟩
 have hb := Blk.new w 60 [.int .i64 1, .int .i64 2, .int .i64 5, .int .i64 6]
 match i, hx with
 | 0, hx =>
  simp at hx; subst hx
  exact ⟨_, rfl, rfl, fun j u hu => by simpa using hb.at_ j hu⟩
 | i + 1, hx => simp at hx
theorem own_one {w : World} {base : Nat} {e : TypeId} {v : Value} {f : Fnd} (h : w.ownsRow base e 3 v 1 (fnC f)) : ∃ g cap, v = .slice (some ⟨g, 0, none⟩) 1 cap ∧ g < w.heap.size ∧ w.cell? ⟨g, 0, none⟩ = some (.int .i64 f.kind) ∧ w.cell? ⟨g, 1, none⟩ = some (.int .i64 f.a) ∧ w.cell? ⟨g, 2, none⟩ = some (.int .i64 f.b) := by
 obtain ⟨_, ⟨_, h0⟩ | ⟨g, cap, cur, rfl, _, hh, _⟩⟩ := id h
 ·cases h0
 ·have hc := h.cells (g := g) rfl
  refine ⟨g, cap, rfl, (Array.getElem?_eq_some_iff.1 hh).1, ?_, ?_, ?_⟩
  ·simpa [Addr.add] using hc 0 _ rfl
  ·simpa [Addr.add] using hc 1 _ rfl
  ·simpa [Addr.add] using hc 2 _ rfl

set_option maxRecDepth 100000 in
set_option maxHeartbeats 8000000 in
theorem example_any (w : World) (ht : TabO w) :
  Calls Tryz.prog 7 #[] w fun e w' => e = .returned (.bool true) ∧ Below w.heap.size w w' := by
 have HT := Lib.hid ht; clear ht
 go_enter Tryz.func7, Tryz.ntmps7
 go_wp2_with fail
 refine (mass_any _ _ _ _ _ _ _ _ _ _ _ _ _ _ _ (some ⟨w.heap.size, 0, none⟩) 1 [⟨1, 2, 5, 6⟩] (by simp) none 0 [] (by simp) 0 0 _ (ex_rd w) Rd.nil).mono ?_
 rintro e w1 ⟨v, rfl, hown, hb1⟩
 rw [ex_mass] at hown
 obtain ⟨g, cap, rfl, hg, g0, g1, g2⟩ := own_one hown
 clear hown
 have hb0 : Below w.heap.size w w1 := ((Below.refl _ w).alloc (Nat.le_refl _) _).trans (hb1.mono (by simp))
 have HB := Lib.hid hb0
 have HT1 := Lib.hid (HT.out.below hb0)
 clear hb0 hb1
 simp only at g0 g1 g2
 go_wp2_with fail
 refine (text_any 7 1 0 _ ⟨by omega, by omega⟩ ⟨by omega, by omega⟩ HT1.out).mono ?_
 rintro e w2 ⟨rfl, hb2⟩
 rw [ex_text, ex_textE]
 have k0 := (hb2.cell (p := ⟨g, 0, none⟩) hg).trans g0
 have k1 := (hb2.cell (p := ⟨g, 1, none⟩) hg).trans g1
 have k2 := (hb2.cell (p := ⟨g, 2, none⟩) hg).trans g2
 have HB2 := Lib.hid (HB.out.trans (hb2.mono HB.out.size))
 clear hb2 g0 g1 g2
 go_wp2_with fail
 go_ret
 exact ⟨rfl, HB2.out⟩
end Go.Proofs.YtbnimhmoffchdaaGreatDoor
