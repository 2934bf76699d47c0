/- The walk of recyclingref59.Stocks. -/
import Derived.Test.YtahnplemladjeaaDoorMassCells
namespace Go.Proofs.YtahnplemladjeaaDoor
open Go.RowKit

def SInv (w : World) (N : Nat) (S : Nat → Int) (wr : World) : Prop := Below N w wr ∧ N < wr.heap.size ∧ Blk wr N 56 (stC S)
section
variable {w wr : World} {N : Nat} {S : Nat → Int}
theorem SInv.later {w' : World} (h : SInv w N S wr) (hb : Below wr.heap.size wr w') : SInv w N S w' :=
  ⟨h.1.trans (hb.mono (by have := h.2.1; omega)), Nat.lt_of_lt_of_le h.2.1 hb.size, h.2.2.below hb h.2.1⟩
theorem SInv.drewN (h : SInv w N S wr) (n : Nat) : SInv w N S (wr.drewN n) := ⟨below_drewN h.1 n, h.2.1, h.2.2⟩
theorem SInv.drew (h : SInv w N S wr) : SInv w N S wr.drew := h.drewN 1
theorem SInv.store (h : SInv w N S wr) (i : Nat) (v : Int) : SInv w N (upd S i v) (wr.setCell ⟨N, i, none⟩ (.int .i64 v)) :=
  ⟨h.1.setCell (p := ⟨N, i, none⟩) (Nat.le_refl _) _, by simpa [World.setCell] using h.2.1, by rw [← stC_set]; exact h.2.2.set_ i _⟩
theorem SInv.at_ (h : SInv w N S wr) {i : Nat} (hi : i < 14) : wr.cell? ⟨N, i, none⟩ = some (.int .i64 (S i)) ∧ ∀ j, wr.frozen? ⟨N, j, none⟩ = false :=
  ⟨h.2.2.at_ _ (stC_get S hi), fun j => h.2.2.free j⟩
end
theorem mk7 (w : World) : (Instr.makeSlice 53 (.int .i64 7) (.int .i64 7)).run Tryd.prog w = .ok (.slice (some ⟨w.heap.size, 0, none⟩) 7 7) (w.alloc (.cells (stC fun _ => 0).toArray 56)) := by kernel_rfl
/-- stocks after each of the four stores of a good transfer -/
def sA (S : Nat → Int) (x : Tr) : Nat → Int := upd S (x.f.toNat * 2) (S (x.f.toNat * 2) - x.hi)
def sB (S : Nat → Int) (x : Tr) : Nat → Int := upd (sA S x) (x.f.toNat * 2 + 1) (sA S x (x.f.toNat * 2 + 1) - x.lo)
def sC (S : Nat → Int) (x : Tr) : Nat → Int := upd (sB S x) (x.t.toNat * 2) (sB S x (x.t.toNat * 2) + x.lo)
def sD (S : Nat → Int) (x : Tr) : Nat → Int := upd (sC S x) (x.t.toNat * 2 + 1) (sC S x (x.t.toNat * 2 + 1) + x.hi)
theorem sB_eq (S : Nat → Int) (x : Tr) : sB S x = stepFrom S x := by
  unfold sB sA stepFrom
  congr 1
  unfold upd; rw [if_neg (by omega)]
theorem sD_eq (S : Nat → Int) (x : Tr) : sD S x = stepTo (stepFrom S x) x := by
  unfold sD sC; rw [sB_eq]; unfold stepTo
  congr 1
  generalize stepFrom S x = S'
  unfold upd; rw [if_neg (by omega)]
theorem sA_bd {m : Nat} {S : Nat → Int} (h : Bd m S) {x : Tr} (hx : x.bad = false) : Bd (m + 1) (sA S x) := by
  have g := good_of hx
  intro j
  have a1 := h (x.f.toNat * 2)
  have a2 := h j
  unfold sA upd
  split <;> omega
theorem sB_bd {m : Nat} {S : Nat → Int} (h : Bd m S) {x : Tr} (hx : x.bad = false) : Bd (m + 2) (sB S x) := by
  have g := good_of hx
  have h1 := sA_bd h hx
  intro j
  have a1 := h1 (x.f.toNat * 2 + 1)
  have a2 := h1 j
  unfold sB upd
  split <;> omega
theorem sC_bd {m : Nat} {S : Nat → Int} (h : Bd m S) {x : Tr} (hx : x.bad = false) : Bd (m + 3) (sC S x) := by
  have g := good_of hx
  have h1 := sB_bd h hx
  intro j
  have a1 := h1 (x.t.toNat * 2)
  have a2 := h1 j
  unfold sC upd
  split <;> omega

set_option maxRecDepth 100000 in
set_option maxHeartbeats 8000000 in
theorem stocks_any (trA : Option Addr) (c : Nat) (ts : List Tr) (n : Nat) (hn : n ≤ ts.length) (hl : ts.length ≤ 512) (w : World) (hT : Rd w w.heap.size 4 TrR trA ts) :
    Calls Tryd.prog 17 #[.slice trA ts.length c, .int .i64 n] w fun e w' => ∃ g, e = .returned (.slice (some ⟨g, 0, none⟩) 7 7) ∧ w.heap.size ≤ g ∧ Blk w' g 56 (stC (stk (ts.take n))) ∧ Below w.heap.size w w' := by
  have hmk := mk7
  go_enter Tryd.func17, Tryd.ntmps17
  go_wp2_with fail
  clear hmk
  go_loopw [6] (fun i wr => ∃ k : Nat, k ≤ n ∧ i = .int .i64 k ∧ SInv w w.heap.size (stk (ts.take k)) wr) (fun i _ => n - (intOf i).toNat)
  case atStart => exact ⟨0, Nat.zero_le _, rfl, (Below.refl _ _).alloc (Nat.le_refl _) _, by simp, Blk.new w _ _⟩
  case round =>
    obtain ⟨k, hk, rfl, hS⟩ := hrel
    by_cases hlt : k < n
    · obtain ⟨x, hx⟩ := get_of_lt (show k < ts.length by omega)
      obtain ⟨b, off, rfl, hbB, x0, x1, x2, x3⟩ := tr_cells (hT.below hS.1) hx
      have HX := Lib.hid hx; clear hx
      obtain ⟨f, t, lo, hi⟩ := x
      simp only at x0 x1 x2 x3
      have HS := Lib.hid hS; clear hS
      go_upto_region 5 with fail
      go_cut [6, 17] (fun s6 s17 wc => s6 = .int .i64 k ∧ s17 = .bool (Tr.bad ⟨f, t, lo, hi⟩) ∧ SInv w w.heap.size (stk (ts.take k)) wc)
      case first =>
        go_wp2_with (go_at_call 25; refine (invalid_any _ _ _ _ _).mono ?_; rintro e w' ⟨rfl, hb2⟩; have HB2 := Lib.hid hb2; clear hb2)
        go_meet
        exact ⟨rfl, rfl, HS.out.later HB2.out⟩
      case rest =>
        obtain ⟨rfl, rfl, hm⟩ := hcut
        clear x0 x1 x2 x3 HS
        by_cases hbad : Tr.bad ⟨f, t, lo, hi⟩ = true
        · rw [hbad]
          have HB := Lib.hid hbad; clear hbad
          have H := Lib.hid hm; clear hm
          go_wp2_with fail
          refine ⟨⟨k + 1, by omega, by go_num, ?_⟩, by simp [intOf]; omega⟩
          rw [stk_bad HX.out HB.out]
          exact H.out
        · have hgd : Tr.bad ⟨f, t, lo, hi⟩ = false := by simpa using hbad
          have g := good_of hgd
          rw [hgd]
          simp only at g
          obtain ⟨g1, g2, g3, g4, g5, g6, g7, g8⟩ := g
          obtain ⟨fn, rfl⟩ := Int.eq_ofNat_of_zero_le g1
          obtain ⟨tn, rfl⟩ := Int.eq_ofNat_of_zero_le g3
          have HB := Lib.hid hbad; clear hbad
          have hbd := stk_bd (ts.take k)
          have hkl : (ts.take k).length ≤ 512 := by simp; omega
          have hb0 := Bd_mono hbd hkl
          clear hbd hkl
          have HBD := Lib.hid hb0; clear hb0
          have HG := Lib.hid hgd; clear hgd
          obtain ⟨S, hSe⟩ : ∃ S, S = stk (ts.take k) := ⟨_, rfl⟩
          rw [← hSe] at hm HBD
          have HSE := Lib.hid hSe; clear hSe
          obtain ⟨S1, hS1⟩ : ∃ S1, S1 = sA S ⟨fn, tn, lo, hi⟩ := ⟨_, rfl⟩
          obtain ⟨S2, hS2⟩ : ∃ S2, S2 = sB S ⟨fn, tn, lo, hi⟩ := ⟨_, rfl⟩
          obtain ⟨S3, hS3⟩ : ∃ S3, S3 = sC S ⟨fn, tn, lo, hi⟩ := ⟨_, rfl⟩
          obtain ⟨S4, hS4⟩ : ∃ S4, S4 = sD S ⟨fn, tn, lo, hi⟩ := ⟨_, rfl⟩
          have HS1 := Lib.hid hS1
          have HS2 := Lib.hid hS2
          have HS3 := Lib.hid hS3
          have HS4 := Lib.hid hS4
          clear hS1 hS2 hS3 hS4
          obtain ⟨x0, x1, x2, x3⟩ := tr_at (hT.below hm.1) HX.out
          obtain ⟨c0, e0⟩ := hm.at_ (i := fn * 2) (by omega)
          have d0 := HBD.out (fn * 2)
          obtain ⟨d00, d01⟩ : -36028797018963968 ≤ S (fn * 2) ∧ S (fn * 2) ≤ 36028797018963968 := by omega
          clear d0
          have H := Lib.hid hm; clear hm
          simp only at x0 x1 x2 x3
          go_upto_region 6 with fail
          go_cut [6] (fun s6 wd => s6 = .int .i64 k ∧ SInv w w.heap.size S1 wd)
          case first =>
            go_region
            all_goals (go_wp2; go_meet; refine ⟨rfl, ?_⟩)
            all_goals (rw [HS1.out]; exact (H.out.store _ _).drew)
          case rest =>
            obtain ⟨rfl, hm⟩ := hcut
            clear x0 x1 x2 x3 c0 e0 H d00 d01
            obtain ⟨x0, x1, x2, x3⟩ := tr_at (hT.below hm.1) HX.out
            obtain ⟨c0, e0⟩ := hm.at_ (i := fn * 2 + 1) (by omega)
            have d0 := sA_bd HBD.out HG.out (fn * 2 + 1)
            rw [← HS1.out] at d0
            obtain ⟨d00, d01⟩ : -72057594037927936 ≤ S1 (fn * 2 + 1) ∧ S1 (fn * 2 + 1) ≤ 72057594037927936 := by omega
            clear d0
            have H := Lib.hid hm; clear hm
            simp only at x0 x1 x2 x3
            go_upto_region 7 with fail
            go_cut [6] (fun s6 wd => s6 = .int .i64 k ∧ SInv w w.heap.size S2 wd)
            case first =>
              go_region
              all_goals (go_wp2; go_meet; refine ⟨rfl, ?_⟩)
              all_goals (rw [HS2.out]; unfold sB; rw [← HS1.out]; exact (H.out.store _ _).drew)
            case rest =>
              obtain ⟨rfl, hm⟩ := hcut
              clear x0 x1 x2 x3 c0 e0 H d00 d01
              obtain ⟨x0, x1, x2, x3⟩ := tr_at (hT.below hm.1) HX.out
              obtain ⟨c0, e0⟩ := hm.at_ (i := tn * 2) (by omega)
              have d0 := sB_bd HBD.out HG.out (tn * 2)
              rw [← HS2.out] at d0
              obtain ⟨d00, d01⟩ : -72057594037927936 ≤ S2 (tn * 2) ∧ S2 (tn * 2) ≤ 72057594037927936 := by omega
              clear d0
              have H := Lib.hid hm; clear hm
              simp only at x0 x1 x2 x3
              go_upto_region 8 with fail
              go_cut [6] (fun s6 wd => s6 = .int .i64 k ∧ SInv w w.heap.size S3 wd)
              case first =>
                go_region
                all_goals (go_wp2; go_meet; refine ⟨rfl, ?_⟩)
                all_goals (rw [HS3.out]; unfold sC; rw [← HS2.out]; exact (H.out.store _ _).drew)
              case rest =>
                obtain ⟨rfl, hm⟩ := hcut
                clear x0 x1 x2 x3 c0 e0 H d00 d01
                obtain ⟨x0, x1, x2, x3⟩ := tr_at (hT.below hm.1) HX.out
                obtain ⟨c0, e0⟩ := hm.at_ (i := tn * 2 + 1) (by omega)
                have d0 := sC_bd HBD.out HG.out (tn * 2 + 1)
                rw [← HS3.out] at d0
                obtain ⟨d00, d01⟩ : -72057594037927936 ≤ S3 (tn * 2 + 1) ∧ S3 (tn * 2 + 1) ≤ 72057594037927936 := by omega
                clear d0
                have H := Lib.hid hm; clear hm
                simp only at x0 x1 x2 x3
                go_upto_region 9 with fail
                go_region
                all_goals
                  go_wp2_with fail
                  refine ⟨⟨k + 1, by omega, by go_num, ?_⟩, by simp [intOf]; omega⟩
                  rw [stk_good HX.out HB.out, ← HSE.out, ← sD_eq]
                  unfold sD
                  rw [← HS3.out]
                  exact (H.out.store _ _).drew
    · obtain rfl : k = n := by omega
      have HS := Lib.hid hS; clear hS
      go_wp2_with fail
      go_ret
      exact ⟨_, rfl, Nat.le_refl _, HS.out.2.2, HS.out.1⟩
theorem stocks_at (trA : Option Addr) (c : Nat) (ts : List Tr) (n : Int) (h0 : 0 ≤ n) (hn : n.toNat ≤ ts.length) (hl : ts.length ≤ 512) (w : World) (hT : Rd w w.heap.size 4 TrR trA ts) :
    Calls Tryd.prog 17 #[.slice trA ts.length c, .int .i64 n] w fun e w' => ∃ g, e = .returned (.slice (some ⟨g, 0, none⟩) 7 7) ∧ w.heap.size ≤ g ∧ Blk w' g 56 (stC (stk (ts.take n.toNat))) ∧ Below w.heap.size w w' := by
  obtain ⟨m, rfl⟩ := Int.eq_ofNat_of_zero_le h0
  exact stocks_any trA c ts m (by simpa using hn) hl w hT

end Go.Proofs.YtahnplemladjeaaDoor
