/- The walk of recyclingref59.Stocks. -/
import Derived.Test.YtbnimhmoffchdaaGreatDoorSmO
import Derived.Deep.RegionHeld3
import Derived.Test.YtbnimhmoffchdaaGreatDoorKB
namespace Go.Proofs.YtbnimhmoffchdaaGreatDoor
open Go.RowKit

set_option maxHeartbeats 400000 in
theorem valid_any (lo hi : Int) (w : World) :
  Calls Tryz.prog 129 #[.agg #[.int .i64 lo, .int .i64 hi]] w fun e w' => e = .returned (.bool (validB lo hi)) ∧ w.alloc (.cells #[.int .i64 lo, .int .i64 hi] 58) = w' := by
 go_enter Tryz.func129, Tryz.ntmps129
 go_wp2
 all_goals (go_ret; exact ⟨ret_bool (by rw [Bool.eq_iff_iff]; simp [validB] <;> omega), rfl⟩)
set_option maxHeartbeats 400000 in
theorem within_any (lo hi n : Int) (w : World) :
  Calls Tryz.prog 84 #[.agg #[.int .i64 lo, .int .i64 hi], .int .i64 n] w fun e w' => e = .returned (.bool (withinB lo hi n)) ∧ w.alloc (.cells #[.int .i64 lo, .int .i64 hi] 58) = w' := by
 go_enter Tryz.func84, Tryz.ntmps84
 go_wp2
 all_goals (go_ret; exact ⟨ret_bool (by rw [Bool.eq_iff_iff]; simp [withinB] <;> omega), rfl⟩)
set_option maxHeartbeats 400000 in
theorem invalid_any (f t lo hi : Int) (w : World) :
  Calls Tryz.prog 82 #[.agg #[.int .i64 f, .int .i64 t, .int .i64 lo, .int .i64 hi]] w fun e w' => e = .returned (.bool (invalidB f t lo hi)) ∧ Below w.heap.size w w' := by
 go_enter Tryz.func82, Tryz.ntmps82
 go_wp2_with (go_at_call 129; refine (valid_any _ _ _).mono ?_; rintro e w' ⟨rfl, rfl⟩)
 all_goals (go_ret; refine ⟨ret_bool ?_, ?_⟩)
 all_goals first | exact (Below.refl _ _).alloc (Nat.le_refl _) _ | exact ((Below.refl _ _).alloc (Nat.le_refl _) _).alloc (by simp) _ | (rw [Bool.eq_iff_iff]; simp [invalidB, validB] <;> omega)

def SInv (w : World) (N : Nat) (S : Nat → Int) (wr : World) : Prop := Below N w wr ∧ N < wr.heap.size ∧ Blk wr N 58 (stC S)
section
variable {w wr : World} {N : Nat} {S : Nat → Int}
theorem SInv.later {w' : World} (h : SInv w N S wr) (hb : Below wr.heap.size wr w') : SInv w N S w' :=
 ⟨h.1.trans (hb.mono (by have := h.2.1; omega)), Nat.lt_of_lt_of_le h.2.1 hb.size, h.2.2.below hb h.2.1⟩
theorem SInv.drewN (h : SInv w N S wr) (n : Nat) : SInv w N S (wr.drewN n) := ⟨below_drewN h.1 n, h.2.1, h.2.2⟩
theorem SInv.drew (h : SInv w N S wr) : SInv w N S wr.drew := h.drewN 1
theorem SInv.store (h : SInv w N S wr) (i : Nat) (v : Int) : SInv w N (upd S i v) (wr.setCell ⟨N, i, none⟩ (.int .i64 v)) :=
 ⟨h.1.setCell (p := ⟨N, i, none⟩) (Nat.le_refl _) _, by simpa [World.setCell] using h.2.1, by rw [← stC_set]; exact h.2.2.set_ i _⟩
theorem SInv.at_ (h : SInv w N S wr) {i : Nat} (hi : i < 14) : wr.cell? ⟨N, i, none⟩ = some (.int .i64 (S i)) ∧ ∀ j, wr.frozen? ⟨N, j, none⟩ = false :=
 ⟨h.2.2.at_ _ (stC_get S hi), fun j => h.2.2.free j⟩
end
theorem mk7 (w : World) : (Instr.makeSlice 140 (.int .i64 7) (.int .i64 7)).run Tryz.prog w = .ok (.slice (some ⟨w.heap.size, 0, none⟩) 7 7) (w.alloc (.cells (stC fun _ => 0).toArray 58)) := by kernel_rfl
/-- stocks after each of the four stores of a good transfer -/
def stA (S : Nat → Int) (x : Tr) : Nat → Int := upd S (x.f.toNat * 2) (S (x.f.toNat * 2) - x.hi)
def sB (S : Nat → Int) (x : Tr) : Nat → Int := upd (stA S x) (x.f.toNat * 2 + 1) (stA S x (x.f.toNat * 2 + 1) - x.lo)
def sC (S : Nat → Int) (x : Tr) : Nat → Int := upd (sB S x) (x.t.toNat * 2) (sB S x (x.t.toNat * 2) + x.lo)
def sD (S : Nat → Int) (x : Tr) : Nat → Int := upd (sC S x) (x.t.toNat * 2 + 1) (sC S x (x.t.toNat * 2 + 1) + x.hi)
theorem sB_eq (S : Nat → Int) (x : Tr) : sB S x = stepFrom S x := by
 unfold sB stA stepFrom
 congr 1
 unfold upd; rw [if_neg (by omega)]
theorem sD_eq (S : Nat → Int) (x : Tr) : sD S x = stepTo (stepFrom S x) x := by
 unfold sD sC; rw [sB_eq]; unfold stepTo
 congr 1
 generalize stepFrom S x = S'
 unfold upd; rw [if_neg (by omega)]
theorem sA_bd {m : Nat} {S : Nat → Int} (h : Bd m S) {x : Tr} (hx : x.bad = false) : Bd (m + 1) (stA S x) := by
 have g := good_of hx
 intro j
 have a1 := h (x.f.toNat * 2)
 have a2 := h j
 unfold stA upd
 split <;> omega
theorem sB_bd {m : Nat} {S : Nat → Int} (h : Bd m S) {x : Tr} (hx : x.bad = false) : Bd (m + 2) (sB S x) := by
 have g := good_of hx
 have h1 := sA_bd h hx
 intro j
 have a1 := h1 (x.f.toNat * 2 + 1)
 have a2 := h1 j
 unfold sB upd
 split <;> omega
theorem sC_bd {m : Nat} {S : Nat → Int} (h : Bd m S) {x : Tr} (hx : x.bad = false) : Bd (m + 3) (sC S x) := by
 have g := good_of hx
 have h1 := sB_bd h hx
 intro j
 have a1 := h1 (x.t.toNat * 2)
 have a2 := h1 j
 unfold sC upd
 split <;> omega

set_option maxRecDepth 100000 in
set_option maxHeartbeats 8000000 in
theorem stocks_any (trA : Option Addr) (c : Nat) (ts : List Tr) (n : Nat) (hn : n ≤ ts.length) (hl : ts.length ≤ 512) (w : World) (hT : Rd w w.heap.size 4 TrR trA ts) :
  Calls Tryz.prog 83 #[.slice trA ts.length c, .int .i64 n] w fun e w' => ∃ g, e = .returned (.slice (some ⟨g, 0, none⟩) 7 7) ∧ w.heap.size ≤ g ∧ Blk w' g 58 (stC (stk (ts.take n))) ∧ Below w.heap.size w w' := by
 have hmk := mk7
 go_enter Tryz.func83, Tryz.ntmps83
 go_wp2_with fail
 clear hmk
 go_loopw [6] (fun i wr => ∃ k : Nat, k ≤ n ∧ i = .int .i64 k ∧ SInv w w.heap.size (stk (ts.take k)) wr) (fun i _ => n - (intOf i).toNat)
 case atStart => exact ⟨0, Nat.zero_le _, rfl, (Below.refl _ _).alloc (Nat.le_refl _) _, by simp, Blk.new w _ _⟩
 case round =>
  obtain ⟨k, hk, rfl, hS⟩ := hrel
  by_cases hlt : k < n
  ·obtain ⟨x, hx⟩ := get_of_lt (show k < ts.length by omega)
   obtain ⟨b, off, rfl, hbB, x0, x1, x2, x3⟩ := tr_cells (hT.below hS.1) hx
   have HX := Lib.hid hx; clear hx
   obtain ⟨f, t, lo, hi⟩ := x
   simp only at x0 x1 x2 x3
   have HS := Lib.hid hS; clear hS
   go_upto_region 5 with fail
   go_cut [6, 17] (fun s6 s17 wc => s6 = .int .i64 k ∧ s17 = .bool (Tr.bad ⟨f, t, lo, hi⟩) ∧ SInv w w.heap.size (stk (ts.take k)) wc)
   case first =>
    go_wp2_with (go_at_call 82; refine (invalid_any _ _ _ _ _).mono ?_; rintro e w' ⟨rfl, hb2⟩; have HB2 := Lib.hid hb2; clear hb2)
    go_meet
    exact ⟨rfl, rfl, HS.out.later HB2.out⟩
   case rest =>
    obtain ⟨rfl, rfl, hm⟩ := hcut
    clear x0 x1 x2 x3 HS
    by_cases hbad : Tr.bad ⟨f, t, lo, hi⟩ = true
    ·rw [hbad]
     have HB := Lib.hid hbad; clear hbad
     have H := Lib.hid hm; clear hm
     go_wp2_with fail
     refine ⟨⟨k + 1, by omega, by go_num, ?_⟩, by simp [intOf]; omega⟩
     rw [stk_bad HX.out HB.out]
     exact H.out
    ·have hgd : Tr.bad ⟨f, t, lo, hi⟩ = false := by simpa using hbad
     have g := good_of hgd
     rw [hgd]
     simp only at g
     obtain ⟨g1, g2, g3, g4, g5, g6, g7, g8⟩ := g
     obtain ⟨fn, rfl⟩ := Int.eq_ofNat_of_zero_le g1
     obtain ⟨tn, rfl⟩ := Int.eq_ofNat_of_zero_le g3
     have HB := Lib.hid hbad; clear hbad
     have hbd := stk_bd (ts.take k)
     have hkl : (ts.take k).length ≤ 512 := by simp; omega
     have hb0 := Bd_mono hbd hkl
     clear hbd hkl
     have HBD := Lib.hid hb0; clear hb0
     have HG := Lib.hid hgd; clear hgd
     obtain ⟨S, hSe⟩ : ∃ S, S = stk (ts.take k) := ⟨_, rfl⟩
     rw [← hSe] at hm HBD
     have HSE := Lib.hid hSe; clear hSe
     obtain ⟨S1, hS1⟩ : ∃ S1, S1 = stA S ⟨fn, tn, lo, hi⟩ := ⟨_, rfl⟩
     obtain ⟨S2, hS2⟩ : ∃ S2, S2 = sB S ⟨fn, tn, lo, hi⟩ := ⟨_, rfl⟩
     obtain ⟨S3, hS3⟩ : ∃ S3, S3 = sC S ⟨fn, tn, lo, hi⟩ := ⟨_, rfl⟩
     obtain ⟨S4, hS4⟩ : ∃ S4, S4 = sD S ⟨fn, tn, lo, hi⟩ := ⟨_, rfl⟩
     have HS1 := Lib.hid hS1
     have HS2 := Lib.hid hS2
     have HS3 := Lib.hid hS3
     have HS4 := Lib.hid hS4
     clear hS1 hS2 hS3 hS4
     obtain ⟨x0, x1, x2, x3⟩ := tr_at (hT.below hm.1) HX.out
     obtain ⟨c0, e0⟩ := hm.at_ (i := fn * 2) (by omega)
     have d0 := HBD.out (fn * 2)
     obtain ⟨d00, d01⟩ : -36028797018963968 ≤ S (fn * 2) ∧ S (fn * 2) ≤ 36028797018963968 := by omega
     clear d0
     have H := Lib.hid hm; clear hm
     simp only at x0 x1 x2 x3
     go_upto_region 6 with fail
     go_cut [6] (fun s6 wd => s6 = .int .i64 k ∧ SInv w w.heap.size S1 wd)
     case first =>
      go_region
      all_goals (go_wp2; go_meet; refine ⟨rfl, ?_⟩)
      all_goals (rw [HS1.out]; exact (H.out.store _ _).drew)
     case rest =>
      obtain ⟨rfl, hm⟩ := hcut
      clear x0 x1 x2 x3 c0 e0 H d00 d01
      obtain ⟨x0, x1, x2, x3⟩ := tr_at (hT.below hm.1) HX.out
      obtain ⟨c0, e0⟩ := hm.at_ (i := fn * 2 + 1) (by omega)
      have d0 := sA_bd HBD.out HG.out (fn * 2 + 1)
      rw [← HS1.out] at d0
      obtain ⟨d00, d01⟩ : -72057594037927936 ≤ S1 (fn * 2 + 1) ∧ S1 (fn * 2 + 1) ≤ 72057594037927936 := by omega
      clear d0
      have H := Lib.hid hm; clear hm
      simp only at x0 x1 x2 x3
      go_upto_region 7 with fail
      go_cut [6] (fun s6 wd => s6 = .int .i64 k ∧ SInv w w.heap.size S2 wd)
      case first =>
       go_region
       all_goals (go_wp2; go_meet; refine ⟨rfl, ?_⟩)
       all_goals (rw [HS2.out]; unfold sB; rw [← HS1.out]; exact (H.out.store _ _).drew)
      case rest =>
       obtain ⟨rfl, hm⟩ := hcut
       clear x0 x1 x2 x3 c0 e0 H d00 d01
       obtain ⟨x0, x1, x2, x3⟩ := tr_at (hT.below hm.1) HX.out
       obtain ⟨c0, e0⟩ := hm.at_ (i := tn * 2) (by omega)
       have d0 := sB_bd HBD.out HG.out (tn * 2)
       rw [← HS2.out] at d0
       obtain ⟨d00, d01⟩ : -72057594037927936 ≤ S2 (tn * 2) ∧ S2 (tn * 2) ≤ 72057594037927936 := by omega
       clear d0
       have H := Lib.hid hm; clear hm
       simp only at x0 x1 x2 x3
       go_upto_region 8 with fail
       go_cut [6] (fun s6 wd => s6 = .int .i64 k ∧ SInv w w.heap.size S3 wd)
       case first =>
        go_region
        all_goals (go_wp2; go_meet; refine ⟨rfl, ?_⟩)
        all_goals (rw [HS3.out]; unfold sC; rw [← HS2.out]; exact (H.out.store _ _).drew)
       case rest =>
        obtain ⟨rfl, hm⟩ := hcut
        clear x0 x1 x2 x3 c0 e0 H d00 d01
        obtain ⟨x0, x1, x2, x3⟩ := tr_at (hT.below hm.1) HX.out
        obtain ⟨c0, e0⟩ := hm.at_ (i := tn * 2 + 1) (by omega)
        have d0 := sC_bd HBD.out HG.out (tn * 2 + 1)
        rw [← HS3.out] at d0
        obtain ⟨d00, d01⟩ : -72057594037927936 ≤ S3 (tn * 2 + 1) ∧ S3 (tn * 2 + 1) ≤ 72057594037927936 := by omega
        clear d0
        have H := Lib.hid hm; clear hm
        simp only at x0 x1 x2 x3
        go_upto_region 9 with fail
        go_region
        all_goals
         go_wp2_with fail
         refine ⟨⟨k + 1, by omega, by go_num, ?_⟩, by simp [intOf]; omega⟩
         rw [stk_good HX.out HB.out, ← HSE.out, ← sD_eq]
         unfold sD
         rw [← HS3.out]
         exact (H.out.store _ _).drew
  ·obtain rfl : k = n := by omega
   have HS := Lib.hid hS; clear hS
   go_wp2_with fail
   go_ret
   exact ⟨_, rfl, Nat.le_refl _, HS.out.2.2, HS.out.1⟩
theorem stocks_at (trA : Option Addr) (c : Nat) (ts : List Tr) (n : Int) (h0 : 0 ≤ n) (hn : n.toNat ≤ ts.length) (hl : ts.length ≤ 512) (w : World) (hT : Rd w w.heap.size 4 TrR trA ts) :
  Calls Tryz.prog 83 #[.slice trA ts.length c, .int .i64 n] w fun e w' => ∃ g, e = .returned (.slice (some ⟨g, 0, none⟩) 7 7) ∧ w.heap.size ≤ g ∧ Blk w' g 58 (stC (stk (ts.take n.toNat))) ∧ Below w.heap.size w w' := by
 obtain ⟨m, rfl⟩ := Int.eq_ofNat_of_zero_le h0
 exact stocks_any trA c ts m (by simpa using hn) hl w hT
end Go.Proofs.YtbnimhmoffchdaaGreatDoor
namespace Go.Proofs.YtbnimhmoffchdaaGreatDoor
open Go.RowKit

theorem accStep_false {a : Int × Bool} (h : a.2 = false) (n : Int) : (accStep a n).2 = false := by simp [accStep, h]
theorem foldl_false (M : List Int) : ∀ a : Int × Bool, a.2 = false → (M.foldl accStep a).2 = false := by
 induction M with
 | nil => intro a h; exact h
 | cons n M ih => intro a h; exact ih _ (accStep_false h n)
theorem acc_app_false (L M : List Int) (h : (acc L).2 = false) : (acc (L ++ M)).2 = false := by
 unfold acc; rw [List.foldl_append]; exact foldl_false M _ h
def baledF (bs : List Bale) : Int × Bool := if (acc (mixes bs)).2 then ((acc (mixes bs)).1, true) else (0, false)
theorem mixes_split {bs : List Bale} {k j : Nat} {x : Bale} (h : bs[k]? = some x) : ∃ M, mixes bs = (mixes (bs.take k) ++ x.mix.take (j + 1)) ++ M := by
 obtain ⟨hl, rfl⟩ := List.getElem?_eq_some_iff.1 h
 refine ⟨(bs[k]).mix.drop (j + 1) ++ mixes (bs.drop (k + 1)), ?_⟩
 have e : bs = bs.take k ++ bs[k] :: bs.drop (k + 1) := by rw [List.getElem_cons_drop, List.take_append_drop]
 have e2 : mixes bs = mixes (bs.take k) ++ ((bs[k]).mix ++ mixes (bs.drop (k + 1))) := by
  refine (congrArg mixes e).trans ?_
  simp only [mixes, List.flatMap_append, List.flatMap_cons]
 rw [e2, List.append_assoc, ← List.append_assoc (List.take (j + 1) _), List.take_append_drop]

theorem stepO_neg {ts : List Tr} {k : Nat} {x : Tr} {o : (Nat → Bool) × List Fnd} (hb : ¬ x.bad = true) (h : x.f ≠ 0 ∧ stk (ts.take (k + 1)) (x.f.toNat * 2 + 1) < 0 ∧ o.1 x.f.toNat = false) : stepO ts k x o = (upd o.1 x.f.toNat true, o.2 ++ [⟨2, x.f, k⟩]) := by
 unfold stepO; rw [if_neg hb, if_pos h]
theorem stepO_not {ts : List Tr} {k : Nat} {x : Tr} {o : (Nat → Bool) × List Fnd} (hb : ¬ x.bad = true) (h : ¬ (x.f ≠ 0 ∧ stk (ts.take (k + 1)) (x.f.toNat * 2 + 1) < 0 ∧ o.1 x.f.toNat = false)) : stepO ts k x o = o := by
 unfold stepO; rw [if_neg hb, if_neg h]
set_option maxHeartbeats 2000000 in
theorem baled_any (baA : Option Addr) (cb : Nat) (bs : List Bale) (w : World) (hB : Rd w w.heap.size 4 (BaR w w.heap.size) baA bs) :
  Calls Tryz.prog 85 #[.slice baA bs.length cb] w fun e w' => e = .returned (.tuple #[.int .i64 (baledF bs).1, .bool (baledF bs).2]) ∧ w = w' := by
 have hbl := hB.1
 go_enter Tryz.func85, Tryz.ntmps85
 go_wp2_with fail
 go_loop [4, 5] (fun s4 s5 => ∃ k : Nat, k ≤ bs.length ∧ s5 = .int .i64 k ∧ s4 = .int .i64 (acc (mixes (bs.take k))).1 ∧ Hid ((acc (mixes (bs.take k))).2 = true)) (fun _ i => bs.length - (intOf i).toNat)
 case atStart => exact ⟨0, Nat.zero_le _, rfl, rfl, rfl⟩
 case round =>
  obtain ⟨k, hk, rfl, rfl, HA⟩ := hrel
  by_cases hlt : k < bs.length
  ·obtain ⟨x, hx⟩ := get_of_lt hlt
   obtain ⟨b, off, mA, mc, rfl, hbB, x0, x1, x2, x3, hmix⟩ := ba_cells hB hx
   have HX := Lib.hid hx; clear hx
   have hml := hmix.1
   have HM := Lib.hid hmix; clear hmix
   go_wp2_with fail
   go_loop [4, 6] (fun s4 s6 => ∃ j : Nat, j ≤ x.mix.length ∧ s6 = .int .i64 j ∧ s4 = .int .i64 (acc (mixes (bs.take k) ++ x.mix.take j)).1 ∧ Hid ((acc (mixes (bs.take k) ++ x.mix.take j)).2 = true)) (fun _ i => x.mix.length - (intOf i).toNat)
   case atStart => exact ⟨0, Nat.zero_le _, rfl, by simp, by simpa [Hid] using HA⟩
   case round =>
    obtain ⟨j, hj, rfl, rfl, HR⟩ := hrel
    by_cases hjl : j < x.mix.length
    ·obtain ⟨n, hn⟩ := get_of_lt hjl
     obtain ⟨mb, mo, rfl, hmB, y0⟩ := int_cell HM.out hn
     have HS := Lib.hid (acc_in (L := mixes (bs.take k)) hn); clear hn
     obtain ⟨s, hs⟩ : ∃ s, s = (acc (mixes (bs.take k) ++ x.mix.take j)).1 := ⟨_, rfl⟩
     rw [← hs]
     have HS1 := Lib.hid hs; clear hs
     by_cases a1 : n < 0
     ·have b1 : decide (n < 0) = true := by simpa using a1
      have HF : Hid (baledF bs = (0, false)) := by
       obtain ⟨M, e⟩ := mixes_split (j := j) HX.out
       unfold baledF
       rw [e, acc_app_false _ _ (by rw [HS.out]; simp [accStep]; omega)]; rfl
      go_wp2_with fail
      go_ret2
      rw [HF.out]
      exact ⟨rfl, rfl⟩
     ·by_cases a2 : 1073741824 < n
      ·have b1 : decide (n < 0) = false := by simpa using a1
       have b2 : decide (1073741824 < n) = true := by simpa using a2
       have HF : Hid (baledF bs = (0, false)) := by
        obtain ⟨M, e⟩ := mixes_split (j := j) HX.out
        unfold baledF
        rw [e, acc_app_false _ _ (by rw [HS.out]; simp [accStep]; omega)]; rfl
       go_wp2_with fail
       go_ret2
       rw [HF.out]
       exact ⟨rfl, rfl⟩
      ·have b1 : decide (n < 0) = false := by simpa using a1
       have b2 : decide (1073741824 < n) = false := by simpa using a2
       have HV : Hid (accStep (acc (mixes (bs.take k) ++ x.mix.take j)) n = (wrap64 (s + n), true)) := by
        unfold Hid accStep; rw [HR.out, ← HS1.out]; simp [show 0 ≤ n by omega, show n ≤ 1073741824 by omega]
       go_wp2_with fail
       go_round
       case rel => exact ⟨j + 1, by omega, by go_num, by rw [HS.out, HV.out], by first | exact trivial | (unfold Hid; rw [HS.out, HV.out])⟩
       case measure => simp [intOf]; omega
    ·obtain rfl : j = x.mix.length := by omega
     have HA2 := Lib.hid (acc_out HX.out)
     go_wp2_with fail
     refine ⟨⟨k + 1, by omega, by go_num, by rw [HA2.out], by first | exact trivial | (unfold Hid; rw [HA2.out]; exact HR.out)⟩, by simp [intOf]; omega⟩
  ·obtain rfl : k = bs.length := by omega
   rw [List.take_length] at HA ⊢
   have HF : Hid (baledF bs = ((acc (mixes bs)).1, true)) := by unfold baledF; rw [HA.out]; rfl
   go_wp2_with fail
   go_ret2
   rw [HF.out]
   exact ⟨rfl, rfl⟩
end Go.Proofs.YtbnimhmoffchdaaGreatDoor
namespace Go.Proofs.YtbnimhmoffchdaaGreatDoor
open Go.RowKit
section
variable {P : Program} {n : Nat} {ops : Array Oper} {Q : Exit → Act → World → Prop} {rest : List Oper} {e : Env} {w : World} {o : Oper}
theorem wv (d : Nat) {v : Value} (hv : OpV P e w o v) (next : wl P n ops Q rest ((d, v) :: e) w) (hc : chk ops e n o d true = true := by kernel_rfl) : wl P n ops Q (o :: rest) e w := wl_val d hc hv next
theorem wk (d : Nat) (next : wl P n ops Q rest ((d, undef) :: e) w) (hc : chk ops e n o d false = true := by kernel_rfl) : wl P n ops Q (o :: rest) e w := wl_skip d hc next
theorem wz (d : Nat) {v : Value} {w' : World} (hv : (execOp (eev e) o).run P w = .ok (.value v) w') (next : ∀ w1, w1 = w' → wl P n ops Q rest ((d, v) :: e) w1) (hc : chk ops e n o d true = true := by kernel_rfl) : wl P n ops Q (o :: rest) e w := wl_new d hc hv next
end
section
variable {P : Program} {n : Nat} {ops : Array Oper} {C : World → Prop} {K : Act → Prop} {rest : List Oper} {e : Env} {o : Oper}
theorem vv (d : Nat) {v : Value} (hv : ∀ w, C w → OpV P e w o v) (next : wq P n ops C K rest ((d, v) :: e)) (hc : chk ops e n o d true = true := by kernel_rfl) : wq P n ops C K (o :: rest) e := wq_val d hc hv next
theorem vk (d : Nat) (next : wq P n ops C K rest ((d, undef) :: e)) (hc : chk ops e n o d false = true := by kernel_rfl) : wq P n ops C K (o :: rest) e := wq_skip d hc next
end
section
variable {σ : Type} {P : Program} {n : Nat} {ops : Array Oper} {E : σ → Env} {H : σ → World → Prop} {S : World → Prop} {fuel : Nat} {listed : Array Bool} {e : Env} {w : World} {o : Oper}
theorem hv_ (i d : Nat) {v : Value} (hi : ops[i]? = some o) (hv : ∀ w, S w → OpV P e w o v) (hS : S w) (next : wh P n ops E H S fuel (done listed i) ((d, v) :: e) w) (hm : mayTake ops listed i = true := by kernel_rfl) (hc : chk ops e n o d true = true := by kernel_rfl) : wh P n ops E H S (fuel + 1) listed e w := wh_take i d hi hm hc hv hS next
theorem hk_ (i d : Nat) (hS : S w) (next : wh P n ops E H S fuel (done listed i) ((d, undef) :: e) w) (hi : ops[i]? = some o := by rfl) (hm : mayTake ops listed i = true := by kernel_rfl) (hc : chk ops e n o d false = true := by kernel_rfl) : wh P n ops E H S (fuel + 1) listed e w := wh_skip i d hi hm hc hS next
end

theorem fnC_one (f : Fnd) : ∀ u ∈ fnC f, u.oneCell' = true := fun u hu => by simp [fnC] at hu; rcases hu with rfl | rfl | rfl <;> rfl
/-- What holds in recyclingref59.Mass: the books in block N, told in block N + 2, the findings owned by v. -/
def RPre (w : World) (N : Nat) (bk : List Value) (T : Nat → Bool) (fs : List Fnd) (v : Value) (wr : World) : Prop :=
 Below N w wr ∧ N + 3 ≤ wr.heap.size ∧ Blk wr N 40 bk ∧ Blk wr (N + 1 + 1) 4 (toC T) ∧ wr.ownsRow N 64 3 v fs.length (fs.flatMap fnC)
section
variable {w wr w' : World} {N : Nat} {bk : List Value} {T : Nat → Bool} {fs : List Fnd} {v : Value}
theorem grownBy_of_below (h : Below wr.heap.size wr w') (row : Option Nat) : wr.grownBy w' row := ⟨h.os, h.tape, h.output, h.size, fun k hk _ => h.block k hk⟩
theorem own_later {base : Nat} {e : TypeId} {size n : Nat} {xs : List Value} (h : wr.ownsRow base e size v n xs) (hb : Below wr.heap.size wr w') : w'.ownsRow base e size v n xs :=
 h.kept (grownBy_of_below hb none) (by cases v.ownBlock <;> simp)
theorem RPre.later (h : RPre w N bk T fs v wr) (hb : Below wr.heap.size wr w') : RPre w N bk T fs v w' := by
 obtain ⟨a, b, c, d, e⟩ := h
 exact ⟨a.trans (hb.mono (by omega)), Nat.le_trans b hb.size, c.below hb c.lt, d.below hb d.lt, own_later e hb⟩
theorem RPre.push {f : Fnd} {v' : Value} (h : RPre w N bk T fs v wr) (hown : w'.ownsRow N 64 3 v' (fs.length + 1) (fs.flatMap fnC ++ fnC f)) (hg : (wr.alloc (.cells (fnC f).toArray 64)).grownBy w' v.ownBlock) : RPre w N bk T (fs ++ [f]) v' w' := by
 obtain ⟨a, b, c, d, e⟩ := h
 refine ⟨(a.alloc (by omega) _).grown hg (by simp; omega) (fun k hk => (e.lt k hk).1), Nat.le_trans b (Nat.le_trans (by simp) hg.size), (c.alloc _).grown hg (own_blk_ne e c (by decide)), (d.alloc _).grown hg (own_blk_ne e d (by decide)), by simpa using hown⟩
theorem RPre.told (h : RPre w N bk T fs v wr) (i : Nat) (u : Bool) : RPre w N bk (upd T i u) fs v (wr.setCell ⟨N + 1 + 1, i, none⟩ (.bool u)) := by
 obtain ⟨a, b, c, d, e⟩ := h
 exact ⟨a.setCell (p := ⟨N + 1 + 1, i, none⟩) (by simp; omega) _, by simpa [World.setCell] using b, c.far (c.ne_ d (by decide)) _, by rw [← toC_set]; exact d.set_ i _, own_setCell_other e (own_blk_ne e d (by decide)) _⟩
theorem RPre.alloc (h : RPre w N bk T fs v wr) (o : Obj) : RPre w N bk T fs v (wr.alloc o) := h.later ((Below.refl _ _).alloc (Nat.le_refl _) _)
theorem RPre.drewN (h : RPre w N bk T fs v wr) (n : Nat) : RPre w N bk T fs v (wr.drewN n) := by
 obtain ⟨a, b, c, d, e⟩ := h
 exact ⟨below_drewN a n, b, c, d, e⟩
end
theorem rpre_start {w : World} {bk : List Value} : RPre w w.heap.size bk (fun _ => false) [] (.slice (some ⟨w.heap.size + 1, 0, none⟩) 0 0) (((w.alloc (.cells bk.toArray 40)).alloc (.cells #[] 64)).alloc (.cells (toC fun _ => false).toArray 4)) := by
 have h0 := Blk.new w 40 bk
 have h1 := World.ownsRow_made (w.alloc (.cells bk.toArray 40)) (base := w.heap.size) (e := 64) (size := 3) #[] 0 (by simp) (by unfold maxLen; omega) rfl
 have h2 := Blk.new ((w.alloc (.cells bk.toArray 40)).alloc (.cells #[] 64)) 4 (toC fun _ => false)
 simp only [World.size_alloc] at h1 h2
 exact ⟨(((Below.refl _ _).alloc (Nat.le_refl _) _).alloc (by simp) _).alloc (by simp only [World.size_alloc]; omega) _, by simp, (h0.alloc _).alloc _, h2, h1.alloc _⟩
theorem mk7b (w : World) : (Instr.makeSlice 138 (.int .i64 7) (.int .i64 7)).run Tryz.prog w = .ok (.slice (some ⟨w.heap.size, 0, none⟩) 7 7) (w.alloc (.cells (toC fun _ => false).toArray 4)) := by kernel_rfl

theorem RPre.dr {w wr w' : World} {N : Nat} {bk : List Value} {T : Nat → Bool} {fs : List Fnd} {v : Value} (h : RPre w N bk T fs v wr) (hd : Dr wr w') : RPre w N bk T fs v w' := by
 obtain ⟨m, rfl⟩ := hd; exact h.drewN m
/-- One finding appended to a row that is owned. -/
theorem wl_pushO {n : Nat} {Q : Exit → Act → World → Prop} {ops : Array Oper} {rest : List Oper} {e : Env} {ty : TypeId} {ps : String} {af : Array Edge} {g : Option (Nat × Bool)} {d : Option Tmp} {wr w1 : World} {N : Nat} {fs : List Fnd} {v : Value} (dd : Nat) {s x : Operand} (f : Fnd)
  (hc : chk ops e n ⟨d, .call ⟨.builtin .append, #[s, x], #[43, 43]⟩, ty, ps, af, g⟩ dd true = true) (hs : eev e s = v) (hx : eev e x = .slice (some ⟨wr.heap.size, 0, none⟩) 1 1)
  (hS : wr.ownsRow N 64 3 v fs.length (fs.flatMap fnC)) (hN : N ≤ wr.heap.size) (hw1 : w1 = wr.alloc (.cells (fnC f).toArray 64)) (hlen : fs.length < 1000000)
  (next : ∀ v' w', w'.ownsRow N 64 3 v' (fs.length + 1) (fs.flatMap fnC ++ fnC f) → (wr.alloc (.cells (fnC f).toArray 64)).grownBy w' v.ownBlock → wl Tryz.prog n ops Q rest ((dd, v') :: e) w') : wl Tryz.prog n ops Q (⟨d, .call ⟨.builtin .append, #[s, x], #[43, 43]⟩, ty, ps, af, g⟩ :: rest) e w1 := by
 subst hw1
 exact wl_append (el := 64) (size := 3) (bytes := 24) (base := N) (k := fs.length) (xs := fs.flatMap fnC) (news := fnC f) dd hc (by kernel_rfl) hs (hS.alloc _) hx rfl (fun j u hu => new_cells wr (fnC f) _ j u hu) (fnC_one f) (by unfold maxLen; omega) (by omega) (by simp; omega) next
theorem plantBad_re (ts : List Tr) (ins bins : Int) : plantBad ts ins bins = (decide (ins < 0 ∨ 70368744177664 < ins ∨ bins < 0 ∨ 70368744177664 < bins) || !withinB (stk ts 6) (stk ts 7) (ins + bins)) := by
 unfold plantBad withinB
 rw [Bool.eq_iff_iff]; simp; omega
theorem balesBad_re (ts : List Tr) (bs : List Bale) : balesBad ts bs = (!(baledF bs).2 || !withinB (stk ts 8) (stk ts 9) (baledF bs).1) := by
 unfold balesBad baledF
 cases h : (acc (mixes bs)).2 <;> simp
theorem bal_later {w w' : World} {A : Option Addr} {bs : List Bale} (h : Rd w w.heap.size 4 (BaR w w.heap.size) A bs) (hb : Below w.heap.size w w') : Rd w' w'.heap.size 4 (BaR w' w'.heap.size) A bs :=
 (h.belowR (fun _x _cs ⟨A, c, e, hr⟩ => ⟨A, c, e, (hr.below hb).more hb.size⟩) hb).more hb.size
theorem massF_parts {ts : List Tr} {ins bins : Int} {bs : List Bale} : massF ts ins bins bs = (outs ts ts.length).2 ++ (if plantBad ts ins bins then [⟨3, 0, 0⟩] else []) ++ (if balesBad ts bs then [⟨4, 0, 0⟩] else []) := rfl
set_option maxRecDepth 10000 in
theorem refMassN_full (now hh cc as_ em ta gap ins bins pr sa cl pa co fe bi po : Value) (trA : Option Addr) (trn trc : Nat) (baA : Option Addr) (ban bac : Nat) (w : World) (hfull : 512 < trn ∨ 64 < ban) :
  Calls Tryz.prog 33 #[.agg #[now, hh, cc, as_, em, ta, gap, .slice trA trn trc, ins, bins, .slice baA ban bac, pr, sa, cl, pa, co, fe, bi, po]] w fun e w' => e = .returned (.tuple #[.slice none 0 0, .int .i64 8]) ∧ Below w.heap.size w w' := by
 by_cases q0 : 512 < trn
 ·skip
  refine calls_wc (n := 138) Tryz.func33 rfl rfl (Nat.le_of_ble_eq_true rfl) <| wc_seq <| wc_region <| wz 1 (op_boxA rfl) fun w1 hw1 => ?_
  have hb := Blk.new w 40 [now, hh, cc, as_, em, ta, gap, .slice trA trn trc, ins, bins, .slice baA ban bac, pr, sa, cl, pa, co, fe, bi, po]
  rw [← hw1] at hb
  have c7 := hb.at_ 7 rfl
  have c10 := hb.at_ 10 rfl
  exact wv 2 (op_assign (v := .slice _ _ _) rfl) <| wv 3 (op_assign (v := .int .i64 _) rfl) <| wl_nil <| wx_next <| wc_seq <| wc_seq <| wc_region <| wv 11 (op_fieldL (m := 7) (k := 7) rfl (by kernel_rfl) rfl) <| wv 12 (op_load rfl (by kernel_rfl) (by assumption)) <| wv 13 (op_len rfl (by kernel_rfl)) <| wv 14 (op_t (op_gtr rfl rfl) (by omega)) <| wv 15 (op_move (v := .bool true) rfl) <| wk 16 <| wk 17 <| wk 18 <| wk 19 <| wv 20 (op_pick_t (v := .bool true) rfl rfl) <| wl_nil <| wx_next <| wc_cond_t (by kernel_rfl) rfl <| wc_seq <| wc_region <| wv 2 (op_assign (v := .slice _ _ _) rfl) <| wv 3 (op_assign (v := .int .i64 _) rfl) <| wl_nil <| wx_next <| wc_ret <| wx_thenR <| wx_ret2 rfl (by kernel_rfl) (show _ = .slice _ _ _ from rfl) (by kernel_rfl) (show _ = .int .i64 _ from rfl) <| ⟨rfl, by rw [hw1]; exact (Below.refl _ _).alloc (Nat.le_refl _) _⟩
 refine calls_wc (n := 138) Tryz.func33 rfl rfl (Nat.le_of_ble_eq_true rfl) <| wc_seq <| wc_region <| wz 1 (op_boxA rfl) fun w1 hw1 => ?_
 have hb := Blk.new w 40 [now, hh, cc, as_, em, ta, gap, .slice trA trn trc, ins, bins, .slice baA ban bac, pr, sa, cl, pa, co, fe, bi, po]
 rw [← hw1] at hb
 have c7 := hb.at_ 7 rfl
 have c10 := hb.at_ 10 rfl
 exact wv 2 (op_assign (v := .slice _ _ _) rfl) <| wv 3 (op_assign (v := .int .i64 _) rfl) <| wl_nil <| wx_next <| wc_seq <| wc_seq <| wc_region <| wv 11 (op_fieldL (m := 7) (k := 7) rfl (by kernel_rfl) rfl) <| wv 12 (op_load rfl (by kernel_rfl) (by assumption)) <| wv 13 (op_len rfl (by kernel_rfl)) <| wv 14 (op_f (op_gtr rfl rfl) (by omega)) <| wv 15 (op_move (v := .bool false) rfl) <| wv 16 (op_fieldL (m := 10) (k := 10) rfl (by kernel_rfl) rfl) <| wv 17 (op_load rfl (by kernel_rfl) (by assumption)) <| wv 18 (op_len rfl (by kernel_rfl)) <| wv 19 (op_t (op_gtr rfl rfl) (by omega)) <| wv 20 (op_pick_f (v := .bool true) rfl rfl) <| wl_nil <| wx_next <| wc_cond_t (by kernel_rfl) rfl <| wc_seq <| wc_region <| wv 2 (op_assign (v := .slice _ _ _) rfl) <| wv 3 (op_assign (v := .int .i64 _) rfl) <| wl_nil <| wx_next <| wc_ret <| wx_thenR <| wx_ret2 rfl (by kernel_rfl) (show _ = .slice _ _ _ from rfl) (by kernel_rfl) (show _ = .int .i64 _ from rfl) <| ⟨rfl, by rw [hw1]; exact (Below.refl _ _).alloc (Nat.le_refl _) _⟩
set_option maxRecDepth 10000 in
theorem refMass_any (now hh cc as_ em ta gap pr sa cl pa co fe bi po : Value) (trA : Option Addr) (c : Nat) (ts : List Tr) (hn : ts.length ≤ 512) (baA : Option Addr) (cb : Nat) (bs : List Bale) (hnb : bs.length ≤ 64) (ins bins : Int) (w : World)
  (hT : Rd w w.heap.size 4 TrR trA ts) (hB : Rd w w.heap.size 4 (BaR w w.heap.size) baA bs) :
  Calls Tryz.prog 33 #[.agg #[now, hh, cc, as_, em, ta, gap, .slice trA ts.length c, .int .i64 ins, .int .i64 bins, .slice baA bs.length cb, pr, sa, cl, pa, co, fe, bi, po]] w fun e w' => ∃ v, e = .returned (.tuple #[v, .int .i64 0]) ∧ w'.ownsRow w.heap.size 64 3 v (massF ts ins bins bs).length ((massF ts ins bins bs).flatMap fnC) ∧ Below w.heap.size w w' := by
 obtain ⟨BK, hBK⟩ : ∃ k, k = [now, hh, cc, as_, em, ta, gap, .slice trA ts.length c, .int .i64 ins, .int .i64 bins, .slice baA bs.length cb, pr, sa, cl, pa, co, fe, bi, po] := ⟨_, rfl⟩
 have hcell : ∀ wr : World, Blk wr w.heap.size 40 BK → wr.cell? ⟨w.heap.size, 7, none⟩ = some (.slice trA ts.length c) ∧ wr.cell? ⟨w.heap.size, 8, none⟩ = some (.int .i64 ins) ∧ wr.cell? ⟨w.heap.size, 9, none⟩ = some (.int .i64 bins) ∧ wr.cell? ⟨w.heap.size, 10, none⟩ = some (.slice baA bs.length cb) := fun wr h => by
  rw [hBK] at h
  exact ⟨h.at_ 7 rfl, h.at_ 8 rfl, h.at_ 9 rfl, h.at_ 10 rfl⟩
 refine calls_wc (n := 138) Tryz.func33 rfl rfl (Nat.le_of_ble_eq_true rfl) <| wc_seq <| wc_region <| wz 1 (op_boxA rfl) fun w1 hw1 => ?_
 obtain ⟨m7, m8, m9, m10⟩ := hcell w1 (by rw [hw1, hBK]; exact Blk.new w _ _)
 refine wv 2 (op_assign (v := .slice _ _ _) rfl) <| wv 3 (op_assign (v := .int .i64 _) rfl) <| wl_nil <| wx_next <| wc_seq <| wc_seq <| wc_region <| wv 11 (op_fieldL (m := 7) (k := 7) rfl (by kernel_rfl) rfl) <| wv 12 (op_load rfl (by kernel_rfl) (by assumption)) <| wv 13 (op_len rfl (by kernel_rfl)) <| wv 14 (op_f (op_gtr rfl rfl) (by omega)) <| wv 15 (op_move (v := .bool false) rfl) <| wv 16 (op_fieldL (m := 10) (k := 10) rfl (by kernel_rfl) rfl) <| wv 17 (op_load rfl (by kernel_rfl) (by assumption)) <| wv 18 (op_len rfl (by kernel_rfl)) <| wv 19 (op_f (op_gtr rfl rfl) (by omega)) <| wv 20 (op_pick_f (v := .bool false) rfl rfl) <| wl_nil <| wx_next <| wc_cond_f (by kernel_rfl) rfl <| wc_skip <| wx_next <| wc_seq <| wc_region <| wz 21 (op_slice0 (el := 64) (size := 3) (bytes := 24) (by kernel_rfl)) fun w2 hw2 => wv 4 (op_assign (v := .slice _ _ _) rfl) <| wl_nil <| wx_next <| wc_seq <| wc_region ?_
 refine wz 22 (by show (execOp _ _).run _ _ = _; simp only [execOp, eev]; simp only [Sem.run_bind, mk7b, Result.andThen]; rfl) fun w3 hw3 => ?_
 have e1 : w1.heap.size = w.heap.size + 1 := by rw [hw1]; simp
 have e2 : w2.heap.size = w.heap.size + 1 + 1 := by rw [hw2]; simp [e1]
 have HS : RPre w w.heap.size BK (fun _ => false) [] (.slice (some ⟨w1.heap.size, 0, none⟩) 0 0) w3 := by
  rw [hw3, hw2, e1, hw1, hBK]; exact rpre_start
 clear hw1 hw2 hw3 m7 m8 m9 m10
 refine wv 5 (op_assign (v := .slice _ _ _) rfl) <| wl_nil <| wx_next <| wc_seq <| wc_seq <| wc_region <| wv 6 (op_assign (v := .int .i64 _) rfl) <| wl_nil <| wx_next <| wc_block <| wc_loop (σ := Nat × Value) (fun s => [(1, .pointer (some ⟨w.heap.size, 0, none⟩)), (4, s.2), (5, .slice (some ⟨w.heap.size + 1 + 1, 0, none⟩) 7 7), (6, .int .i64 s.1)]) (fun s wr => s.1 ≤ ts.length ∧ RPre w w.heap.size BK (outs ts s.1).1 (outs ts s.1).2 s.2 wr) (fun s => ts.length - s.1) (0, .slice (some ⟨w1.heap.size, 0, none⟩) 0 0) ?_ ?_ ?_
 ·exact (sub_cons (by kernel_rfl) rfl (sub_cons (by kernel_rfl) rfl (sub_cons (by kernel_rfl) (by rw [← e2]; rfl) (sub_cons (by kernel_rfl) rfl sub_nil))))
 ·exact ⟨Nat.zero_le _, HS⟩
 intro s w1 hs
 clear HS
 obtain ⟨k, v⟩ := s
 obtain ⟨hk, HS⟩ := hs
 simp only at hk HS
 obtain ⟨m7, m8, m9, m10⟩ := hcell w1 HS.2.2.1
 have hfl := outs_le ts k
 refine wc_seq <| wc_seq <| wc_region <| wv 23 (op_move (v := .int .i64 _) rfl) <| wv 24 (op_fieldL (m := 7) (k := 7) rfl (by kernel_rfl) rfl) <| wv 25 (op_load rfl (by kernel_rfl) (by assumption)) <| wv 26 (op_len rfl (by kernel_rfl)) <| wv 27 (op_lss rfl rfl) <| wl_nil <| wx_next <| wc_cond (by kernel_rfl) rfl (fun h1 => ?_) (fun h1 => ?_)
 ·skip
  have hlt : k < ts.length := by simpa using h1
  obtain ⟨x, hx⟩ := get_of_lt hlt
  obtain ⟨tb, tf, rfl, _, _⟩ := tr_cells (hT.below HS.1) hx
  have hrow := (hT.below HS.1).row (enc := trC) hx
  refine wc_skip <| wx_next <| wc_seq <| wc_block <| wc_seq <| wc_region <| wv 30 (op_fieldL (m := 7) (k := 7) rfl (by kernel_rfl) rfl) <| wv 31 (op_load rfl (by kernel_rfl) (by assumption)) <| wv 32 (op_move (v := .int .i64 _) rfl) <| wv 33 (op_index (sz := 4) rfl rfl (by kernel_rfl) (by omega)) <| wv 34 (op_loadR (trC x) rfl (by kernel_rfl) hrow) <| wl_run 7 (by kernel_rfl) (op_alloc (v := .agg #[.int .i64 0, .int .i64 0, .int .i64 0, .int .i64 0]) [.int .i64 0, .int .i64 0, .int .i64 0, .int .i64 0] (by kernel_rfl) rfl) <| wl_donew (by kernel_rfl) (op_fill _ (trC x) rfl rfl (by kernel_rfl) rfl rfl) fun w2 hw2 => ?_
  have HS2 : RPre w w.heap.size BK (outs ts k).1 (outs ts k).2 v w2 := by rw [hw2]; exact HS.alloc _
  have hbx : Blk w2 w1.heap.size 60 (trC x) := by rw [hw2]; exact Blk.new w1 _ _
  clear hw2 HS m7 m8 m9 m10 hrow
  refine wl_nil <| wx_next <| wc_seq <| wc_seq <| wc_region <| wv 35 (op_loadR (trC x) rfl (by kernel_rfl) (fun j u hu => by simpa using hbx.at_ j hu)) <| wl_call 36 (by kernel_rfl) (op_call (by kernel_rfl)) (invalid_any _ _ _ _ _) ?_
  rintro e w3 ⟨rfl, hb3⟩
  have HS3 := HS2.later hb3
  have hbx3 := hbx.below hb3 hbx.lt
  clear hb3 HS2 hbx
  obtain ⟨gx, hgx⟩ : ∃ gx, gx = w1.heap.size := ⟨_, rfl⟩
  rw [← hgx] at hbx3 ⊢
  clear hgx
  refine ⟨_, rfl, ?_⟩
  refine wl_nil <| wx_next <| wc_cond (by kernel_rfl) rfl (fun h2 => ?_) (fun h2 => ?_)
  ·skip
   have hbad : x.bad = true := h2
   refine wc_seq <| wc_region <| wv 37 (op_move (v := _) rfl) <| wv 38 (op_move (v := .int .i64 _) rfl) <| wv 39 (op_build (z := [.int .i64 0, .int .i64 0, .int .i64 0]) (tab := [(0, 1), (1, 1), (2, 1)]) (cs := [.int .i64 _, .int .i64 _, .int .i64 _]) [(0, [.int .i64 _]), (1, [.int .i64 _])] (by kernel_rfl) (by kernel_rfl) (fillOk_cons rfl rfl rfl (fillOk_cons rfl rfl rfl fillOk_nil)) rfl) <| wz 40 (op_slice1 (el := 64) (size := 3) (bytes := 24) [.int .i64 _, .int .i64 _, .int .i64 _] (by kernel_rfl) rfl rfl rfl) fun w4 hw4 => wl_pushO 41 ⟨1, k, 0⟩ (by kernel_rfl) rfl rfl HS3.2.2.2.2 (by have := HS3.2.1; omega) hw4 (by omega) fun v5 w5 ho hg => ?_
   have HS5 := HS3.push ho hg
   clear ho hg hw4
   refine wv 4 (op_assign (v := _) rfl) <| wl_nil <| wx_next <| wc_exit <| wx_thenE <| wx_here <| wx_next <| wc_region <| wv 28 (op_move (v := .int .i64 _) rfl) <| wv 29 (op_add rfl rfl (by omega)) <| wv 6 (op_assign (v := .int .i64 _) rfl) <| wl_nil <| wx_round (k + 1, _) (sub_cons (by kernel_rfl) rfl (sub_cons (by kernel_rfl) rfl (sub_cons (by kernel_rfl) rfl (sub_cons (by kernel_rfl) rfl sub_nil)))) ⟨hlt, ?_⟩ (by simp only; omega)
   simp only
   first | (rw [outs_bad hx hbad]; exact HS5) | (rw [outs_succ hx, stepO_neg hbad hneg]; exact HS6) | (rw [outs_succ hx, stepO_not hbad hneg]; exact HS4)
  ·skip
   have hbad : ¬ x.bad = true := by have h0 : x.bad = false := h2; rw [h0]; decide
   have hgd := good_of (x := x) h2
   obtain ⟨xf, xt, xlo, xhi⟩ := x
   simp only at hgd
   obtain ⟨fn, hfn⟩ := Int.eq_ofNat_of_zero_le hgd.1
   subst hfn
   have y0 := hbx3.at_ 0 rfl
   have y1 := HS3.2.2.2.1.at_ fn (toC_get _ (by omega))
   obtain ⟨m7, m8, m9, m10⟩ := hcell w3 HS3.2.2.1
   refine wc_skip <| wx_next <| wc_seq <| wc_held (fun w' => w'.cell? ⟨gx, 0, none⟩ = some (.int .i64 fn) ∧ w'.cell? ⟨w.heap.size + 1 + 1, fn, none⟩ = some (.bool ((outs ts k).1 fn)) ∧ w'.cell? ⟨w.heap.size, 7, none⟩ = some (.slice (some ⟨tb, tf, none⟩) ts.length c)) (σ := Unit) (fun _ => [(65, .bool (decide ((fn : Int) ≠ 0 ∧ stk (ts.take (k + 1)) (fn * 2 + 1) < 0 ∧ (outs ts k).1 fn = false)))]) (fun _ wr => RPre w w.heap.size BK (outs ts k).1 (outs ts k).2 v wr ∧ Blk wr gx 60 (trC ⟨fn, xt, xlo, xhi⟩)) 24 (by kernel_rfl) rfl ⟨y0, y1, m7⟩ ?_ ?_
   ·skip
    refine hv_ 0 42 rfl (fun _ _ => op_fieldL (m := 0) (k := 0) rfl (by kernel_rfl) rfl) (by exact ⟨y0, y1, m7⟩) <| hv_ 1 43 rfl (fun w1 c1 => op_load rfl (by kernel_rfl) c1.1) (by exact ⟨y0, y1, m7⟩) <| wh_dec 2 44 rfl (by kernel_rfl) (by kernel_rfl) (fun w1 c1 => op_neq rfl rfl) (by exact ⟨y0, y1, m7⟩) (fun h3 => ?_) (fun h3 => ?_)
    ·skip
     refine hv_ 3 45 rfl (fun _ _ => op_move (v := .bool true) rfl) (by exact ⟨y0, y1, m7⟩) <| hv_ 4 46 rfl (fun _ _ => op_move (v := .slice _ _ _) rfl) (by exact ⟨y0, y1, m7⟩) <| hv_ 5 47 rfl (fun _ _ => op_fieldL (m := 0) (k := 0) rfl (by kernel_rfl) rfl) (by exact ⟨y0, y1, m7⟩) <| hv_ 6 48 rfl (fun w1 c1 => op_load rfl (by kernel_rfl) c1.1) (by exact ⟨y0, y1, m7⟩) <| hv_ 7 49 rfl (fun w1 c1 => op_index1z rfl rfl (by kernel_rfl) (by omega)) (by exact ⟨y0, y1, m7⟩) <| wh_bool 8 50 rfl (by kernel_rfl) (by kernel_rfl) (fun w1 c1 => op_load rfl (by kernel_rfl) c1.2.1) (by exact ⟨y0, y1, m7⟩) (fun h4 => ?_) (fun h4 => ?_)
     ·skip
      refine hv_ 9 51 rfl (fun w1 c1 => op_nott rfl) (by exact ⟨y0, y1, m7⟩) <| hv_ 10 52 rfl (fun _ _ => op_pick_t (v := .bool false) rfl rfl) (by exact ⟨y0, y1, m7⟩) <| hv_ 11 53 rfl (fun _ _ => op_move (v := .bool false) rfl) (by exact ⟨y0, y1, m7⟩) <| hk_ 12 54 (by exact ⟨y0, y1, m7⟩) <| hk_ 13 55 (by exact ⟨y0, y1, m7⟩) <| hk_ 14 56 (by exact ⟨y0, y1, m7⟩) <| hk_ 15 57 (by exact ⟨y0, y1, m7⟩) <| hk_ 17 59 (by exact ⟨y0, y1, m7⟩) <| hk_ 18 60 (by exact ⟨y0, y1, m7⟩) <| hk_ 16 58 (by exact ⟨y0, y1, m7⟩) <| hk_ 19 61 (by exact ⟨y0, y1, m7⟩) <| hk_ 20 62 (by exact ⟨y0, y1, m7⟩) <| hk_ 21 63 (by exact ⟨y0, y1, m7⟩) <| hk_ 22 64 (by exact ⟨y0, y1, m7⟩) <| hv_ 23 65 rfl (fun _ _ => op_pick_f (v := .bool false) rfl rfl) (by exact ⟨y0, y1, m7⟩) <| wh_done () (by kernel_rfl) (sub_out 24 _ rfl (by kernel_rfl) ?_) ?_
      ·refine ⟨congrArg Value.bool ?_, trivial⟩
       rw [Bool.eq_iff_iff]; simp_all
      ·first | exact ⟨(HS3.drewN 1).later hb6, Blk.below (w := w3.drew) hbx3 hb6 hbx3.lt⟩ | exact ⟨HS3.drewN 1, hbx3⟩
     ·skip
      refine hv_ 9 51 rfl (fun w1 c1 => op_notf rfl) (by exact ⟨y0, y1, m7⟩) <| hv_ 10 52 rfl (fun _ _ => op_pick_t (v := .bool true) rfl rfl) (by exact ⟨y0, y1, m7⟩) <| hv_ 11 53 rfl (fun _ _ => op_move (v := .bool true) rfl) (by exact ⟨y0, y1, m7⟩) <| hv_ 12 54 rfl (fun _ _ => op_fieldL (m := 7) (k := 7) rfl (by kernel_rfl) rfl) (by exact ⟨y0, y1, m7⟩) <| hv_ 13 55 rfl (fun w1 c1 => op_load rfl (by kernel_rfl) c1.2.2) (by exact ⟨y0, y1, m7⟩) <| hv_ 14 56 rfl (fun _ _ => op_move (v := .int .i64 _) rfl) (by exact ⟨y0, y1, m7⟩) <| hv_ 15 57 rfl (fun w1 c1 => op_add rfl rfl (by omega)) (by exact ⟨y0, y1, m7⟩) <| hv_ 17 59 rfl (fun _ _ => op_fieldL (m := 0) (k := 0) rfl (by kernel_rfl) rfl) (by exact ⟨y0, y1, m7⟩) <| hv_ 18 60 rfl (fun w1 c1 => op_load rfl (by kernel_rfl) c1.1) (by exact ⟨y0, y1, m7⟩) <| wh_call 16 58 rfl (by kernel_rfl) (by kernel_rfl) (op_call (by kernel_rfl)) (stocks_at (some ⟨tb, tf, none⟩) c ts (k + 1) (by omega) (by omega) (by omega) _ (((hT.below HS3.1).drewN 1).more (by simp; have := HS3.2.1; omega))) ?_
      rintro e w6 ⟨g, rfl, hg0, hbg, hb6⟩
      have k0 := (hb6.cell (p := ⟨gx, 0, none⟩) hbx3.lt).trans y0
      have k1 := (hb6.cell (p := ⟨w.heap.size + 1 + 1, fn, none⟩) HS3.2.2.2.1.lt).trans y1
      have k2 := (hb6.cell (p := ⟨w.heap.size, 7, none⟩) HS3.2.2.1.lt).trans m7
      have cg := hbg.at_ (fn * 2 + 1) (stC_get _ (by omega))
      rw [show ((k : Int) + 1).toNat = k + 1 from by omega] at cg
      refine ⟨_, rfl, ⟨k0, k1, k2⟩, ?_⟩
      refine wh_strong (fun w' => (fun w' => w'.cell? ⟨gx, 0, none⟩ = some (.int .i64 fn) ∧ w'.cell? ⟨w.heap.size + 1 + 1, fn, none⟩ = some (.bool ((outs ts k).1 fn)) ∧ w'.cell? ⟨w.heap.size, 7, none⟩ = some (.slice (some ⟨tb, tf, none⟩) ts.length c)) w' ∧ w'.cell? ⟨g, fn * 2 + 1, none⟩ = some (.int .i64 (stk (ts.take (k + 1)) (fn * 2 + 1)))) (fun _ h => h.1) <| hv_ 19 61 rfl (fun w1 c1 => op_indexz (sz := 2) rfl rfl (by kernel_rfl) (by omega)) (by exact ⟨⟨k0, k1, k2⟩, cg⟩) <| hv_ 20 62 rfl (fun w1 c1 => op_field (m := 1) rfl (by kernel_rfl)) (by exact ⟨⟨k0, k1, k2⟩, cg⟩) <| hv_ 21 63 rfl (fun w1 c1 => op_load rfl (by kernel_rfl) c1.2) (by exact ⟨⟨k0, k1, k2⟩, cg⟩) <| hv_ 22 64 rfl (fun w1 c1 => op_lss rfl rfl) (by exact ⟨⟨k0, k1, k2⟩, cg⟩) <| hv_ 23 65 rfl (fun _ _ => op_pick_t (v := .bool _) rfl rfl) (by exact ⟨⟨k0, k1, k2⟩, cg⟩) <| wh_done () (by kernel_rfl) (sub_out 24 _ rfl (by kernel_rfl) ?_) ?_
      ·refine ⟨congrArg Value.bool ?_, trivial⟩
       rw [Bool.eq_iff_iff]; simp_all
      ·first | exact ⟨(HS3.drewN 1).later hb6, Blk.below (w := w3.drew) hbx3 hb6 hbx3.lt⟩ | exact ⟨HS3.drewN 1, hbx3⟩
    ·skip
     refine hv_ 3 45 rfl (fun _ _ => op_move (v := .bool false) rfl) (by exact ⟨y0, y1, m7⟩) <| hk_ 4 46 (by exact ⟨y0, y1, m7⟩) <| hk_ 5 47 (by exact ⟨y0, y1, m7⟩) <| hk_ 6 48 (by exact ⟨y0, y1, m7⟩) <| hk_ 7 49 (by exact ⟨y0, y1, m7⟩) <| hk_ 8 50 (by exact ⟨y0, y1, m7⟩) <| hk_ 9 51 (by exact ⟨y0, y1, m7⟩) <| hv_ 10 52 rfl (fun _ _ => op_pick_f (v := .bool false) rfl rfl) (by exact ⟨y0, y1, m7⟩) <| hv_ 11 53 rfl (fun _ _ => op_move (v := .bool false) rfl) (by exact ⟨y0, y1, m7⟩) <| hk_ 12 54 (by exact ⟨y0, y1, m7⟩) <| hk_ 13 55 (by exact ⟨y0, y1, m7⟩) <| hk_ 14 56 (by exact ⟨y0, y1, m7⟩) <| hk_ 15 57 (by exact ⟨y0, y1, m7⟩) <| hk_ 17 59 (by exact ⟨y0, y1, m7⟩) <| hk_ 18 60 (by exact ⟨y0, y1, m7⟩) <| hk_ 16 58 (by exact ⟨y0, y1, m7⟩) <| hk_ 19 61 (by exact ⟨y0, y1, m7⟩) <| hk_ 20 62 (by exact ⟨y0, y1, m7⟩) <| hk_ 21 63 (by exact ⟨y0, y1, m7⟩) <| hk_ 22 64 (by exact ⟨y0, y1, m7⟩) <| hv_ 23 65 rfl (fun _ _ => op_pick_f (v := .bool false) rfl rfl) (by exact ⟨y0, y1, m7⟩) <| wh_done () (by kernel_rfl) (sub_out 24 _ rfl (by kernel_rfl) ?_) ?_
     ·refine ⟨congrArg Value.bool ?_, trivial⟩
      rw [Bool.eq_iff_iff]; simp_all
     ·first | exact ⟨(HS3.drewN 1).later hb6, Blk.below (w := w3.drew) hbx3 hb6 hbx3.lt⟩ | exact ⟨HS3.drewN 1, hbx3⟩
   rintro _ w4 ⟨HS4, hbx4⟩
   have z0 := hbx4.at_ 0 rfl
   clear y0 y1 m7 m8 m9 m10 HS3 hbx3
   refine wx_next <| wc_cond (by kernel_rfl) rfl (fun h5 => ?_) (fun h5 => ?_)
   ·skip
    have hneg := of_decide_eq_true h5
    refine wc_seq <| wc_region <| wv 66 (op_move (v := _) rfl) <| wv 67 (op_fieldL (m := 0) (k := 0) rfl (by kernel_rfl) rfl) <| wv 68 (op_load rfl (by kernel_rfl) (by assumption)) <| wv 69 (op_move (v := .int .i64 _) rfl) <| wv 70 (op_build (z := [.int .i64 0, .int .i64 0, .int .i64 0]) (tab := [(0, 1), (1, 1), (2, 1)]) (cs := [.int .i64 _, .int .i64 _, .int .i64 _]) [(0, [.int .i64 _]), (1, [.int .i64 _]), (2, [.int .i64 _])] (by kernel_rfl) (by kernel_rfl) (fillOk_cons rfl rfl rfl (fillOk_cons rfl rfl rfl (fillOk_cons rfl rfl rfl fillOk_nil))) rfl) <| wz 71 (op_slice1 (el := 64) (size := 3) (bytes := 24) [.int .i64 _, .int .i64 _, .int .i64 _] (by kernel_rfl) rfl rfl rfl) fun w5 hw5 => wl_pushO 72 ⟨2, fn, k⟩ (by kernel_rfl) rfl rfl HS4.2.2.2.2 (by have := HS4.2.1; omega) hw5 (by omega) fun v6 w6 ho hg => ?_
    have HS5a := HS4.push ho hg
    have hbx6 := (hbx4.alloc _).grown hg (own_blk_ne HS4.2.2.2.2 hbx4 (by decide))
    have z6 := hbx6.at_ 0 rfl
    have z7 := HS5a.2.2.2.1.at_ fn (toC_get _ (by omega))
    have z8 := HS5a.2.2.2.1.free fn
    clear ho hg hw5 z0
    refine wv 4 (op_assign (v := _) rfl) <| wl_nil <| wx_next <| wc_region <| wv 73 (op_move (v := .slice _ _ _) rfl) <| wv 74 (op_fieldL (m := 0) (k := 0) rfl (by kernel_rfl) rfl) <| wv 75 (op_load rfl (by kernel_rfl) (by assumption)) <| wv 76 (op_index1z rfl rfl (by kernel_rfl) (by omega)) <| wl_donew (by kernel_rfl) (op_store rfl rfl (by kernel_rfl) rfl z7 z8) fun w7 hw7 => ?_
    have HS6 : RPre w w.heap.size BK (upd (outs ts k).1 fn true) ((outs ts k).2 ++ [⟨2, fn, k⟩]) v6 w7 := by rw [hw7]; exact HS5a.told fn true
    clear hw7
    refine wl_nil <| wx_inN <| wx_next <| wc_region <| wv 28 (op_move (v := .int .i64 _) rfl) <| wv 29 (op_add rfl rfl (by omega)) <| wv 6 (op_assign (v := .int .i64 _) rfl) <| wl_nil <| wx_round (k + 1, _) (sub_cons (by kernel_rfl) rfl (sub_cons (by kernel_rfl) rfl (sub_cons (by kernel_rfl) rfl (sub_cons (by kernel_rfl) rfl sub_nil)))) ⟨hlt, ?_⟩ (by simp only; omega)
    simp only
    first | (rw [outs_bad hx hbad]; exact HS5) | (rw [outs_succ hx, stepO_neg hbad hneg]; exact HS6) | (rw [outs_succ hx, stepO_not hbad hneg]; exact HS4)
   ·skip
    have hneg := of_decide_eq_false h5
    refine wc_skip <| wx_inN <| wx_next <| wc_region <| wv 28 (op_move (v := .int .i64 _) rfl) <| wv 29 (op_add rfl rfl (by omega)) <| wv 6 (op_assign (v := .int .i64 _) rfl) <| wl_nil <| wx_round (k + 1, _) (sub_cons (by kernel_rfl) rfl (sub_cons (by kernel_rfl) rfl (sub_cons (by kernel_rfl) rfl (sub_cons (by kernel_rfl) rfl sub_nil)))) ⟨hlt, ?_⟩ (by simp only; omega)
    simp only
    first | (rw [outs_bad hx hbad]; exact HS5) | (rw [outs_succ hx, stepO_neg hbad hneg]; exact HS6) | (rw [outs_succ hx, stepO_not hbad hneg]; exact HS4)
 ·skip
  have hge : k = ts.length := by have := of_decide_eq_false h1; omega
  subst hge
  refine wc_exit <| wx_thenE <| wx_thenE <| wx_here <| wx_next <| wc_seq <| wc_region <| wv 77 (op_fieldL (m := 7) (k := 7) rfl (by kernel_rfl) rfl) <| wv 78 (op_load rfl (by kernel_rfl) (by assumption)) <| wv 79 (op_fieldL (m := 7) (k := 7) rfl (by kernel_rfl) rfl) <| wv 80 (op_load rfl (by kernel_rfl) (by assumption)) <| wv 81 (op_len rfl (by kernel_rfl)) <| wl_call 82 (by kernel_rfl) (op_call (by kernel_rfl)) (stocks_any trA c ts ts.length (Nat.le_refl _) (by omega) _ ((hT.below HS.1).more HS.1.size)) ?_
  rintro e w2 ⟨g, rfl, hg0, hbg, hb2⟩
  have HS2 := HS.later hb2
  rw [List.take_length] at hbg
  obtain ⟨m7b, m8b, m9b, m10b⟩ := hcell w2 HS2.2.2.1
  clear hb2 HS m7 m8 m9 m10
  refine ⟨_, rfl, ?_⟩
  refine wv 8 (op_assign (v := .slice _ _ _) rfl) <| wl_nil <| wx_next <| wc_seq <| wc_seq <| wc_drawn (fun wr => RPre w w.heap.size BK (outs ts ts.length).1 (outs ts ts.length).2 v wr ∧ Blk wr g 58 (stC (stk ts))) [(112, .bool (plantBad ts ins bins))] (by kernel_rfl) (by kernel_rfl) ⟨HS2.drewN 1, hbg⟩ ?_ ?_
  ·skip
   refine vv 83 (fun _ _ => op_fieldL (m := 8) (k := 8) rfl (by kernel_rfl) rfl) <| vv 84 (fun w1 c1 => op_load rfl (by kernel_rfl) (hcell w1 c1.1.2.2.1).2.1) <| wq_dec 85 (by kernel_rfl) (fun w1 c1 => op_lss rfl rfl) (fun h6 => ?_) (fun h6 => ?_)
   ·skip
    refine vv 86 (fun _ _ => op_move (v := .bool true) rfl) <| vk 87 <| vk 88 <| vk 89 <| vv 90 (fun _ _ => op_pick_t (v := .bool true) rfl rfl) <| vv 91 (fun _ _ => op_move (v := .bool true) rfl) <| vk 92 <| vk 93 <| vk 94 <| vv 95 (fun _ _ => op_pick_t (v := .bool true) rfl rfl) <| vv 96 (fun _ _ => op_move (v := .bool true) rfl) <| vk 97 <| vk 98 <| vk 99 <| vv 100 (fun _ _ => op_pick_t (v := .bool true) rfl rfl) <| vv 101 (fun _ _ => op_move (v := .bool true) rfl) <| vk 102 <| vk 103 <| vk 104 <| vk 105 <| vk 106 <| vk 107 <| vk 108 <| vk 109 <| vk 110 <| vk 111 <| vv 112 (fun _ _ => op_pick_t (v := .bool true) rfl rfl) <| leaf_q (sub_out 30 _ rfl (by kernel_rfl) ?_)
    refine ⟨congrArg Value.bool ?_, trivial⟩; rw [plantBad_re]; rw [Bool.eq_iff_iff]; simp_all <;> omega
   ·skip
    refine vv 86 (fun _ _ => op_move (v := .bool false) rfl) <| vv 87 (fun _ _ => op_fieldL (m := 8) (k := 8) rfl (by kernel_rfl) rfl) <| vv 88 (fun w1 c1 => op_load rfl (by kernel_rfl) (hcell w1 c1.1.2.2.1).2.1) <| wq_dec 89 (by kernel_rfl) (fun w1 c1 => op_gtr rfl rfl) (fun h7 => ?_) (fun h7 => ?_)
    ·skip
     refine vv 90 (fun _ _ => op_pick_f (v := .bool true) rfl rfl) <| vv 91 (fun _ _ => op_move (v := .bool true) rfl) <| vk 92 <| vk 93 <| vk 94 <| vv 95 (fun _ _ => op_pick_t (v := .bool true) rfl rfl) <| vv 96 (fun _ _ => op_move (v := .bool true) rfl) <| vk 97 <| vk 98 <| vk 99 <| vv 100 (fun _ _ => op_pick_t (v := .bool true) rfl rfl) <| vv 101 (fun _ _ => op_move (v := .bool true) rfl) <| vk 102 <| vk 103 <| vk 104 <| vk 105 <| vk 106 <| vk 107 <| vk 108 <| vk 109 <| vk 110 <| vk 111 <| vv 112 (fun _ _ => op_pick_t (v := .bool true) rfl rfl) <| leaf_q (sub_out 30 _ rfl (by kernel_rfl) ?_)
     refine ⟨congrArg Value.bool ?_, trivial⟩; rw [plantBad_re]; rw [Bool.eq_iff_iff]; simp_all <;> omega
    ·skip
     refine vv 90 (fun _ _ => op_pick_f (v := .bool false) rfl rfl) <| vv 91 (fun _ _ => op_move (v := .bool false) rfl) <| vv 92 (fun _ _ => op_fieldL (m := 9) (k := 9) rfl (by kernel_rfl) rfl) <| vv 93 (fun w1 c1 => op_load rfl (by kernel_rfl) (hcell w1 c1.1.2.2.1).2.2.1) <| wq_dec 94 (by kernel_rfl) (fun w1 c1 => op_lss rfl rfl) (fun h8 => ?_) (fun h8 => ?_)
     ·skip
      refine vv 95 (fun _ _ => op_pick_f (v := .bool true) rfl rfl) <| vv 96 (fun _ _ => op_move (v := .bool true) rfl) <| vk 97 <| vk 98 <| vk 99 <| vv 100 (fun _ _ => op_pick_t (v := .bool true) rfl rfl) <| vv 101 (fun _ _ => op_move (v := .bool true) rfl) <| vk 102 <| vk 103 <| vk 104 <| vk 105 <| vk 106 <| vk 107 <| vk 108 <| vk 109 <| vk 110 <| vk 111 <| vv 112 (fun _ _ => op_pick_t (v := .bool true) rfl rfl) <| leaf_q (sub_out 30 _ rfl (by kernel_rfl) ?_)
      refine ⟨congrArg Value.bool ?_, trivial⟩; rw [plantBad_re]; rw [Bool.eq_iff_iff]; simp_all <;> omega
     ·skip
      refine vv 95 (fun _ _ => op_pick_f (v := .bool false) rfl rfl) <| vv 96 (fun _ _ => op_move (v := .bool false) rfl) <| vv 97 (fun _ _ => op_fieldL (m := 9) (k := 9) rfl (by kernel_rfl) rfl) <| vv 98 (fun w1 c1 => op_load rfl (by kernel_rfl) (hcell w1 c1.1.2.2.1).2.2.1) <| wq_dec 99 (by kernel_rfl) (fun w1 c1 => op_gtr rfl rfl) (fun h9 => ?_) (fun h9 => ?_)
      ·skip
       refine vv 100 (fun _ _ => op_pick_f (v := .bool true) rfl rfl) <| vv 101 (fun _ _ => op_move (v := .bool true) rfl) <| vk 102 <| vk 103 <| vk 104 <| vk 105 <| vk 106 <| vk 107 <| vk 108 <| vk 109 <| vk 110 <| vk 111 <| vv 112 (fun _ _ => op_pick_t (v := .bool true) rfl rfl) <| leaf_q (sub_out 30 _ rfl (by kernel_rfl) ?_)
       refine ⟨congrArg Value.bool ?_, trivial⟩; rw [plantBad_re]; rw [Bool.eq_iff_iff]; simp_all <;> omega
      ·skip
       refine vv 100 (fun _ _ => op_pick_f (v := .bool false) rfl rfl) <| vv 101 (fun _ _ => op_move (v := .bool false) rfl) <| vv 102 (fun _ _ => op_move (v := .slice _ _ _) rfl) <| vv 103 (fun w1 c1 => op_indexK (sz := 2) 3 (r := 6) rfl rfl rfl (by kernel_rfl) (by omega) rfl) <| vv 104 (fun w1 c1 => op_loadR [.int .i64 (stk ts 6), .int .i64 (stk ts 7)] rfl (by kernel_rfl) (fun j u hu => by
        match j, hu with
        | 0, hu => exact c1.2.at_ 6 hu
        | 1, hu => exact c1.2.at_ 7 hu)) ?_
       refine vv 105 (fun _ _ => op_fieldL (m := 8) (k := 8) rfl (by kernel_rfl) rfl) <| vv 106 (fun w1 c1 => op_load rfl (by kernel_rfl) (hcell w1 c1.1.2.2.1).2.1) <| vv 107 (fun _ _ => op_fieldL (m := 9) (k := 9) rfl (by kernel_rfl) rfl) <| vv 108 (fun w1 c1 => op_load rfl (by kernel_rfl) (hcell w1 c1.1.2.2.1).2.2.1) <| vv 109 (fun w1 c1 => op_add rfl rfl (by omega)) <| wq_call 110 (by kernel_rfl) (fun w1 c1 => op_call (by kernel_rfl)) (fun w1 c1 => (within_any _ _ _ _).mono fun _ _ ⟨h1, h2⟩ => ⟨h1, by subst h2; exact ⟨c1.1.alloc _, c1.2.alloc _⟩⟩) <| vv 111 (fun w1 c1 => op_not rfl) <| vv 112 (fun _ _ => op_pick_f (v := .bool _) rfl rfl) <| leaf_q (sub_out 30 _ rfl (by kernel_rfl) ?_)
       refine ⟨congrArg Value.bool ?_, trivial⟩; rw [plantBad_re]; rw [Bool.eq_iff_iff]; simp_all <;> omega
  rintro w3 ⟨HS3, hbg3⟩
  obtain ⟨m7c, m8c, m9c, m10c⟩ := hcell w3 HS3.2.2.1
  clear HS2 hbg m7b m8b m9b m10b
  refine wx_next <| wc_cond (by kernel_rfl) rfl (fun h10 => ?_) (fun h10 => ?_)
  ·skip
   have hpb := h10
   refine wc_region <| wv 113 (op_move (v := _) rfl) <| wv 114 (op_build (z := [.int .i64 0, .int .i64 0, .int .i64 0]) (tab := [(0, 1), (1, 1), (2, 1)]) (cs := [.int .i64 _, .int .i64 _, .int .i64 _]) [(0, [.int .i64 _])] (by kernel_rfl) (by kernel_rfl) (fillOk_cons rfl rfl rfl fillOk_nil) rfl) <| wz 115 (op_slice1 (el := 64) (size := 3) (bytes := 24) [.int .i64 _, .int .i64 _, .int .i64 _] (by kernel_rfl) rfl rfl rfl) fun w4 hw4 => wl_pushO 116 ⟨3, 0, 0⟩ (by kernel_rfl) rfl rfl HS3.2.2.2.2 (by have := HS3.2.1; omega) hw4 (by have := outs_le ts ts.length; omega) fun vv w5 ho hg => ?_
   have HSa : RPre w w.heap.size BK (outs ts ts.length).1 ((outs ts ts.length).2 ++ (if plantBad ts ins bins then [⟨3, 0, 0⟩] else [])) vv w5 := by rw [hpb]; exact HS3.push ho hg
   have hbga := (hbg3.alloc _).grown hg (own_blk_ne HS3.2.2.2.2 hbg3 (by decide))
   obtain ⟨m7d, m8d, m9d, m10d⟩ := hcell _ HSa.2.2.1
   clear ho hg hw4 m7c m8c m9c m10c
   refine wv 4 (op_assign (v := _) rfl) <| wl_nil <| wx_next <| wc_seq <| wc_region <| wv 118 (op_fieldL (m := 10) (k := 10) rfl (by kernel_rfl) rfl) <| wv 119 (op_load rfl (by kernel_rfl) (by assumption)) <| wl_call 120 (by kernel_rfl) (op_call (by kernel_rfl)) (baled_any baA cb bs _ (bal_later hB HSa.1)) ?_
   rintro e w6 ⟨rfl, hw6⟩
   subst hw6
   refine ⟨_, rfl, ?_⟩
   refine wv 117 (op_move (v := .tuple _) rfl) <| wv 121 (op_extract rfl rfl) <| wv 122 (op_extract rfl rfl) <| wv 9 (op_assign (v := .int .i64 _) rfl) <| wv 10 (op_assign (v := .bool _) rfl) <| wl_nil <| wx_next <| wc_seq <| wc_seq <| wc_cutS (σ := Unit) (fun _ => [(132, .bool (balesBad ts bs))]) (fun _ wr => RPre w w.heap.size BK (outs ts ts.length).1 ((outs ts ts.length).2 ++ (if plantBad ts ins bins then [⟨3, 0, 0⟩] else [])) vv wr) ?_ ?_
   ·skip
    refine wl_bool 123 (by kernel_rfl) ((op_move (v := .bool _) rfl)) (fun h11 => ?_) (fun h11 => ?_)
    ·skip
     refine wv 124 (op_nott rfl) <| wv 125 (op_move (v := .bool false) rfl) <| wv 126 (op_move (v := .slice _ _ _) rfl) <| wv 127 (op_indexK (sz := 2) 4 (r := 8) rfl rfl rfl (by kernel_rfl) (by omega) rfl) <| wv 128 ((op_loadR [.int .i64 (stk ts 8), .int .i64 (stk ts 9)] rfl (by kernel_rfl) (fun j u hu => by
      match j, hu with
      | 0, hu => exact hbga.at_ 8 hu
      | 1, hu => exact hbga.at_ 9 hu))) ?_
     refine wv 129 (op_move (v := .int .i64 _) rfl) <| wl_call 130 (by kernel_rfl) (op_call (by kernel_rfl)) (within_any _ _ _ _) ?_
     rintro e w8 ⟨rfl, hw8⟩
     have HSc : RPre w w.heap.size BK (outs ts ts.length).1 ((outs ts ts.length).2 ++ (if plantBad ts ins bins then [⟨3, 0, 0⟩] else [])) vv w8 := by rw [← hw8]; exact HSa.alloc _
     clear hw8
     refine ⟨_, rfl, ?_⟩
     refine wv 131 (op_not rfl) <| wv 132 (op_pick_f (v := .bool _) rfl rfl) <| leaf_s () (sub_out 10 _ rfl (by kernel_rfl) ?_) ?_
     ·refine ⟨congrArg Value.bool ?_, trivial⟩
      rw [balesBad_re]; simp_all
     ·first | exact HSc | exact HSa
    ·skip
     refine wv 124 (op_notf rfl) <| wv 125 (op_move (v := .bool true) rfl) <| wk 126 <| wk 127 <| wk 128 <| wk 129 <| wk 130 <| wk 131 <| wv 132 (op_pick_t (v := .bool true) rfl rfl) <| leaf_s () (sub_out 10 _ rfl (by kernel_rfl) ?_) ?_
     ·refine ⟨congrArg Value.bool ?_, trivial⟩
      rw [balesBad_re]; simp_all
     ·first | exact HSc | exact HSa
   rintro _ w7 HS7
   refine wx_next <| wc_cond (by kernel_rfl) rfl (fun h12 => ?_) (fun h12 => ?_)
   ·skip
    have hbb := h12
    refine wc_region <| wv 133 (op_move (v := _) rfl) <| wv 134 (op_build (z := [.int .i64 0, .int .i64 0, .int .i64 0]) (tab := [(0, 1), (1, 1), (2, 1)]) (cs := [.int .i64 _, .int .i64 _, .int .i64 _]) [(0, [.int .i64 _])] (by kernel_rfl) (by kernel_rfl) (fillOk_cons rfl rfl rfl fillOk_nil) rfl) <| wz 135 (op_slice1 (el := 64) (size := 3) (bytes := 24) [.int .i64 _, .int .i64 _, .int .i64 _] (by kernel_rfl) rfl rfl rfl) fun w9 hw9 => wl_pushO 136 ⟨4, 0, 0⟩ (by kernel_rfl) rfl rfl HS7.2.2.2.2 (by have := HS7.2.1; omega) hw9 (by have := outs_le ts ts.length; rw [List.length_append]; split <;> simp <;> omega) fun v9 w10 ho hg => ?_
    have HS8 : RPre w w.heap.size BK (outs ts ts.length).1 ((outs ts ts.length).2 ++ (if plantBad ts ins bins then [⟨3, 0, 0⟩] else []) ++ (if balesBad ts bs then [⟨4, 0, 0⟩] else [])) v9 w10 := by rw [hbb]; exact HS7.push ho hg
    clear ho hg hw9
    refine wv 4 (op_assign (v := _) rfl) <| wl_nil <| wx_next <| wc_seq <| wc_region <| wv 137 (op_move (v := _) rfl) <| wv 2 (op_assign (v := _) rfl) <| wv 3 (op_assign (v := .int .i64 _) rfl) <| wl_nil <| wx_next <| wc_ret <| wx_ret2 rfl (by kernel_rfl) (show _ = _ from rfl) (by kernel_rfl) (show _ = .int .i64 _ from rfl) ?_
    rw [massF_parts]
    exact ⟨_, rfl, HS8.2.2.2.2, HS8.1⟩
   ·skip
    have hbb := h12
    have HS8 : RPre w w.heap.size BK (outs ts ts.length).1 ((outs ts ts.length).2 ++ (if plantBad ts ins bins then [⟨3, 0, 0⟩] else []) ++ (if balesBad ts bs then [⟨4, 0, 0⟩] else [])) vv w7 := by rw [hbb]; simpa using HS7
    refine wc_skip <| wx_next <| wc_seq <| wc_region <| wv 137 (op_move (v := _) rfl) <| wv 2 (op_assign (v := _) rfl) <| wv 3 (op_assign (v := .int .i64 _) rfl) <| wl_nil <| wx_next <| wc_ret <| wx_ret2 rfl (by kernel_rfl) (show _ = _ from rfl) (by kernel_rfl) (show _ = .int .i64 _ from rfl) ?_
    rw [massF_parts]
    exact ⟨_, rfl, HS8.2.2.2.2, HS8.1⟩
  ·skip
   have hpb := h10
   obtain ⟨vv, rfl⟩ : ∃ vv, vv = v := ⟨v, rfl⟩
   have HSa : RPre w w.heap.size BK (outs ts ts.length).1 ((outs ts ts.length).2 ++ (if plantBad ts ins bins then [⟨3, 0, 0⟩] else [])) vv w3 := by rw [hpb]; simpa using HS3
   have hbga := hbg3
   obtain ⟨m7d, m8d, m9d, m10d⟩ := hcell _ HSa.2.2.1
   refine wc_skip <| wx_next <| wc_seq <| wc_region <| wv 118 (op_fieldL (m := 10) (k := 10) rfl (by kernel_rfl) rfl) <| wv 119 (op_load rfl (by kernel_rfl) (by assumption)) <| wl_call 120 (by kernel_rfl) (op_call (by kernel_rfl)) (baled_any baA cb bs _ (bal_later hB HSa.1)) ?_
   rintro e w6 ⟨rfl, hw6⟩
   subst hw6
   refine ⟨_, rfl, ?_⟩
   refine wv 117 (op_move (v := .tuple _) rfl) <| wv 121 (op_extract rfl rfl) <| wv 122 (op_extract rfl rfl) <| wv 9 (op_assign (v := .int .i64 _) rfl) <| wv 10 (op_assign (v := .bool _) rfl) <| wl_nil <| wx_next <| wc_seq <| wc_seq <| wc_cutS (σ := Unit) (fun _ => [(132, .bool (balesBad ts bs))]) (fun _ wr => RPre w w.heap.size BK (outs ts ts.length).1 ((outs ts ts.length).2 ++ (if plantBad ts ins bins then [⟨3, 0, 0⟩] else [])) vv wr) ?_ ?_
   ·skip
    refine wl_bool 123 (by kernel_rfl) ((op_move (v := .bool _) rfl)) (fun h13 => ?_) (fun h13 => ?_)
    ·skip
     refine wv 124 (op_nott rfl) <| wv 125 (op_move (v := .bool false) rfl) <| wv 126 (op_move (v := .slice _ _ _) rfl) <| wv 127 (op_indexK (sz := 2) 4 (r := 8) rfl rfl rfl (by kernel_rfl) (by omega) rfl) <| wv 128 ((op_loadR [.int .i64 (stk ts 8), .int .i64 (stk ts 9)] rfl (by kernel_rfl) (fun j u hu => by
      match j, hu with
      | 0, hu => exact hbga.at_ 8 hu
      | 1, hu => exact hbga.at_ 9 hu))) ?_
     refine wv 129 (op_move (v := .int .i64 _) rfl) <| wl_call 130 (by kernel_rfl) (op_call (by kernel_rfl)) (within_any _ _ _ _) ?_
     rintro e w8 ⟨rfl, hw8⟩
     have HSc : RPre w w.heap.size BK (outs ts ts.length).1 ((outs ts ts.length).2 ++ (if plantBad ts ins bins then [⟨3, 0, 0⟩] else [])) vv w8 := by rw [← hw8]; exact HSa.alloc _
     clear hw8
     refine ⟨_, rfl, ?_⟩
     refine wv 131 (op_not rfl) <| wv 132 (op_pick_f (v := .bool _) rfl rfl) <| leaf_s () (sub_out 10 _ rfl (by kernel_rfl) ?_) ?_
     ·refine ⟨congrArg Value.bool ?_, trivial⟩
      rw [balesBad_re]; simp_all
     ·first | exact HSc | exact HSa
    ·skip
     refine wv 124 (op_notf rfl) <| wv 125 (op_move (v := .bool true) rfl) <| wk 126 <| wk 127 <| wk 128 <| wk 129 <| wk 130 <| wk 131 <| wv 132 (op_pick_t (v := .bool true) rfl rfl) <| leaf_s () (sub_out 10 _ rfl (by kernel_rfl) ?_) ?_
     ·refine ⟨congrArg Value.bool ?_, trivial⟩
      rw [balesBad_re]; simp_all
     ·first | exact HSc | exact HSa
   rintro _ w7 HS7
   refine wx_next <| wc_cond (by kernel_rfl) rfl (fun h14 => ?_) (fun h14 => ?_)
   ·skip
    have hbb := h14
    refine wc_region <| wv 133 (op_move (v := _) rfl) <| wv 134 (op_build (z := [.int .i64 0, .int .i64 0, .int .i64 0]) (tab := [(0, 1), (1, 1), (2, 1)]) (cs := [.int .i64 _, .int .i64 _, .int .i64 _]) [(0, [.int .i64 _])] (by kernel_rfl) (by kernel_rfl) (fillOk_cons rfl rfl rfl fillOk_nil) rfl) <| wz 135 (op_slice1 (el := 64) (size := 3) (bytes := 24) [.int .i64 _, .int .i64 _, .int .i64 _] (by kernel_rfl) rfl rfl rfl) fun w9 hw9 => wl_pushO 136 ⟨4, 0, 0⟩ (by kernel_rfl) rfl rfl HS7.2.2.2.2 (by have := HS7.2.1; omega) hw9 (by have := outs_le ts ts.length; rw [List.length_append]; split <;> simp <;> omega) fun v9 w10 ho hg => ?_
    have HS8 : RPre w w.heap.size BK (outs ts ts.length).1 ((outs ts ts.length).2 ++ (if plantBad ts ins bins then [⟨3, 0, 0⟩] else []) ++ (if balesBad ts bs then [⟨4, 0, 0⟩] else [])) v9 w10 := by rw [hbb]; exact HS7.push ho hg
    clear ho hg hw9
    refine wv 4 (op_assign (v := _) rfl) <| wl_nil <| wx_next <| wc_seq <| wc_region <| wv 137 (op_move (v := _) rfl) <| wv 2 (op_assign (v := _) rfl) <| wv 3 (op_assign (v := .int .i64 _) rfl) <| wl_nil <| wx_next <| wc_ret <| wx_ret2 rfl (by kernel_rfl) (show _ = _ from rfl) (by kernel_rfl) (show _ = .int .i64 _ from rfl) ?_
    rw [massF_parts]
    exact ⟨_, rfl, HS8.2.2.2.2, HS8.1⟩
   ·skip
    have hbb := h14
    have HS8 : RPre w w.heap.size BK (outs ts ts.length).1 ((outs ts ts.length).2 ++ (if plantBad ts ins bins then [⟨3, 0, 0⟩] else []) ++ (if balesBad ts bs then [⟨4, 0, 0⟩] else [])) vv w7 := by rw [hbb]; simpa using HS7
    refine wc_skip <| wx_next <| wc_seq <| wc_region <| wv 137 (op_move (v := _) rfl) <| wv 2 (op_assign (v := _) rfl) <| wv 3 (op_assign (v := .int .i64 _) rfl) <| wl_nil <| wx_next <| wc_ret <| wx_ret2 rfl (by kernel_rfl) (show _ = _ from rfl) (by kernel_rfl) (show _ = .int .i64 _ from rfl) ?_
    rw [massF_parts]
    exact ⟨_, rfl, HS8.2.2.2.2, HS8.1⟩
set_option maxRecDepth 10000 in
theorem massN_full (now hh cc as_ em ta gap ins bins pr sa cl pa co fe bi po : Value) (trA : Option Addr) (trn trc : Nat) (baA : Option Addr) (ban bac : Nat) (w : World) (hfull : 512 < trn ∨ 64 < ban) :
  Calls Tryz.prog 15 #[.agg #[now, hh, cc, as_, em, ta, gap, .slice trA trn trc, ins, bins, .slice baA ban bac, pr, sa, cl, pa, co, fe, bi, po]] w fun e w' => e = .returned (.tuple #[.slice none 0 0, .int .i64 8]) ∧ Below w.heap.size w w' := by
 by_cases q0 : 512 < trn
 ·skip
  refine calls_wc (n := 223) Tryz.func15 rfl rfl (Nat.le_of_ble_eq_true rfl) <| wc_seq <| wc_region <| wz 1 (op_boxA rfl) fun w1 hw1 => ?_
  have hb := Blk.new w 40 [now, hh, cc, as_, em, ta, gap, .slice trA trn trc, ins, bins, .slice baA ban bac, pr, sa, cl, pa, co, fe, bi, po]
  rw [← hw1] at hb
  have c7 := hb.at_ 7 rfl
  have c10 := hb.at_ 10 rfl
  exact wv 2 (op_assign (v := .slice _ _ _) rfl) <| wv 3 (op_assign (v := .int .i64 _) rfl) <| wl_nil <| wx_next <| wc_seq <| wc_seq <| wc_region <| wv 20 (op_fieldL (m := 7) (k := 7) rfl (by kernel_rfl) rfl) <| wv 21 (op_load rfl (by kernel_rfl) (by assumption)) <| wv 22 (op_len rfl (by kernel_rfl)) <| wv 23 (op_t (op_gtr rfl rfl) (by omega)) <| wv 24 (op_move (v := .bool true) rfl) <| wk 25 <| wk 26 <| wk 27 <| wk 28 <| wv 29 (op_pick_t (v := .bool true) rfl rfl) <| wl_nil <| wx_next <| wc_cond_t (by kernel_rfl) rfl <| wc_seq <| wc_region <| wv 2 (op_assign (v := .slice _ _ _) rfl) <| wv 3 (op_assign (v := .int .i64 _) rfl) <| wl_nil <| wx_next <| wc_ret <| wx_thenR <| wx_ret2 rfl (by kernel_rfl) (show _ = .slice _ _ _ from rfl) (by kernel_rfl) (show _ = .int .i64 _ from rfl) <| ⟨rfl, by rw [hw1]; exact (Below.refl _ _).alloc (Nat.le_refl _) _⟩
 refine calls_wc (n := 223) Tryz.func15 rfl rfl (Nat.le_of_ble_eq_true rfl) <| wc_seq <| wc_region <| wz 1 (op_boxA rfl) fun w1 hw1 => ?_
 have hb := Blk.new w 40 [now, hh, cc, as_, em, ta, gap, .slice trA trn trc, ins, bins, .slice baA ban bac, pr, sa, cl, pa, co, fe, bi, po]
 rw [← hw1] at hb
 have c7 := hb.at_ 7 rfl
 have c10 := hb.at_ 10 rfl
 exact wv 2 (op_assign (v := .slice _ _ _) rfl) <| wv 3 (op_assign (v := .int .i64 _) rfl) <| wl_nil <| wx_next <| wc_seq <| wc_seq <| wc_region <| wv 20 (op_fieldL (m := 7) (k := 7) rfl (by kernel_rfl) rfl) <| wv 21 (op_load rfl (by kernel_rfl) (by assumption)) <| wv 22 (op_len rfl (by kernel_rfl)) <| wv 23 (op_f (op_gtr rfl rfl) (by omega)) <| wv 24 (op_move (v := .bool false) rfl) <| wv 25 (op_fieldL (m := 10) (k := 10) rfl (by kernel_rfl) rfl) <| wv 26 (op_load rfl (by kernel_rfl) (by assumption)) <| wv 27 (op_len rfl (by kernel_rfl)) <| wv 28 (op_t (op_gtr rfl rfl) (by omega)) <| wv 29 (op_pick_f (v := .bool true) rfl rfl) <| wl_nil <| wx_next <| wc_cond_t (by kernel_rfl) rfl <| wc_seq <| wc_region <| wv 2 (op_assign (v := .slice _ _ _) rfl) <| wv 3 (op_assign (v := .int .i64 _) rfl) <| wl_nil <| wx_next <| wc_ret <| wx_thenR <| wx_ret2 rfl (by kernel_rfl) (show _ = .slice _ _ _ from rfl) (by kernel_rfl) (show _ = .int .i64 _ from rfl) <| ⟨rfl, by rw [hw1]; exact (Below.refl _ _).alloc (Nat.le_refl _) _⟩
end Go.Proofs.YtbnimhmoffchdaaGreatDoor
