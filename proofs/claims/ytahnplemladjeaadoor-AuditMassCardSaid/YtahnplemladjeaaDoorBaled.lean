/- The walk of recyclingref59.baled. -/
import Derived.Test.YtahnplemladjeaaDoorStocks
import Derived.Deep.RegionHeld3
namespace Go.Proofs.YtahnplemladjeaaDoor
open Go.RowKit

theorem accStep_false {a : Int × Bool} (h : a.2 = false) (n : Int) : (accStep a n).2 = false := by simp [accStep, h]
theorem foldl_false (M : List Int) : ∀ a : Int × Bool, a.2 = false → (M.foldl accStep a).2 = false := by
  induction M with
  | nil => intro a h; exact h
  | cons n M ih => intro a h; exact ih _ (accStep_false h n)
theorem acc_app_false (L M : List Int) (h : (acc L).2 = false) : (acc (L ++ M)).2 = false := by
  unfold acc; rw [List.foldl_append]; exact foldl_false M _ h
def baledF (bs : List Bale) : Int × Bool := if (acc (mixes bs)).2 then ((acc (mixes bs)).1, true) else (0, false)
theorem mixes_split {bs : List Bale} {k j : Nat} {x : Bale} (h : bs[k]? = some x) : ∃ M, mixes bs = (mixes (bs.take k) ++ x.mix.take (j + 1)) ++ M := by
  obtain ⟨hl, rfl⟩ := List.getElem?_eq_some_iff.1 h
  refine ⟨(bs[k]).mix.drop (j + 1) ++ mixes (bs.drop (k + 1)), ?_⟩
  have e : bs = bs.take k ++ bs[k] :: bs.drop (k + 1) := by rw [List.getElem_cons_drop, List.take_append_drop]
  have e2 : mixes bs = mixes (bs.take k) ++ ((bs[k]).mix ++ mixes (bs.drop (k + 1))) := by
    refine (congrArg mixes e).trans ?_
    simp only [mixes, List.flatMap_append, List.flatMap_cons]
  rw [e2, List.append_assoc, ← List.append_assoc (List.take (j + 1) _), List.take_append_drop]

theorem stepO_neg {ts : List Tr} {k : Nat} {x : Tr} {o : (Nat → Bool) × List Fnd} (hb : ¬ x.bad = true) (h : x.f ≠ 0 ∧ stk (ts.take (k + 1)) (x.f.toNat * 2 + 1) < 0 ∧ o.1 x.f.toNat = false) : stepO ts k x o = (upd o.1 x.f.toNat true, o.2 ++ [⟨2, x.f, k⟩]) := by
  unfold stepO; rw [if_neg hb, if_pos h]
theorem stepO_not {ts : List Tr} {k : Nat} {x : Tr} {o : (Nat → Bool) × List Fnd} (hb : ¬ x.bad = true) (h : ¬ (x.f ≠ 0 ∧ stk (ts.take (k + 1)) (x.f.toNat * 2 + 1) < 0 ∧ o.1 x.f.toNat = false)) : stepO ts k x o = o := by
  unfold stepO; rw [if_neg hb, if_neg h]
set_option maxHeartbeats 2000000 in
theorem baled_any (baA : Option Addr) (cb : Nat) (bs : List Bale) (w : World) (hB : Rd w w.heap.size 4 (BaR w w.heap.size) baA bs) :
    Calls Tryd.prog 27 #[.slice baA bs.length cb] w fun e w' => e = .returned (.tuple #[.int .i64 (baledF bs).1, .bool (baledF bs).2]) ∧ w = w' := by
  have hbl := hB.1
  go_enter Tryd.func27, Tryd.ntmps27
  go_wp2_with fail
  go_loop [4, 5] (fun s4 s5 => ∃ k : Nat, k ≤ bs.length ∧ s5 = .int .i64 k ∧ s4 = .int .i64 (acc (mixes (bs.take k))).1 ∧ Hid ((acc (mixes (bs.take k))).2 = true)) (fun _ i => bs.length - (intOf i).toNat)
  case atStart => exact ⟨0, Nat.zero_le _, rfl, rfl, rfl⟩
  case round =>
    obtain ⟨k, hk, rfl, rfl, HA⟩ := hrel
    by_cases hlt : k < bs.length
    · obtain ⟨x, hx⟩ := get_of_lt hlt
      obtain ⟨b, off, mA, mc, rfl, hbB, x0, x1, x2, x3, hmix⟩ := ba_cells hB hx
      have HX := Lib.hid hx; clear hx
      have hml := hmix.1
      have HM := Lib.hid hmix; clear hmix
      go_wp2_with fail
      go_loop [4, 6] (fun s4 s6 => ∃ j : Nat, j ≤ x.mix.length ∧ s6 = .int .i64 j ∧ s4 = .int .i64 (acc (mixes (bs.take k) ++ x.mix.take j)).1 ∧ Hid ((acc (mixes (bs.take k) ++ x.mix.take j)).2 = true)) (fun _ i => x.mix.length - (intOf i).toNat)
      case atStart => exact ⟨0, Nat.zero_le _, rfl, by simp, by simpa [Hid] using HA⟩
      case round =>
        obtain ⟨j, hj, rfl, rfl, HR⟩ := hrel
        by_cases hjl : j < x.mix.length
        · obtain ⟨n, hn⟩ := get_of_lt hjl
          obtain ⟨mb, mo, rfl, hmB, y0⟩ := int_cell HM.out hn
          have HS := Lib.hid (acc_in (L := mixes (bs.take k)) hn); clear hn
          obtain ⟨s, hs⟩ : ∃ s, s = (acc (mixes (bs.take k) ++ x.mix.take j)).1 := ⟨_, rfl⟩
          rw [← hs]
          have HS1 := Lib.hid hs; clear hs
          by_cases a1 : n < 0
          · have b1 : decide (n < 0) = true := by simpa using a1
            have HF : Hid (baledF bs = (0, false)) := by
              obtain ⟨M, e⟩ := mixes_split (j := j) HX.out
              unfold baledF
              rw [e, acc_app_false _ _ (by rw [HS.out]; simp [accStep]; omega)]; rfl
            go_wp2_with fail
            go_ret2
            rw [HF.out]
            exact ⟨rfl, rfl⟩
          · by_cases a2 : 1073741824 < n
            · have b1 : decide (n < 0) = false := by simpa using a1
              have b2 : decide (1073741824 < n) = true := by simpa using a2
              have HF : Hid (baledF bs = (0, false)) := by
                obtain ⟨M, e⟩ := mixes_split (j := j) HX.out
                unfold baledF
                rw [e, acc_app_false _ _ (by rw [HS.out]; simp [accStep]; omega)]; rfl
              go_wp2_with fail
              go_ret2
              rw [HF.out]
              exact ⟨rfl, rfl⟩
            · have b1 : decide (n < 0) = false := by simpa using a1
              have b2 : decide (1073741824 < n) = false := by simpa using a2
              have HV : Hid (accStep (acc (mixes (bs.take k) ++ x.mix.take j)) n = (wrap64 (s + n), true)) := by
                unfold Hid accStep; rw [HR.out, ← HS1.out]; simp [show 0 ≤ n by omega, show n ≤ 1073741824 by omega]
              go_wp2_with fail
              go_round
              case rel => exact ⟨j + 1, by omega, by go_num, by rw [HS.out, HV.out], by first | exact trivial | (unfold Hid; rw [HS.out, HV.out])⟩
              case measure => simp [intOf]; omega
        · obtain rfl : j = x.mix.length := by omega
          have HA2 := Lib.hid (acc_out HX.out)
          go_wp2_with fail
          refine ⟨⟨k + 1, by omega, by go_num, by rw [HA2.out], by first | exact trivial | (unfold Hid; rw [HA2.out]; exact HR.out)⟩, by simp [intOf]; omega⟩
    · obtain rfl : k = bs.length := by omega
      rw [List.take_length] at HA ⊢
      have HF : Hid (baledF bs = ((acc (mixes bs)).1, true)) := by unfold baledF; rw [HA.out]; rfl
      go_wp2_with fail
      go_ret2
      rw [HF.out]
      exact ⟨rfl, rfl⟩

end Go.Proofs.YtahnplemladjeaaDoor
