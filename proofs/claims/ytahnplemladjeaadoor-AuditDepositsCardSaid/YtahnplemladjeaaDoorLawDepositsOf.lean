/- The walk of recyclinglaw59.AuditDeposits, from what the two functions return. -/
import Derived.Test.YtahnplemladjeaaDoorLawKit
namespace Go.Proofs.YtahnplemladjeaaDoor
open Go.RowKit

set_option maxRecDepth 10000 in
theorem lawDeposits_of (bk : List Value) (hlen : bk.length = 19) (fs : List Fnd) (er : Int) (w : World) (ht : Tab w) (h1 : ∀ w', Below w.heap.size w w' → Finds 20 bk fs er w') (h2 : ∀ w', Below w.heap.size w w' → Finds 21 bk fs er w') :
    Calls Tryd.prog 7 #[.agg bk.toArray] w fun e w' => e = .returned (.bool true) ∧ Below w.heap.size w w' := by
  refine calls_wc (n := 28) Tryd.func7 rfl rfl (Nat.le_of_ble_eq_true rfl) ?_
  refine wc_seq ?_
  refine wc_region ?_
  refine wl_new 1 (by kernel_rfl) (op_boxA rfl) ?_
  intro w1 hw1
  have hb1 : Below w.heap.size w w1 := by rw [hw1]; exact (Below.refl _ _).alloc (Nat.le_refl _) _
  have hbk : Blk w1 w.heap.size 40 bk := by rw [hw1]; exact Blk.new w _ _
  clear hw1
  refine wl_val 2 (by kernel_rfl) ((op_assign (v := .bool false) rfl)) ?_
  refine wl_nil ?_
  refine wx_next ?_
  refine wc_seq ?_
  refine wc_region ?_
  refine wl_val 8 (by kernel_rfl) ((op_loadR bk rfl (by rw [hlen]; kernel_rfl) (fun j u hu => by simpa using hbk.at_ j hu))) ?_
  refine wl_call 9 (by kernel_rfl) (op_call (by kernel_rfl)) (h1 _ hb1) ?_
  rintro e w2 ⟨v, rfl, hown, hb2⟩
  obtain ⟨vA, vc, rfl⟩ := own_slice hown
  have r1 := (Rd.of_own fnC_len hown).2
  have hbk2 := hbk.below hb2 hbk.lt
  have hb12 := hb1.trans (hb2.mono hb1.size)
  clear hown hbk h1 hb1
  refine ⟨_, rfl, ?_⟩
  refine wl_val 7 (by kernel_rfl) ((op_move (v := .tuple _) rfl)) ?_
  refine wl_val 10 (by kernel_rfl) ((op_extract rfl rfl)) ?_
  refine wl_val 11 (by kernel_rfl) ((op_extract rfl rfl)) ?_
  refine wl_val 3 (by kernel_rfl) ((op_assign (v := .slice _ _ _) rfl)) ?_
  refine wl_val 4 (by kernel_rfl) ((op_assign (v := .int .i64 _) rfl)) ?_
  refine wl_nil ?_
  refine wx_next ?_
  refine wc_seq ?_
  refine wc_region ?_
  refine wl_val 13 (by kernel_rfl) ((op_loadR bk rfl (by rw [hlen]; kernel_rfl) (fun j u hu => by simpa using hbk2.at_ j hu))) ?_
  refine wl_call 14 (by kernel_rfl) (op_call (by kernel_rfl)) (h2 _ hb12) ?_
  rintro e w3 ⟨v, rfl, hown, hb3⟩
  obtain ⟨uA, uc, rfl⟩ := own_slice hown
  have r3 := (Rd.of_own fnC_len hown).2
  have r2 := r1.below hb3
  have hb13 := hb12.trans (hb3.mono hb12.size)
  clear hown hbk2 r1 h2 hb12 hb2 hb3
  refine ⟨_, rfl, ?_⟩
  refine wl_val 12 (by kernel_rfl) ((op_move (v := .tuple _) rfl)) ?_
  refine wl_val 15 (by kernel_rfl) ((op_extract rfl rfl)) ?_
  refine wl_val 16 (by kernel_rfl) ((op_extract rfl rfl)) ?_
  refine wl_val 5 (by kernel_rfl) ((op_assign (v := .slice _ _ _) rfl)) ?_
  refine wl_val 6 (by kernel_rfl) ((op_assign (v := .int .i64 _) rfl)) ?_
  refine wl_nil ?_
  refine wx_next ?_
  refine wc_seq ?_
  refine wc_region ?_
  refine wl_val 17 (by kernel_rfl) ((op_move (v := .int .i64 _) rfl)) ?_
  refine wl_val 18 (by kernel_rfl) ((op_move (v := .int .i64 _) rfl)) ?_
  refine wl_val 19 (by kernel_rfl) (op_t (op_eql rfl rfl) rfl) ?_
  refine wl_val 20 (by kernel_rfl) ((op_move (v := .bool true) rfl)) ?_
  refine wl_val 21 (by kernel_rfl) ((op_move (v := .slice _ _ _) rfl)) ?_
  refine wl_val 22 (by kernel_rfl) ((op_move (v := .slice _ _ _) rfl)) ?_
  refine wl_call 23 (by kernel_rfl) (op_call (by kernel_rfl)) (same_any uA vA uc vc fs _ _ _ r3 r2) ?_
  rintro e w4 ⟨rfl, hb4⟩
  have hb14 := hb13.trans (hb4.mono hb13.size)
  clear r2 r3 hb13 hb4
  refine ⟨_, rfl, ?_⟩
  refine wl_val 24 (by kernel_rfl) ((op_pick_t (v := .bool true) rfl rfl)) ?_
  refine wl_val 25 (by kernel_rfl) ((op_move (v := .bool true) rfl)) ?_
  refine wl_call 26 (by kernel_rfl) (op_call (by kernel_rfl)) (example_any _ (ht.below hb14)) ?_
  rintro e w5 ⟨rfl, hb5⟩
  have hb15 := hb14.trans (hb5.mono hb14.size)
  refine ⟨_, rfl, ?_⟩
  refine wl_val 27 (by kernel_rfl) ((op_pick_t (v := .bool true) rfl rfl)) ?_
  refine wl_val 2 (by kernel_rfl) ((op_assign (v := .bool true) rfl)) ?_
  refine wl_nil ?_
  refine wx_next ?_
  refine wc_ret ?_
  refine wx_ret1 rfl (by kernel_rfl) (show _ = .bool true from rfl) ?_
  exact ⟨rfl, hb15⟩
end Go.Proofs.YtahnplemladjeaaDoor
