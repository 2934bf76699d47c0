/- Fees at lists that are too long. -/
import Derived.Test.YtahnplemladjeaaDoorRefSt
namespace Go.Proofs.YtahnplemladjeaaDoor
open Go.RowKit

set_option maxRecDepth 10000 in
theorem refFees_full (now hh cc as_ em ta gap tr ins bins ba pr sa cl pa bi po : Value) (coA : Option Addr) (con coc : Nat) (feA : Option Addr) (fen fec : Nat) (w : World) (hfull : 16 < con ∨ 512 < fen) :
    Calls Tryd.prog 18 #[.agg #[now, hh, cc, as_, em, ta, gap, tr, ins, bins, ba, pr, sa, cl, pa, .slice coA con coc, .slice feA fen fec, bi, po]] w fun e w' => e = .returned (.tuple #[.slice none 0 0, .int .i64 8]) ∧ Below w.heap.size w w' := by
  by_cases q0 : 16 < con
  · skip
    refine calls_wc (n := 120) Tryd.func18 rfl rfl (Nat.le_of_ble_eq_true rfl) ?_
    refine wc_seq ?_
    refine wc_region ?_
    refine wl_new 1 (by kernel_rfl) (op_boxA rfl) ?_
    intro w1 hw1
    have hb := Blk.new w 40 [now, hh, cc, as_, em, ta, gap, tr, ins, bins, ba, pr, sa, cl, pa, .slice coA con coc, .slice feA fen fec, bi, po]
    rw [← hw1] at hb
    have c15 := hb.at_ 15 rfl
    have c16 := hb.at_ 16 rfl
    refine wl_val 2 (by kernel_rfl) ((op_assign (v := .slice _ _ _) rfl)) ?_
    refine wl_val 3 (by kernel_rfl) ((op_assign (v := .int .i64 _) rfl)) ?_
    refine wl_nil ?_
    refine wx_next ?_
    refine wc_seq ?_
    refine wc_seq ?_
    refine wc_region ?_
    refine wl_val 10 (by kernel_rfl) ((op_fieldL (m := 15) (k := 15) rfl (by kernel_rfl) rfl)) ?_
    refine wl_val 11 (by kernel_rfl) ((op_load rfl (by kernel_rfl) (by assumption))) ?_
    refine wl_val 12 (by kernel_rfl) ((op_len rfl (by kernel_rfl))) ?_
    refine wl_val 13 (by kernel_rfl) (op_t (op_gtr rfl rfl) (by omega)) ?_
    refine wl_val 14 (by kernel_rfl) ((op_move (v := .bool true) rfl)) ?_
    refine wl_skip 15 (by kernel_rfl) ?_
    refine wl_skip 16 (by kernel_rfl) ?_
    refine wl_skip 17 (by kernel_rfl) ?_
    refine wl_skip 18 (by kernel_rfl) ?_
    refine wl_val 19 (by kernel_rfl) ((op_pick_t (v := .bool true) rfl rfl)) ?_
    refine wl_nil ?_
    refine wx_next ?_
    refine wc_cond_t (by kernel_rfl) rfl ?_
    refine wc_seq ?_
    refine wc_region ?_
    refine wl_val 2 (by kernel_rfl) ((op_assign (v := .slice _ _ _) rfl)) ?_
    refine wl_val 3 (by kernel_rfl) ((op_assign (v := .int .i64 _) rfl)) ?_
    refine wl_nil ?_
    refine wx_next ?_
    refine wc_ret ?_
    refine wx_thenR ?_
    refine wx_ret2 rfl (by kernel_rfl) (show _ = .slice _ _ _ from rfl) (by kernel_rfl) (show _ = .int .i64 _ from rfl) ?_
    exact ⟨rfl, by rw [hw1]; exact (Below.refl _ _).alloc (Nat.le_refl _) _⟩
  refine calls_wc (n := 120) Tryd.func18 rfl rfl (Nat.le_of_ble_eq_true rfl) ?_
  refine wc_seq ?_
  refine wc_region ?_
  refine wl_new 1 (by kernel_rfl) (op_boxA rfl) ?_
  intro w1 hw1
  have hb := Blk.new w 40 [now, hh, cc, as_, em, ta, gap, tr, ins, bins, ba, pr, sa, cl, pa, .slice coA con coc, .slice feA fen fec, bi, po]
  rw [← hw1] at hb
  have c15 := hb.at_ 15 rfl
  have c16 := hb.at_ 16 rfl
  refine wl_val 2 (by kernel_rfl) ((op_assign (v := .slice _ _ _) rfl)) ?_
  refine wl_val 3 (by kernel_rfl) ((op_assign (v := .int .i64 _) rfl)) ?_
  refine wl_nil ?_
  refine wx_next ?_
  refine wc_seq ?_
  refine wc_seq ?_
  refine wc_region ?_
  refine wl_val 10 (by kernel_rfl) ((op_fieldL (m := 15) (k := 15) rfl (by kernel_rfl) rfl)) ?_
  refine wl_val 11 (by kernel_rfl) ((op_load rfl (by kernel_rfl) (by assumption))) ?_
  refine wl_val 12 (by kernel_rfl) ((op_len rfl (by kernel_rfl))) ?_
  refine wl_val 13 (by kernel_rfl) (op_f (op_gtr rfl rfl) (by omega)) ?_
  refine wl_val 14 (by kernel_rfl) ((op_move (v := .bool false) rfl)) ?_
  refine wl_val 15 (by kernel_rfl) ((op_fieldL (m := 16) (k := 16) rfl (by kernel_rfl) rfl)) ?_
  refine wl_val 16 (by kernel_rfl) ((op_load rfl (by kernel_rfl) (by assumption))) ?_
  refine wl_val 17 (by kernel_rfl) ((op_len rfl (by kernel_rfl))) ?_
  refine wl_val 18 (by kernel_rfl) (op_t (op_gtr rfl rfl) (by omega)) ?_
  refine wl_val 19 (by kernel_rfl) ((op_pick_f (v := .bool true) rfl rfl)) ?_
  refine wl_nil ?_
  refine wx_next ?_
  refine wc_cond_t (by kernel_rfl) rfl ?_
  refine wc_seq ?_
  refine wc_region ?_
  refine wl_val 2 (by kernel_rfl) ((op_assign (v := .slice _ _ _) rfl)) ?_
  refine wl_val 3 (by kernel_rfl) ((op_assign (v := .int .i64 _) rfl)) ?_
  refine wl_nil ?_
  refine wx_next ?_
  refine wc_ret ?_
  refine wx_thenR ?_
  refine wx_ret2 rfl (by kernel_rfl) (show _ = .slice _ _ _ from rfl) (by kernel_rfl) (show _ = .int .i64 _ from rfl) ?_
  exact ⟨rfl, by rw [hw1]; exact (Below.refl _ _).alloc (Nat.le_refl _) _⟩
set_option maxRecDepth 10000 in
theorem fees_full (now hh cc as_ em ta gap tr ins bins ba pr sa cl pa bi po : Value) (coA : Option Addr) (con coc : Nat) (feA : Option Addr) (fen fec : Nat) (w : World) (hfull : 16 < con ∨ 512 < fen) :
    Calls Tryd.prog 19 #[.agg #[now, hh, cc, as_, em, ta, gap, tr, ins, bins, ba, pr, sa, cl, pa, .slice coA con coc, .slice feA fen fec, bi, po]] w fun e w' => e = .returned (.tuple #[.slice none 0 0, .int .i64 8]) ∧ Below w.heap.size w w' := by
  by_cases q0 : 16 < con
  · skip
    refine calls_wc (n := 96) Tryd.func19 rfl rfl (Nat.le_of_ble_eq_true rfl) ?_
    refine wc_seq ?_
    refine wc_region ?_
    refine wl_new 1 (by kernel_rfl) (op_boxA rfl) ?_
    intro w1 hw1
    have hb := Blk.new w 40 [now, hh, cc, as_, em, ta, gap, tr, ins, bins, ba, pr, sa, cl, pa, .slice coA con coc, .slice feA fen fec, bi, po]
    rw [← hw1] at hb
    have c15 := hb.at_ 15 rfl
    have c16 := hb.at_ 16 rfl
    refine wl_val 2 (by kernel_rfl) ((op_assign (v := .slice _ _ _) rfl)) ?_
    refine wl_val 3 (by kernel_rfl) ((op_assign (v := .int .i64 _) rfl)) ?_
    refine wl_nil ?_
    refine wx_next ?_
    refine wc_seq ?_
    refine wc_seq ?_
    refine wc_region ?_
    refine wl_val 14 (by kernel_rfl) ((op_fieldL (m := 15) (k := 15) rfl (by kernel_rfl) rfl)) ?_
    refine wl_val 15 (by kernel_rfl) ((op_load rfl (by kernel_rfl) (by assumption))) ?_
    refine wl_val 16 (by kernel_rfl) ((op_len rfl (by kernel_rfl))) ?_
    refine wl_val 17 (by kernel_rfl) (op_t (op_gtr rfl rfl) (by omega)) ?_
    refine wl_val 18 (by kernel_rfl) ((op_move (v := .bool true) rfl)) ?_
    refine wl_skip 19 (by kernel_rfl) ?_
    refine wl_skip 20 (by kernel_rfl) ?_
    refine wl_skip 21 (by kernel_rfl) ?_
    refine wl_skip 22 (by kernel_rfl) ?_
    refine wl_val 23 (by kernel_rfl) ((op_pick_t (v := .bool true) rfl rfl)) ?_
    refine wl_nil ?_
    refine wx_next ?_
    refine wc_cond_t (by kernel_rfl) rfl ?_
    refine wc_seq ?_
    refine wc_region ?_
    refine wl_val 2 (by kernel_rfl) ((op_assign (v := .slice _ _ _) rfl)) ?_
    refine wl_val 3 (by kernel_rfl) ((op_assign (v := .int .i64 _) rfl)) ?_
    refine wl_nil ?_
    refine wx_next ?_
    refine wc_ret ?_
    refine wx_thenR ?_
    refine wx_ret2 rfl (by kernel_rfl) (show _ = .slice _ _ _ from rfl) (by kernel_rfl) (show _ = .int .i64 _ from rfl) ?_
    exact ⟨rfl, by rw [hw1]; exact (Below.refl _ _).alloc (Nat.le_refl _) _⟩
  refine calls_wc (n := 96) Tryd.func19 rfl rfl (Nat.le_of_ble_eq_true rfl) ?_
  refine wc_seq ?_
  refine wc_region ?_
  refine wl_new 1 (by kernel_rfl) (op_boxA rfl) ?_
  intro w1 hw1
  have hb := Blk.new w 40 [now, hh, cc, as_, em, ta, gap, tr, ins, bins, ba, pr, sa, cl, pa, .slice coA con coc, .slice feA fen fec, bi, po]
  rw [← hw1] at hb
  have c15 := hb.at_ 15 rfl
  have c16 := hb.at_ 16 rfl
  refine wl_val 2 (by kernel_rfl) ((op_assign (v := .slice _ _ _) rfl)) ?_
  refine wl_val 3 (by kernel_rfl) ((op_assign (v := .int .i64 _) rfl)) ?_
  refine wl_nil ?_
  refine wx_next ?_
  refine wc_seq ?_
  refine wc_seq ?_
  refine wc_region ?_
  refine wl_val 14 (by kernel_rfl) ((op_fieldL (m := 15) (k := 15) rfl (by kernel_rfl) rfl)) ?_
  refine wl_val 15 (by kernel_rfl) ((op_load rfl (by kernel_rfl) (by assumption))) ?_
  refine wl_val 16 (by kernel_rfl) ((op_len rfl (by kernel_rfl))) ?_
  refine wl_val 17 (by kernel_rfl) (op_f (op_gtr rfl rfl) (by omega)) ?_
  refine wl_val 18 (by kernel_rfl) ((op_move (v := .bool false) rfl)) ?_
  refine wl_val 19 (by kernel_rfl) ((op_fieldL (m := 16) (k := 16) rfl (by kernel_rfl) rfl)) ?_
  refine wl_val 20 (by kernel_rfl) ((op_load rfl (by kernel_rfl) (by assumption))) ?_
  refine wl_val 21 (by kernel_rfl) ((op_len rfl (by kernel_rfl))) ?_
  refine wl_val 22 (by kernel_rfl) (op_t (op_gtr rfl rfl) (by omega)) ?_
  refine wl_val 23 (by kernel_rfl) ((op_pick_f (v := .bool true) rfl rfl)) ?_
  refine wl_nil ?_
  refine wx_next ?_
  refine wc_cond_t (by kernel_rfl) rfl ?_
  refine wc_seq ?_
  refine wc_region ?_
  refine wl_val 2 (by kernel_rfl) ((op_assign (v := .slice _ _ _) rfl)) ?_
  refine wl_val 3 (by kernel_rfl) ((op_assign (v := .int .i64 _) rfl)) ?_
  refine wl_nil ?_
  refine wx_next ?_
  refine wc_ret ?_
  refine wx_thenR ?_
  refine wx_ret2 rfl (by kernel_rfl) (show _ = .slice _ _ _ from rfl) (by kernel_rfl) (show _ = .int .i64 _ from rfl) ?_
  exact ⟨rfl, by rw [hw1]; exact (Below.refl _ _).alloc (Nat.le_refl _) _⟩
end Go.Proofs.YtahnplemladjeaaDoor
