/- The walks of the two checks of a posting. -/
import Derived.Test.YtahnplemladjeaaDoorMoneyPlain
namespace Go.Proofs.YtahnplemladjeaaDoor
open Go.RowKit

set_option maxRecDepth 10000 in
theorem refCheck_any (p : Pst) (A : Option Addr) (c : Nat) (w : World) (hL : Rd w w.heap.size 2 LnR A p.lines) :
    Calls Tryd.prog 38 #[.agg #[.int .i64 p.id, .int .i64 p.at_, .slice A p.lines.length c]] w fun e w' => e = .returned (.int .i64 (checkF p)) ∧ Below w.heap.size w w' := by
  refine calls_wc (n := 85) Tryd.func38 rfl rfl (Nat.le_of_ble_eq_true rfl) ?_
  refine wc_seq ?_
  refine wc_region ?_
  refine wl_new 1 (by kernel_rfl) (op_boxA rfl) ?_
  intro w1 hw1
  have hblk : Blk w1 w.heap.size 97 [.int .i64 p.id, .int .i64 p.at_, .slice A p.lines.length c] := by rw [hw1]; exact Blk.new w _ _
  have hb1 : Below w.heap.size w w1 := by rw [hw1]; exact (Below.refl _ _).alloc (Nat.le_refl _) _
  have c0 := hblk.at_ 0 rfl
  have c1 := hblk.at_ 1 rfl
  have c2 := hblk.at_ 2 rfl
  clear hw1
  refine wl_val 2 (by kernel_rfl) ((op_assign (v := .int .i64 _) rfl)) ?_
  refine wl_nil ?_
  refine wx_next ?_
  refine wc_seq ?_
  refine wc_seq ?_
  refine wc_cutE [(24, .bool (headBad p))] ?_ ?_
  · skip
    refine wl_val 7 (by kernel_rfl) ((op_fieldL (m := 0) (k := 0) rfl (by kernel_rfl) rfl)) ?_
    refine wl_val 8 (by kernel_rfl) ((op_load rfl (by kernel_rfl) (by assumption))) ?_
    refine wl_dec 9 (by kernel_rfl) ((op_lss rfl rfl)) (fun h1 => ?_) (fun h1 => ?_)
    · skip
      refine wl_val 10 (by kernel_rfl) ((op_move (v := .bool true) rfl)) ?_
      refine wl_skip 11 (by kernel_rfl) ?_
      refine wl_skip 12 (by kernel_rfl) ?_
      refine wl_skip 13 (by kernel_rfl) ?_
      refine wl_val 14 (by kernel_rfl) ((op_pick_t (v := .bool true) rfl rfl)) ?_
      refine wl_val 15 (by kernel_rfl) ((op_move (v := .bool true) rfl)) ?_
      refine wl_skip 16 (by kernel_rfl) ?_
      refine wl_skip 17 (by kernel_rfl) ?_
      refine wl_skip 18 (by kernel_rfl) ?_
      refine wl_val 19 (by kernel_rfl) ((op_pick_t (v := .bool true) rfl rfl)) ?_
      refine wl_val 20 (by kernel_rfl) ((op_move (v := .bool true) rfl)) ?_
      refine wl_skip 21 (by kernel_rfl) ?_
      refine wl_skip 22 (by kernel_rfl) ?_
      refine wl_skip 23 (by kernel_rfl) ?_
      refine wl_val 24 (by kernel_rfl) ((op_pick_t (v := .bool true) rfl rfl)) ?_
      refine leaf_e (sub_out 18 _ rfl (by kernel_rfl) ?_)
      refine ⟨congrArg Value.bool ?_, trivial⟩; rw [Bool.eq_iff_iff]; simp [headBad] <;> omega
    · skip
      refine wl_val 10 (by kernel_rfl) ((op_move (v := .bool false) rfl)) ?_
      refine wl_val 11 (by kernel_rfl) ((op_fieldL (m := 0) (k := 0) rfl (by kernel_rfl) rfl)) ?_
      refine wl_val 12 (by kernel_rfl) ((op_load rfl (by kernel_rfl) (by assumption))) ?_
      refine wl_dec 13 (by kernel_rfl) ((op_gtr rfl rfl)) (fun h2 => ?_) (fun h2 => ?_)
      · skip
        refine wl_val 14 (by kernel_rfl) ((op_pick_f (v := .bool true) rfl rfl)) ?_
        refine wl_val 15 (by kernel_rfl) ((op_move (v := .bool true) rfl)) ?_
        refine wl_skip 16 (by kernel_rfl) ?_
        refine wl_skip 17 (by kernel_rfl) ?_
        refine wl_skip 18 (by kernel_rfl) ?_
        refine wl_val 19 (by kernel_rfl) ((op_pick_t (v := .bool true) rfl rfl)) ?_
        refine wl_val 20 (by kernel_rfl) ((op_move (v := .bool true) rfl)) ?_
        refine wl_skip 21 (by kernel_rfl) ?_
        refine wl_skip 22 (by kernel_rfl) ?_
        refine wl_skip 23 (by kernel_rfl) ?_
        refine wl_val 24 (by kernel_rfl) ((op_pick_t (v := .bool true) rfl rfl)) ?_
        refine leaf_e (sub_out 18 _ rfl (by kernel_rfl) ?_)
        refine ⟨congrArg Value.bool ?_, trivial⟩; rw [Bool.eq_iff_iff]; simp [headBad] <;> omega
      · skip
        refine wl_val 14 (by kernel_rfl) ((op_pick_f (v := .bool false) rfl rfl)) ?_
        refine wl_val 15 (by kernel_rfl) ((op_move (v := .bool false) rfl)) ?_
        refine wl_val 16 (by kernel_rfl) ((op_fieldL (m := 1) (k := 1) rfl (by kernel_rfl) rfl)) ?_
        refine wl_val 17 (by kernel_rfl) ((op_load rfl (by kernel_rfl) (by assumption))) ?_
        refine wl_dec 18 (by kernel_rfl) ((op_lss rfl rfl)) (fun h3 => ?_) (fun h3 => ?_)
        · skip
          refine wl_val 19 (by kernel_rfl) ((op_pick_f (v := .bool true) rfl rfl)) ?_
          refine wl_val 20 (by kernel_rfl) ((op_move (v := .bool true) rfl)) ?_
          refine wl_skip 21 (by kernel_rfl) ?_
          refine wl_skip 22 (by kernel_rfl) ?_
          refine wl_skip 23 (by kernel_rfl) ?_
          refine wl_val 24 (by kernel_rfl) ((op_pick_t (v := .bool true) rfl rfl)) ?_
          refine leaf_e (sub_out 18 _ rfl (by kernel_rfl) ?_)
          refine ⟨congrArg Value.bool ?_, trivial⟩; rw [Bool.eq_iff_iff]; simp [headBad] <;> omega
        · skip
          refine wl_val 19 (by kernel_rfl) ((op_pick_f (v := .bool false) rfl rfl)) ?_
          refine wl_val 20 (by kernel_rfl) ((op_move (v := .bool false) rfl)) ?_
          refine wl_val 21 (by kernel_rfl) ((op_fieldL (m := 1) (k := 1) rfl (by kernel_rfl) rfl)) ?_
          refine wl_val 22 (by kernel_rfl) ((op_load rfl (by kernel_rfl) (by assumption))) ?_
          refine wl_val 23 (by kernel_rfl) ((op_gtr rfl rfl)) ?_
          refine wl_val 24 (by kernel_rfl) ((op_pick_f (v := .bool _) rfl rfl)) ?_
          refine leaf_e (sub_out 18 _ rfl (by kernel_rfl) ?_)
          refine ⟨congrArg Value.bool ?_, trivial⟩; rw [Bool.eq_iff_iff]; simp [headBad] <;> omega
  refine wx_next ?_
  refine wc_cond (by kernel_rfl) rfl (fun h4 => ?_) (fun h4 => ?_)
  · skip
    have hh := h4
    refine wc_seq ?_
    refine wc_region ?_
    refine wl_val 2 (by kernel_rfl) ((op_assign (v := .int .i64 _) rfl)) ?_
    refine wl_nil ?_
    refine wx_next ?_
    refine wc_ret ?_
    refine wx_thenR ?_
    refine wx_ret1 rfl (by kernel_rfl) (show _ = .int .i64 _ from rfl) ?_
    first | exact ⟨ret_int (by simp [checkF, *]), hb1⟩ | exact ⟨ret_int (by simp [checkF, *]), hb2⟩
  · skip
    have hh := h4
    refine wc_skip ?_
    refine wx_next ?_
    refine wc_seq ?_
    refine wc_seq ?_
    refine wc_region ?_
    refine wl_val 25 (by kernel_rfl) ((op_fieldL (m := 2) (k := 2) rfl (by kernel_rfl) rfl)) ?_
    refine wl_val 26 (by kernel_rfl) ((op_load rfl (by kernel_rfl) (by assumption))) ?_
    refine wl_val 27 (by kernel_rfl) ((op_len rfl (by kernel_rfl))) ?_
    refine wl_val 28 (by kernel_rfl) ((op_gtr rfl rfl)) ?_
    refine wl_nil ?_
    refine wx_next ?_
    refine wc_cond (by kernel_rfl) rfl (fun h5 => ?_) (fun h5 => ?_)
    · skip
      have h16 : 16 < p.lines.length := by have := of_decide_eq_true h5; omega
      refine wc_seq ?_
      refine wc_region ?_
      refine wl_val 2 (by kernel_rfl) ((op_assign (v := .int .i64 _) rfl)) ?_
      refine wl_nil ?_
      refine wx_next ?_
      refine wc_ret ?_
      refine wx_thenR ?_
      refine wx_ret1 rfl (by kernel_rfl) (show _ = .int .i64 _ from rfl) ?_
      first | exact ⟨ret_int (by simp [checkF, *]), hb1⟩ | exact ⟨ret_int (by simp [checkF, *]), hb2⟩
    · skip
      have h16 : ¬ 16 < p.lines.length := by have := of_decide_eq_false h5; omega
      refine wc_skip ?_
      refine wx_next ?_
      refine wc_seq ?_
      refine wc_seq ?_
      refine wc_region ?_
      refine wl_val 29 (by kernel_rfl) ((op_fieldL (m := 2) (k := 2) rfl (by kernel_rfl) rfl)) ?_
      refine wl_val 30 (by kernel_rfl) ((op_load rfl (by kernel_rfl) (by assumption))) ?_
      refine wl_val 31 (by kernel_rfl) ((op_len rfl (by kernel_rfl))) ?_
      refine wl_val 32 (by kernel_rfl) ((op_lss rfl rfl)) ?_
      refine wl_nil ?_
      refine wx_next ?_
      refine wc_cond (by kernel_rfl) rfl (fun h6 => ?_) (fun h6 => ?_)
      · skip
        have h2 : p.lines.length < 2 := by have := of_decide_eq_true h6; omega
        refine wc_seq ?_
        refine wc_region ?_
        refine wl_val 2 (by kernel_rfl) ((op_assign (v := .int .i64 _) rfl)) ?_
        refine wl_nil ?_
        refine wx_next ?_
        refine wc_ret ?_
        refine wx_thenR ?_
        refine wx_ret1 rfl (by kernel_rfl) (show _ = .int .i64 _ from rfl) ?_
        first | exact ⟨ret_int (by simp [checkF, *]), hb1⟩ | exact ⟨ret_int (by simp [checkF, *]), hb2⟩
      · skip
        have h2 : ¬ p.lines.length < 2 := by have := of_decide_eq_false h6; omega
        refine wc_skip ?_
        refine wx_next ?_
        refine wc_seq ?_
        refine wc_seq ?_
        refine wc_region ?_
        refine wl_val 3 (by kernel_rfl) ((op_assign (v := .int .i64 _) rfl)) ?_
        refine wl_nil ?_
        refine wx_next ?_
        refine wc_block ?_
        refine wc_loop (σ := Nat) (fun k => [(1, .pointer (some ⟨w.heap.size, 0, none⟩)), (3, .int .i64 k)]) (fun k wr => k ≤ p.lines.length ∧ (∀ y ∈ p.lines.take k, lineOk y = true) ∧ Below w.heap.size w wr ∧ Blk wr w.heap.size 97 [.int .i64 p.id, .int .i64 p.at_, .slice A p.lines.length c]) (fun k => p.lines.length - k) 0 ?_ ?_ ?_
        · exact (sub_cons (by kernel_rfl) rfl (sub_cons (by kernel_rfl) rfl sub_nil))
        · exact ⟨Nat.zero_le _, by simp, hb1, hblk⟩
        intro k w1 hs
        clear c0 c1 c2 hblk hb1
        obtain ⟨hk, hok, hb1, hblk⟩ := hs
        have c2 := hblk.at_ 2 rfl
        refine wc_seq ?_
        refine wc_seq ?_
        refine wc_region ?_
        refine wl_val 33 (by kernel_rfl) ((op_move (v := .int .i64 _) rfl)) ?_
        refine wl_val 34 (by kernel_rfl) ((op_fieldL (m := 2) (k := 2) rfl (by kernel_rfl) rfl)) ?_
        refine wl_val 35 (by kernel_rfl) ((op_load rfl (by kernel_rfl) (by assumption))) ?_
        refine wl_val 36 (by kernel_rfl) ((op_len rfl (by kernel_rfl))) ?_
        refine wl_val 37 (by kernel_rfl) ((op_lss rfl rfl)) ?_
        refine wl_nil ?_
        refine wx_next ?_
        refine wc_cond (by kernel_rfl) rfl (fun h7 => ?_) (fun h7 => ?_)
        · skip
          have hlt : k < p.lines.length := by simpa using h7
          obtain ⟨x, hx⟩ := get_of_lt hlt
          obtain ⟨b, off, rfl, _, hrow⟩ := ln_at (hL.below hb1) hx
          refine wc_skip ?_
          refine wx_next ?_
          refine wc_seq ?_
          refine wc_block ?_
          refine wc_seq ?_
          refine wc_region ?_
          refine wl_val 40 (by kernel_rfl) ((op_fieldL (m := 2) (k := 2) rfl (by kernel_rfl) rfl)) ?_
          refine wl_val 41 (by kernel_rfl) ((op_load rfl (by kernel_rfl) (by assumption))) ?_
          refine wl_val 42 (by kernel_rfl) ((op_move (v := .int .i64 _) rfl)) ?_
          refine wl_val 43 (by kernel_rfl) ((op_index (sz := 2) rfl rfl (by kernel_rfl) (by omega))) ?_
          refine wl_val 44 (by kernel_rfl) ((op_loadR (lnC x) rfl (by kernel_rfl) hrow)) ?_
          refine wl_run 4 (by kernel_rfl) (op_alloc (v := .agg #[.int .i64 0, .int .i64 0]) [.int .i64 0, .int .i64 0] (by kernel_rfl) rfl) ?_
          refine wl_donew (by kernel_rfl) (op_fill _ (lnC x) rfl rfl (by kernel_rfl) rfl rfl) ?_
          intro w2 hw2
          have hb2 : Below w.heap.size w w2 := by rw [hw2]; exact hb1.alloc hb1.size _
          have hblk2 := hblk.alloc (.cells (lnC x).toArray 105)
          rw [← hw2] at hblk2
          have hbx : Blk w2 w1.heap.size 105 (lnC x) := by rw [hw2]; exact Blk.new w1 _ _
          have d0 := hbx.at_ 0 rfl
          have d1 := hbx.at_ 1 rfl
          clear hw2
          refine wl_nil ?_
          refine wx_next ?_
          refine wc_seq ?_
          refine wc_cutE [(67, .bool (!lineOk x))] ?_ ?_
          · skip
            refine wl_val 45 (by kernel_rfl) ((op_fieldL (m := 0) (k := 0) rfl (by kernel_rfl) rfl)) ?_
            refine wl_val 46 (by kernel_rfl) ((op_load rfl (by kernel_rfl) (by assumption))) ?_
            refine wl_dec 47 (by kernel_rfl) ((op_lss rfl rfl)) (fun h8 => ?_) (fun h8 => ?_)
            · skip
              refine wl_val 48 (by kernel_rfl) ((op_move (v := .bool true) rfl)) ?_
              refine wl_skip 49 (by kernel_rfl) ?_
              refine wl_skip 50 (by kernel_rfl) ?_
              refine wl_skip 51 (by kernel_rfl) ?_
              refine wl_val 52 (by kernel_rfl) ((op_pick_t (v := .bool true) rfl rfl)) ?_
              refine wl_val 53 (by kernel_rfl) ((op_move (v := .bool true) rfl)) ?_
              refine wl_skip 54 (by kernel_rfl) ?_
              refine wl_skip 55 (by kernel_rfl) ?_
              refine wl_skip 56 (by kernel_rfl) ?_
              refine wl_val 57 (by kernel_rfl) ((op_pick_t (v := .bool true) rfl rfl)) ?_
              refine wl_val 58 (by kernel_rfl) ((op_move (v := .bool true) rfl)) ?_
              refine wl_skip 59 (by kernel_rfl) ?_
              refine wl_skip 60 (by kernel_rfl) ?_
              refine wl_skip 61 (by kernel_rfl) ?_
              refine wl_val 62 (by kernel_rfl) ((op_pick_t (v := .bool true) rfl rfl)) ?_
              refine wl_val 63 (by kernel_rfl) ((op_move (v := .bool true) rfl)) ?_
              refine wl_skip 64 (by kernel_rfl) ?_
              refine wl_skip 65 (by kernel_rfl) ?_
              refine wl_skip 66 (by kernel_rfl) ?_
              refine wl_val 67 (by kernel_rfl) ((op_pick_t (v := .bool true) rfl rfl)) ?_
              refine leaf_e (sub_out 23 _ rfl (by kernel_rfl) ?_)
              refine ⟨congrArg Value.bool ?_, trivial⟩; rw [Bool.eq_iff_iff]; simp [lineOk] <;> omega
            · skip
              refine wl_val 48 (by kernel_rfl) ((op_move (v := .bool false) rfl)) ?_
              refine wl_val 49 (by kernel_rfl) ((op_fieldL (m := 0) (k := 0) rfl (by kernel_rfl) rfl)) ?_
              refine wl_val 50 (by kernel_rfl) ((op_load rfl (by kernel_rfl) (by assumption))) ?_
              refine wl_dec 51 (by kernel_rfl) ((op_gtr rfl rfl)) (fun h9 => ?_) (fun h9 => ?_)
              · skip
                refine wl_val 52 (by kernel_rfl) ((op_pick_f (v := .bool true) rfl rfl)) ?_
                refine wl_val 53 (by kernel_rfl) ((op_move (v := .bool true) rfl)) ?_
                refine wl_skip 54 (by kernel_rfl) ?_
                refine wl_skip 55 (by kernel_rfl) ?_
                refine wl_skip 56 (by kernel_rfl) ?_
                refine wl_val 57 (by kernel_rfl) ((op_pick_t (v := .bool true) rfl rfl)) ?_
                refine wl_val 58 (by kernel_rfl) ((op_move (v := .bool true) rfl)) ?_
                refine wl_skip 59 (by kernel_rfl) ?_
                refine wl_skip 60 (by kernel_rfl) ?_
                refine wl_skip 61 (by kernel_rfl) ?_
                refine wl_val 62 (by kernel_rfl) ((op_pick_t (v := .bool true) rfl rfl)) ?_
                refine wl_val 63 (by kernel_rfl) ((op_move (v := .bool true) rfl)) ?_
                refine wl_skip 64 (by kernel_rfl) ?_
                refine wl_skip 65 (by kernel_rfl) ?_
                refine wl_skip 66 (by kernel_rfl) ?_
                refine wl_val 67 (by kernel_rfl) ((op_pick_t (v := .bool true) rfl rfl)) ?_
                refine leaf_e (sub_out 23 _ rfl (by kernel_rfl) ?_)
                refine ⟨congrArg Value.bool ?_, trivial⟩; rw [Bool.eq_iff_iff]; simp [lineOk] <;> omega
              · skip
                refine wl_val 52 (by kernel_rfl) ((op_pick_f (v := .bool false) rfl rfl)) ?_
                refine wl_val 53 (by kernel_rfl) ((op_move (v := .bool false) rfl)) ?_
                refine wl_val 54 (by kernel_rfl) ((op_fieldL (m := 1) (k := 1) rfl (by kernel_rfl) rfl)) ?_
                refine wl_val 55 (by kernel_rfl) ((op_load rfl (by kernel_rfl) (by assumption))) ?_
                refine wl_dec 56 (by kernel_rfl) ((op_eql rfl rfl)) (fun h10 => ?_) (fun h10 => ?_)
                · skip
                  refine wl_val 57 (by kernel_rfl) ((op_pick_f (v := .bool true) rfl rfl)) ?_
                  refine wl_val 58 (by kernel_rfl) ((op_move (v := .bool true) rfl)) ?_
                  refine wl_skip 59 (by kernel_rfl) ?_
                  refine wl_skip 60 (by kernel_rfl) ?_
                  refine wl_skip 61 (by kernel_rfl) ?_
                  refine wl_val 62 (by kernel_rfl) ((op_pick_t (v := .bool true) rfl rfl)) ?_
                  refine wl_val 63 (by kernel_rfl) ((op_move (v := .bool true) rfl)) ?_
                  refine wl_skip 64 (by kernel_rfl) ?_
                  refine wl_skip 65 (by kernel_rfl) ?_
                  refine wl_skip 66 (by kernel_rfl) ?_
                  refine wl_val 67 (by kernel_rfl) ((op_pick_t (v := .bool true) rfl rfl)) ?_
                  refine leaf_e (sub_out 23 _ rfl (by kernel_rfl) ?_)
                  refine ⟨congrArg Value.bool ?_, trivial⟩; rw [Bool.eq_iff_iff]; simp [lineOk] <;> omega
                · skip
                  refine wl_val 57 (by kernel_rfl) ((op_pick_f (v := .bool false) rfl rfl)) ?_
                  refine wl_val 58 (by kernel_rfl) ((op_move (v := .bool false) rfl)) ?_
                  refine wl_val 59 (by kernel_rfl) ((op_fieldL (m := 1) (k := 1) rfl (by kernel_rfl) rfl)) ?_
                  refine wl_val 60 (by kernel_rfl) ((op_load rfl (by kernel_rfl) (by assumption))) ?_
                  refine wl_dec 61 (by kernel_rfl) ((op_lss rfl rfl)) (fun h11 => ?_) (fun h11 => ?_)
                  · skip
                    refine wl_val 62 (by kernel_rfl) ((op_pick_f (v := .bool true) rfl rfl)) ?_
                    refine wl_val 63 (by kernel_rfl) ((op_move (v := .bool true) rfl)) ?_
                    refine wl_skip 64 (by kernel_rfl) ?_
                    refine wl_skip 65 (by kernel_rfl) ?_
                    refine wl_skip 66 (by kernel_rfl) ?_
                    refine wl_val 67 (by kernel_rfl) ((op_pick_t (v := .bool true) rfl rfl)) ?_
                    refine leaf_e (sub_out 23 _ rfl (by kernel_rfl) ?_)
                    refine ⟨congrArg Value.bool ?_, trivial⟩; rw [Bool.eq_iff_iff]; simp [lineOk] <;> omega
                  · skip
                    refine wl_val 62 (by kernel_rfl) ((op_pick_f (v := .bool false) rfl rfl)) ?_
                    refine wl_val 63 (by kernel_rfl) ((op_move (v := .bool false) rfl)) ?_
                    refine wl_val 64 (by kernel_rfl) ((op_fieldL (m := 1) (k := 1) rfl (by kernel_rfl) rfl)) ?_
                    refine wl_val 65 (by kernel_rfl) ((op_load rfl (by kernel_rfl) (by assumption))) ?_
                    refine wl_val 66 (by kernel_rfl) ((op_gtr rfl rfl)) ?_
                    refine wl_val 67 (by kernel_rfl) ((op_pick_f (v := .bool _) rfl rfl)) ?_
                    refine leaf_e (sub_out 23 _ rfl (by kernel_rfl) ?_)
                    refine ⟨congrArg Value.bool ?_, trivial⟩; rw [Bool.eq_iff_iff]; simp [lineOk] <;> omega
          refine wx_next ?_
          refine wc_cond (by kernel_rfl) rfl (fun h12 => ?_) (fun h12 => ?_)
          · skip
            have hl : lineOk x = false := by simpa using h12
            have hna := not_all hx hl
            refine wc_seq ?_
            refine wc_region ?_
            refine wl_val 2 (by kernel_rfl) ((op_assign (v := .int .i64 _) rfl)) ?_
            refine wl_nil ?_
            refine wx_next ?_
            refine wc_ret ?_
            refine wx_inR ?_
            refine wx_thenR ?_
            refine wx_thenR ?_
            refine wx_inR ?_
            refine wx_thenR ?_
            refine wx_ret1 rfl (by kernel_rfl) (show _ = .int .i64 _ from rfl) ?_
            first | exact ⟨ret_int (by simp [checkF, *]), hb1⟩ | exact ⟨ret_int (by simp [checkF, *]), hb2⟩
          · skip
            have hl : lineOk x = true := by simpa using h12
            refine wc_skip ?_
            refine wx_inN ?_
            refine wx_next ?_
            refine wc_region ?_
            refine wl_val 38 (by kernel_rfl) ((op_move (v := .int .i64 _) rfl)) ?_
            refine wl_val 39 (by kernel_rfl) ((op_add rfl rfl (by omega))) ?_
            refine wl_val 3 (by kernel_rfl) ((op_assign (v := .int .i64 _) rfl)) ?_
            refine wl_nil ?_
            refine wx_round (k + 1) (sub_cons (by kernel_rfl) rfl (sub_cons (by kernel_rfl) rfl sub_nil)) ⟨hlt, take_ok hok hx hl, hb2, hblk2⟩ (by omega)
        · skip
          have hge : k = p.lines.length := by have := of_decide_eq_false h7; omega
          subst hge
          rw [List.take_length] at hok
          have hall : p.lines.all lineOk = true := List.all_eq_true.2 hok
          refine wc_exit ?_
          refine wx_thenE ?_
          refine wx_thenE ?_
          refine wx_here ?_
          refine wx_next ?_
          refine wc_seq ?_
          refine wc_region ?_
          refine wl_val 5 (by kernel_rfl) ((op_assign (v := .int .i64 _) rfl)) ?_
          refine wl_nil ?_
          refine wx_next ?_
          refine wc_seq ?_
          refine wc_seq ?_
          refine wc_region ?_
          refine wl_val 6 (by kernel_rfl) ((op_assign (v := .int .i64 _) rfl)) ?_
          refine wl_nil ?_
          refine wx_next ?_
          refine wc_block ?_
          refine wc_loop (σ := Nat) (fun k => [(1, .pointer (some ⟨w.heap.size, 0, none⟩)), (5, .int .i64 (sumL (p.lines.take k))), (6, .int .i64 k)]) (fun k wr => k ≤ p.lines.length ∧ wr = w1) (fun k => p.lines.length - k) 0 ?_ ?_ ?_
          · exact (sub_cons (by kernel_rfl) rfl (sub_cons (by kernel_rfl) rfl (sub_cons (by kernel_rfl) rfl sub_nil)))
          · exact ⟨Nat.zero_le _, rfl⟩
          intro k w2 hs
          obtain ⟨hk, rfl⟩ := hs
          have hbd := sumL_bd (p.lines.take k) (fun y hy => hok y (List.mem_of_mem_take hy))
          have htl : (p.lines.take k).length ≤ 16 := by simp; omega
          refine wc_seq ?_
          refine wc_seq ?_
          refine wc_region ?_
          refine wl_val 68 (by kernel_rfl) ((op_move (v := .int .i64 _) rfl)) ?_
          refine wl_val 69 (by kernel_rfl) ((op_fieldL (m := 2) (k := 2) rfl (by kernel_rfl) rfl)) ?_
          refine wl_val 70 (by kernel_rfl) ((op_load rfl (by kernel_rfl) (by assumption))) ?_
          refine wl_val 71 (by kernel_rfl) ((op_len rfl (by kernel_rfl))) ?_
          refine wl_val 72 (by kernel_rfl) ((op_lss rfl rfl)) ?_
          refine wl_nil ?_
          refine wx_next ?_
          refine wc_cond (by kernel_rfl) rfl (fun h13 => ?_) (fun h13 => ?_)
          · skip
            have hlt : k < p.lines.length := by simpa using h13
            obtain ⟨x, hx⟩ := get_of_lt hlt
            obtain ⟨b, off, rfl, y1, hrow⟩ := ln_at (hL.below hb1) hx
            have hlx : lineOk x = true := hok x (List.mem_of_getElem? hx)
            simp [lineOk] at hlx
            refine wc_skip ?_
            refine wx_next ?_
            refine wc_seq ?_
            refine wc_block ?_
            refine wc_region ?_
            refine wl_val 75 (by kernel_rfl) ((op_move (v := .int .i64 _) rfl)) ?_
            refine wl_val 76 (by kernel_rfl) ((op_fieldL (m := 2) (k := 2) rfl (by kernel_rfl) rfl)) ?_
            refine wl_val 77 (by kernel_rfl) ((op_load rfl (by kernel_rfl) (by assumption))) ?_
            refine wl_val 78 (by kernel_rfl) ((op_move (v := .int .i64 _) rfl)) ?_
            refine wl_val 79 (by kernel_rfl) ((op_index (sz := 2) rfl rfl (by kernel_rfl) (by omega))) ?_
            refine wl_val 80 (by kernel_rfl) ((op_field (m := 1) rfl (by kernel_rfl))) ?_
            refine wl_val 81 (by kernel_rfl) ((op_load rfl (by kernel_rfl) (by assumption))) ?_
            refine wl_val 82 (by kernel_rfl) ((op_add rfl rfl (by omega))) ?_
            refine wl_val 5 (by kernel_rfl) ((op_assign (v := .int .i64 _) rfl)) ?_
            refine wl_nil ?_
            refine wx_inN ?_
            refine wx_next ?_
            refine wc_region ?_
            refine wl_val 73 (by kernel_rfl) ((op_move (v := .int .i64 _) rfl)) ?_
            refine wl_val 74 (by kernel_rfl) ((op_add rfl rfl (by omega))) ?_
            refine wl_val 6 (by kernel_rfl) ((op_assign (v := .int .i64 _) rfl)) ?_
            refine wl_nil ?_
            refine wx_round (k + 1) (sub_cons (by kernel_rfl) rfl (sub_cons (by kernel_rfl) (by rw [sumL_in hx]; rfl) (sub_cons (by kernel_rfl) rfl sub_nil))) ⟨hlt, rfl⟩ (by omega)
          · skip
            have hge : k = p.lines.length := by have := of_decide_eq_false h13; omega
            subst hge
            rw [List.take_length]
            refine wc_exit ?_
            refine wx_thenE ?_
            refine wx_thenE ?_
            refine wx_here ?_
            refine wx_next ?_
            refine wc_seq ?_
            refine wc_seq ?_
            refine wc_region ?_
            refine wl_val 83 (by kernel_rfl) ((op_move (v := .int .i64 _) rfl)) ?_
            refine wl_val 84 (by kernel_rfl) ((op_neq rfl rfl)) ?_
            refine wl_nil ?_
            refine wx_next ?_
            refine wc_cond (by kernel_rfl) rfl (fun h14 => ?_) (fun h14 => ?_)
            · skip
              have hz := of_decide_eq_true h14
              refine wc_seq ?_
              refine wc_region ?_
              refine wl_val 2 (by kernel_rfl) ((op_assign (v := .int .i64 _) rfl)) ?_
              refine wl_nil ?_
              refine wx_next ?_
              refine wc_ret ?_
              refine wx_thenR ?_
              refine wx_ret1 rfl (by kernel_rfl) (show _ = .int .i64 _ from rfl) ?_
              first | exact ⟨ret_int (by simp [checkF, *]), hb1⟩ | exact ⟨ret_int (by simp [checkF, *]), hb2⟩
            · skip
              have hz : sumL p.lines = 0 := by have := of_decide_eq_false h14; omega
              refine wc_skip ?_
              refine wx_next ?_
              refine wc_seq ?_
              refine wc_region ?_
              refine wl_val 2 (by kernel_rfl) ((op_assign (v := .int .i64 _) rfl)) ?_
              refine wl_nil ?_
              refine wx_next ?_
              refine wc_ret ?_
              refine wx_ret1 rfl (by kernel_rfl) (show _ = .int .i64 _ from rfl) ?_
              first | exact ⟨ret_int (by simp [checkF, *]), hb1⟩ | exact ⟨ret_int (by simp [checkF, *]), hb2⟩
theorem line_any (x : Ln) (w : World) : Calls Tryd.prog 49 #[.agg (lnC x).toArray] w fun e w' => e = .returned (.bool (lineOk x)) ∧ Below w.heap.size w w' := by
  refine calls_wc (n := 26) Tryd.func49 rfl rfl (Nat.le_of_ble_eq_true rfl) ?_
  refine wc_seq ?_
  refine wc_region ?_
  refine wl_new 1 (by kernel_rfl) (op_boxA rfl) ?_
  intro w1 hw1
  have hblk : Blk w1 w.heap.size 105 (lnC x) := by rw [hw1]; exact Blk.new w _ _
  have hb1 : Below w.heap.size w w1 := by rw [hw1]; exact (Below.refl _ _).alloc (Nat.le_refl _) _
  have c0 := hblk.at_ 0 rfl
  have c1 := hblk.at_ 1 rfl
  clear hw1
  refine wl_val 2 (by kernel_rfl) ((op_assign (v := .bool false) rfl)) ?_
  refine wl_nil ?_
  refine wx_next ?_
  refine wc_seq ?_
  refine wc_cutE [(2, .bool (lineOk x))] ?_ ?_
  · skip
    refine wl_val 3 (by kernel_rfl) ((op_fieldL (m := 0) (k := 0) rfl (by kernel_rfl) rfl)) ?_
    refine wl_val 4 (by kernel_rfl) ((op_load rfl (by kernel_rfl) (by assumption))) ?_
    refine wl_dec 5 (by kernel_rfl) ((op_geq rfl rfl)) (fun h1 => ?_) (fun h1 => ?_)
    · skip
      refine wl_val 6 (by kernel_rfl) ((op_move (v := .bool true) rfl)) ?_
      refine wl_val 7 (by kernel_rfl) ((op_fieldL (m := 0) (k := 0) rfl (by kernel_rfl) rfl)) ?_
      refine wl_val 8 (by kernel_rfl) ((op_load rfl (by kernel_rfl) (by assumption))) ?_
      refine wl_dec 9 (by kernel_rfl) ((op_leq rfl rfl)) (fun h2 => ?_) (fun h2 => ?_)
      · skip
        refine wl_val 10 (by kernel_rfl) ((op_pick_t (v := .bool true) rfl rfl)) ?_
        refine wl_val 11 (by kernel_rfl) ((op_move (v := .bool true) rfl)) ?_
        refine wl_val 12 (by kernel_rfl) ((op_fieldL (m := 1) (k := 1) rfl (by kernel_rfl) rfl)) ?_
        refine wl_val 13 (by kernel_rfl) ((op_load rfl (by kernel_rfl) (by assumption))) ?_
        refine wl_dec 14 (by kernel_rfl) ((op_neq rfl rfl)) (fun h3 => ?_) (fun h3 => ?_)
        · skip
          refine wl_val 15 (by kernel_rfl) ((op_pick_t (v := .bool true) rfl rfl)) ?_
          refine wl_val 16 (by kernel_rfl) ((op_move (v := .bool true) rfl)) ?_
          refine wl_val 17 (by kernel_rfl) ((op_fieldL (m := 1) (k := 1) rfl (by kernel_rfl) rfl)) ?_
          refine wl_val 18 (by kernel_rfl) ((op_load rfl (by kernel_rfl) (by assumption))) ?_
          refine wl_dec 19 (by kernel_rfl) ((op_geq rfl rfl)) (fun h4 => ?_) (fun h4 => ?_)
          · skip
            refine wl_val 20 (by kernel_rfl) ((op_pick_t (v := .bool true) rfl rfl)) ?_
            refine wl_val 21 (by kernel_rfl) ((op_move (v := .bool true) rfl)) ?_
            refine wl_val 22 (by kernel_rfl) ((op_fieldL (m := 1) (k := 1) rfl (by kernel_rfl) rfl)) ?_
            refine wl_val 23 (by kernel_rfl) ((op_load rfl (by kernel_rfl) (by assumption))) ?_
            refine wl_val 24 (by kernel_rfl) ((op_leq rfl rfl)) ?_
            refine wl_val 25 (by kernel_rfl) ((op_pick_t (v := .bool _) rfl rfl)) ?_
            refine wl_val 2 (by kernel_rfl) ((op_assign (v := .bool _) rfl)) ?_
            refine leaf_e (sub_out 24 _ rfl (by kernel_rfl) ?_)
            refine ⟨congrArg Value.bool ?_, trivial⟩; rw [Bool.eq_iff_iff]; simp [lineOk] <;> omega
          · skip
            refine wl_val 20 (by kernel_rfl) ((op_pick_t (v := .bool false) rfl rfl)) ?_
            refine wl_val 21 (by kernel_rfl) ((op_move (v := .bool false) rfl)) ?_
            refine wl_skip 22 (by kernel_rfl) ?_
            refine wl_skip 23 (by kernel_rfl) ?_
            refine wl_skip 24 (by kernel_rfl) ?_
            refine wl_val 25 (by kernel_rfl) ((op_pick_f (v := .bool false) rfl rfl)) ?_
            refine wl_val 2 (by kernel_rfl) ((op_assign (v := .bool false) rfl)) ?_
            refine leaf_e (sub_out 24 _ rfl (by kernel_rfl) ?_)
            refine ⟨congrArg Value.bool ?_, trivial⟩; rw [Bool.eq_iff_iff]; simp [lineOk] <;> omega
        · skip
          refine wl_val 15 (by kernel_rfl) ((op_pick_t (v := .bool false) rfl rfl)) ?_
          refine wl_val 16 (by kernel_rfl) ((op_move (v := .bool false) rfl)) ?_
          refine wl_skip 17 (by kernel_rfl) ?_
          refine wl_skip 18 (by kernel_rfl) ?_
          refine wl_skip 19 (by kernel_rfl) ?_
          refine wl_val 20 (by kernel_rfl) ((op_pick_f (v := .bool false) rfl rfl)) ?_
          refine wl_val 21 (by kernel_rfl) ((op_move (v := .bool false) rfl)) ?_
          refine wl_skip 22 (by kernel_rfl) ?_
          refine wl_skip 23 (by kernel_rfl) ?_
          refine wl_skip 24 (by kernel_rfl) ?_
          refine wl_val 25 (by kernel_rfl) ((op_pick_f (v := .bool false) rfl rfl)) ?_
          refine wl_val 2 (by kernel_rfl) ((op_assign (v := .bool false) rfl)) ?_
          refine leaf_e (sub_out 24 _ rfl (by kernel_rfl) ?_)
          refine ⟨congrArg Value.bool ?_, trivial⟩; rw [Bool.eq_iff_iff]; simp [lineOk] <;> omega
      · skip
        refine wl_val 10 (by kernel_rfl) ((op_pick_t (v := .bool false) rfl rfl)) ?_
        refine wl_val 11 (by kernel_rfl) ((op_move (v := .bool false) rfl)) ?_
        refine wl_skip 12 (by kernel_rfl) ?_
        refine wl_skip 13 (by kernel_rfl) ?_
        refine wl_skip 14 (by kernel_rfl) ?_
        refine wl_val 15 (by kernel_rfl) ((op_pick_f (v := .bool false) rfl rfl)) ?_
        refine wl_val 16 (by kernel_rfl) ((op_move (v := .bool false) rfl)) ?_
        refine wl_skip 17 (by kernel_rfl) ?_
        refine wl_skip 18 (by kernel_rfl) ?_
        refine wl_skip 19 (by kernel_rfl) ?_
        refine wl_val 20 (by kernel_rfl) ((op_pick_f (v := .bool false) rfl rfl)) ?_
        refine wl_val 21 (by kernel_rfl) ((op_move (v := .bool false) rfl)) ?_
        refine wl_skip 22 (by kernel_rfl) ?_
        refine wl_skip 23 (by kernel_rfl) ?_
        refine wl_skip 24 (by kernel_rfl) ?_
        refine wl_val 25 (by kernel_rfl) ((op_pick_f (v := .bool false) rfl rfl)) ?_
        refine wl_val 2 (by kernel_rfl) ((op_assign (v := .bool false) rfl)) ?_
        refine leaf_e (sub_out 24 _ rfl (by kernel_rfl) ?_)
        refine ⟨congrArg Value.bool ?_, trivial⟩; rw [Bool.eq_iff_iff]; simp [lineOk] <;> omega
    · skip
      refine wl_val 6 (by kernel_rfl) ((op_move (v := .bool false) rfl)) ?_
      refine wl_skip 7 (by kernel_rfl) ?_
      refine wl_skip 8 (by kernel_rfl) ?_
      refine wl_skip 9 (by kernel_rfl) ?_
      refine wl_val 10 (by kernel_rfl) ((op_pick_f (v := .bool false) rfl rfl)) ?_
      refine wl_val 11 (by kernel_rfl) ((op_move (v := .bool false) rfl)) ?_
      refine wl_skip 12 (by kernel_rfl) ?_
      refine wl_skip 13 (by kernel_rfl) ?_
      refine wl_skip 14 (by kernel_rfl) ?_
      refine wl_val 15 (by kernel_rfl) ((op_pick_f (v := .bool false) rfl rfl)) ?_
      refine wl_val 16 (by kernel_rfl) ((op_move (v := .bool false) rfl)) ?_
      refine wl_skip 17 (by kernel_rfl) ?_
      refine wl_skip 18 (by kernel_rfl) ?_
      refine wl_skip 19 (by kernel_rfl) ?_
      refine wl_val 20 (by kernel_rfl) ((op_pick_f (v := .bool false) rfl rfl)) ?_
      refine wl_val 21 (by kernel_rfl) ((op_move (v := .bool false) rfl)) ?_
      refine wl_skip 22 (by kernel_rfl) ?_
      refine wl_skip 23 (by kernel_rfl) ?_
      refine wl_skip 24 (by kernel_rfl) ?_
      refine wl_val 25 (by kernel_rfl) ((op_pick_f (v := .bool false) rfl rfl)) ?_
      refine wl_val 2 (by kernel_rfl) ((op_assign (v := .bool false) rfl)) ?_
      refine leaf_e (sub_out 24 _ rfl (by kernel_rfl) ?_)
      refine ⟨congrArg Value.bool ?_, trivial⟩; rw [Bool.eq_iff_iff]; simp [lineOk] <;> omega
  refine wx_next ?_
  refine wc_ret ?_
  refine wx_ret1 rfl (by kernel_rfl) (show _ = .bool _ from rfl) ?_
  exact ⟨rfl, hb1⟩
set_option maxRecDepth 10000 in
theorem check_any (p : Pst) (A : Option Addr) (c : Nat) (w : World) (hL : Rd w w.heap.size 2 LnR A p.lines) :
    Calls Tryd.prog 39 #[.agg #[.int .i64 p.id, .int .i64 p.at_, .slice A p.lines.length c]] w fun e w' => e = .returned (.int .i64 (checkF p)) ∧ Below w.heap.size w w' := by
  refine calls_wc (n := 49) Tryd.func39 rfl rfl (Nat.le_of_ble_eq_true rfl) ?_
  refine wc_seq ?_
  refine wc_region ?_
  refine wl_new 1 (by kernel_rfl) (op_boxA rfl) ?_
  intro w1 hw1
  have hblk : Blk w1 w.heap.size 97 [.int .i64 p.id, .int .i64 p.at_, .slice A p.lines.length c] := by rw [hw1]; exact Blk.new w _ _
  have hb1 : Below w.heap.size w w1 := by rw [hw1]; exact (Below.refl _ _).alloc (Nat.le_refl _) _
  have c0 := hblk.at_ 0 rfl
  have c1 := hblk.at_ 1 rfl
  have c2 := hblk.at_ 2 rfl
  clear hw1
  refine wl_val 2 (by kernel_rfl) ((op_assign (v := .int .i64 _) rfl)) ?_
  refine wl_nil ?_
  refine wx_next ?_
  refine wc_seq ?_
  refine wc_seq ?_
  refine wc_cutE [(23, .bool (headBad p))] ?_ ?_
  · skip
    refine wl_val 6 (by kernel_rfl) ((op_fieldL (m := 0) (k := 0) rfl (by kernel_rfl) rfl)) ?_
    refine wl_val 7 (by kernel_rfl) ((op_load rfl (by kernel_rfl) (by assumption))) ?_
    refine wl_dec 8 (by kernel_rfl) ((op_lss rfl rfl)) (fun h1 => ?_) (fun h1 => ?_)
    · skip
      refine wl_val 9 (by kernel_rfl) ((op_move (v := .bool true) rfl)) ?_
      refine wl_skip 10 (by kernel_rfl) ?_
      refine wl_skip 11 (by kernel_rfl) ?_
      refine wl_skip 12 (by kernel_rfl) ?_
      refine wl_val 13 (by kernel_rfl) ((op_pick_t (v := .bool true) rfl rfl)) ?_
      refine wl_val 14 (by kernel_rfl) ((op_move (v := .bool true) rfl)) ?_
      refine wl_skip 15 (by kernel_rfl) ?_
      refine wl_skip 16 (by kernel_rfl) ?_
      refine wl_skip 17 (by kernel_rfl) ?_
      refine wl_val 18 (by kernel_rfl) ((op_pick_t (v := .bool true) rfl rfl)) ?_
      refine wl_val 19 (by kernel_rfl) ((op_move (v := .bool true) rfl)) ?_
      refine wl_skip 20 (by kernel_rfl) ?_
      refine wl_skip 21 (by kernel_rfl) ?_
      refine wl_skip 22 (by kernel_rfl) ?_
      refine wl_val 23 (by kernel_rfl) ((op_pick_t (v := .bool true) rfl rfl)) ?_
      refine leaf_e (sub_out 18 _ rfl (by kernel_rfl) ?_)
      refine ⟨congrArg Value.bool ?_, trivial⟩; rw [Bool.eq_iff_iff]; simp [headBad] <;> omega
    · skip
      refine wl_val 9 (by kernel_rfl) ((op_move (v := .bool false) rfl)) ?_
      refine wl_val 10 (by kernel_rfl) ((op_fieldL (m := 0) (k := 0) rfl (by kernel_rfl) rfl)) ?_
      refine wl_val 11 (by kernel_rfl) ((op_load rfl (by kernel_rfl) (by assumption))) ?_
      refine wl_dec 12 (by kernel_rfl) ((op_gtr rfl rfl)) (fun h2 => ?_) (fun h2 => ?_)
      · skip
        refine wl_val 13 (by kernel_rfl) ((op_pick_f (v := .bool true) rfl rfl)) ?_
        refine wl_val 14 (by kernel_rfl) ((op_move (v := .bool true) rfl)) ?_
        refine wl_skip 15 (by kernel_rfl) ?_
        refine wl_skip 16 (by kernel_rfl) ?_
        refine wl_skip 17 (by kernel_rfl) ?_
        refine wl_val 18 (by kernel_rfl) ((op_pick_t (v := .bool true) rfl rfl)) ?_
        refine wl_val 19 (by kernel_rfl) ((op_move (v := .bool true) rfl)) ?_
        refine wl_skip 20 (by kernel_rfl) ?_
        refine wl_skip 21 (by kernel_rfl) ?_
        refine wl_skip 22 (by kernel_rfl) ?_
        refine wl_val 23 (by kernel_rfl) ((op_pick_t (v := .bool true) rfl rfl)) ?_
        refine leaf_e (sub_out 18 _ rfl (by kernel_rfl) ?_)
        refine ⟨congrArg Value.bool ?_, trivial⟩; rw [Bool.eq_iff_iff]; simp [headBad] <;> omega
      · skip
        refine wl_val 13 (by kernel_rfl) ((op_pick_f (v := .bool false) rfl rfl)) ?_
        refine wl_val 14 (by kernel_rfl) ((op_move (v := .bool false) rfl)) ?_
        refine wl_val 15 (by kernel_rfl) ((op_fieldL (m := 1) (k := 1) rfl (by kernel_rfl) rfl)) ?_
        refine wl_val 16 (by kernel_rfl) ((op_load rfl (by kernel_rfl) (by assumption))) ?_
        refine wl_dec 17 (by kernel_rfl) ((op_lss rfl rfl)) (fun h3 => ?_) (fun h3 => ?_)
        · skip
          refine wl_val 18 (by kernel_rfl) ((op_pick_f (v := .bool true) rfl rfl)) ?_
          refine wl_val 19 (by kernel_rfl) ((op_move (v := .bool true) rfl)) ?_
          refine wl_skip 20 (by kernel_rfl) ?_
          refine wl_skip 21 (by kernel_rfl) ?_
          refine wl_skip 22 (by kernel_rfl) ?_
          refine wl_val 23 (by kernel_rfl) ((op_pick_t (v := .bool true) rfl rfl)) ?_
          refine leaf_e (sub_out 18 _ rfl (by kernel_rfl) ?_)
          refine ⟨congrArg Value.bool ?_, trivial⟩; rw [Bool.eq_iff_iff]; simp [headBad] <;> omega
        · skip
          refine wl_val 18 (by kernel_rfl) ((op_pick_f (v := .bool false) rfl rfl)) ?_
          refine wl_val 19 (by kernel_rfl) ((op_move (v := .bool false) rfl)) ?_
          refine wl_val 20 (by kernel_rfl) ((op_fieldL (m := 1) (k := 1) rfl (by kernel_rfl) rfl)) ?_
          refine wl_val 21 (by kernel_rfl) ((op_load rfl (by kernel_rfl) (by assumption))) ?_
          refine wl_val 22 (by kernel_rfl) ((op_gtr rfl rfl)) ?_
          refine wl_val 23 (by kernel_rfl) ((op_pick_f (v := .bool _) rfl rfl)) ?_
          refine leaf_e (sub_out 18 _ rfl (by kernel_rfl) ?_)
          refine ⟨congrArg Value.bool ?_, trivial⟩; rw [Bool.eq_iff_iff]; simp [headBad] <;> omega
  refine wx_next ?_
  refine wc_cond (by kernel_rfl) rfl (fun h4 => ?_) (fun h4 => ?_)
  · skip
    have hh := h4
    refine wc_seq ?_
    refine wc_region ?_
    refine wl_val 2 (by kernel_rfl) ((op_assign (v := .int .i64 _) rfl)) ?_
    refine wl_nil ?_
    refine wx_next ?_
    refine wc_ret ?_
    refine wx_thenR ?_
    refine wx_ret1 rfl (by kernel_rfl) (show _ = .int .i64 _ from rfl) ?_
    first | exact ⟨ret_int (by simp [checkF, *]), hb1⟩ | exact ⟨ret_int (by simp [checkF, *]), hb3⟩
  · skip
    have hh := h4
    refine wc_skip ?_
    refine wx_next ?_
    refine wc_seq ?_
    refine wc_seq ?_
    refine wc_region ?_
    refine wl_val 24 (by kernel_rfl) ((op_fieldL (m := 2) (k := 2) rfl (by kernel_rfl) rfl)) ?_
    refine wl_val 25 (by kernel_rfl) ((op_load rfl (by kernel_rfl) (by assumption))) ?_
    refine wl_val 26 (by kernel_rfl) ((op_len rfl (by kernel_rfl))) ?_
    refine wl_val 27 (by kernel_rfl) ((op_gtr rfl rfl)) ?_
    refine wl_nil ?_
    refine wx_next ?_
    refine wc_cond (by kernel_rfl) rfl (fun h5 => ?_) (fun h5 => ?_)
    · skip
      have h16 : 16 < p.lines.length := by have := of_decide_eq_true h5; omega
      refine wc_seq ?_
      refine wc_region ?_
      refine wl_val 2 (by kernel_rfl) ((op_assign (v := .int .i64 _) rfl)) ?_
      refine wl_nil ?_
      refine wx_next ?_
      refine wc_ret ?_
      refine wx_thenR ?_
      refine wx_ret1 rfl (by kernel_rfl) (show _ = .int .i64 _ from rfl) ?_
      first | exact ⟨ret_int (by simp [checkF, *]), hb1⟩ | exact ⟨ret_int (by simp [checkF, *]), hb3⟩
    · skip
      have h16 : ¬ 16 < p.lines.length := by have := of_decide_eq_false h5; omega
      refine wc_skip ?_
      refine wx_next ?_
      refine wc_seq ?_
      refine wc_seq ?_
      refine wc_region ?_
      refine wl_val 28 (by kernel_rfl) ((op_fieldL (m := 2) (k := 2) rfl (by kernel_rfl) rfl)) ?_
      refine wl_val 29 (by kernel_rfl) ((op_load rfl (by kernel_rfl) (by assumption))) ?_
      refine wl_val 30 (by kernel_rfl) ((op_len rfl (by kernel_rfl))) ?_
      refine wl_val 31 (by kernel_rfl) ((op_lss rfl rfl)) ?_
      refine wl_nil ?_
      refine wx_next ?_
      refine wc_cond (by kernel_rfl) rfl (fun h6 => ?_) (fun h6 => ?_)
      · skip
        have h2 : p.lines.length < 2 := by have := of_decide_eq_true h6; omega
        refine wc_seq ?_
        refine wc_region ?_
        refine wl_val 2 (by kernel_rfl) ((op_assign (v := .int .i64 _) rfl)) ?_
        refine wl_nil ?_
        refine wx_next ?_
        refine wc_ret ?_
        refine wx_thenR ?_
        refine wx_ret1 rfl (by kernel_rfl) (show _ = .int .i64 _ from rfl) ?_
        first | exact ⟨ret_int (by simp [checkF, *]), hb1⟩ | exact ⟨ret_int (by simp [checkF, *]), hb3⟩
      · skip
        have h2 : ¬ p.lines.length < 2 := by have := of_decide_eq_false h6; omega
        refine wc_skip ?_
        refine wx_next ?_
        refine wc_seq ?_
        refine wc_region ?_
        refine wl_val 3 (by kernel_rfl) ((op_assign (v := .int .i64 _) rfl)) ?_
        refine wl_nil ?_
        refine wx_next ?_
        refine wc_seq ?_
        refine wc_seq ?_
        refine wc_region ?_
        refine wl_val 32 (by kernel_rfl) ((op_fieldL (m := 2) (k := 2) rfl (by kernel_rfl) rfl)) ?_
        refine wl_val 33 (by kernel_rfl) ((op_load rfl (by kernel_rfl) (by assumption))) ?_
        refine wl_val 34 (by kernel_rfl) ((op_len rfl (by kernel_rfl))) ?_
        refine wl_val 35 (by kernel_rfl) ((op_move (v := .int .i64 _) rfl)) ?_
        refine wl_nil ?_
        refine wx_next ?_
        refine wc_block ?_
        refine wc_loop (σ := Nat) (fun k => [(1, .pointer (some ⟨w.heap.size, 0, none⟩)), (3, .int .i64 (sumL (p.lines.take k))), (33, .slice A p.lines.length c), (34, .int .i64 p.lines.length), (35, .int .i64 k)]) (fun k wr => k ≤ p.lines.length ∧ (∀ y ∈ p.lines.take k, lineOk y = true) ∧ Below w.heap.size w wr) (fun k => p.lines.length - k) 0 ?_ ?_ ?_
        · exact (sub_cons (by kernel_rfl) rfl (sub_cons (by kernel_rfl) rfl (sub_cons (by kernel_rfl) rfl (sub_cons (by kernel_rfl) rfl (sub_cons (by kernel_rfl) rfl sub_nil)))))
        · exact ⟨Nat.zero_le _, by simp, hb1⟩
        intro k w1 hs
        clear c0 c1 c2 hblk hb1
        obtain ⟨hk, hok, hb1⟩ := hs
        have hbd := sumL_bd (p.lines.take k) hok
        have htl : (p.lines.take k).length ≤ 16 := by simp; omega
        refine wc_seq ?_
        refine wc_region ?_
        refine wl_val 36 (by kernel_rfl) ((op_lss rfl rfl)) ?_
        refine wl_nil ?_
        refine wx_next ?_
        refine wc_seq ?_
        refine wc_cond (by kernel_rfl) rfl (fun h7 => ?_) (fun h7 => ?_)
        · skip
          have hlt : k < p.lines.length := by simpa using h7
          obtain ⟨x, hx⟩ := get_of_lt hlt
          obtain ⟨b, off, rfl, _, hrow⟩ := ln_at (hL.below hb1) hx
          refine wc_skip ?_
          refine wx_next ?_
          refine wc_seq ?_
          refine wc_block ?_
          refine wc_seq ?_
          refine wc_region ?_
          refine wl_val 37 (by kernel_rfl) ((op_index (sz := 2) rfl rfl (by kernel_rfl) (by omega))) ?_
          refine wl_val 38 (by kernel_rfl) ((op_loadR (lnC x) rfl (by kernel_rfl) hrow)) ?_
          refine wl_run 5 (by kernel_rfl) (op_alloc (v := .agg #[.int .i64 0, .int .i64 0]) [.int .i64 0, .int .i64 0] (by kernel_rfl) rfl) ?_
          refine wl_donew (by kernel_rfl) (op_fill _ (lnC x) rfl rfl (by kernel_rfl) rfl rfl) ?_
          intro w2 hw2
          have hb2 : Below w.heap.size w w2 := by rw [hw2]; exact hb1.alloc hb1.size _
          have hbx : Blk w2 w1.heap.size 105 (lnC x) := by rw [hw2]; exact Blk.new w1 _ _
          clear hw2
          refine wl_nil ?_
          refine wx_next ?_
          refine wc_seq ?_
          refine wc_seq ?_
          refine wc_region ?_
          refine wl_val 39 (by kernel_rfl) ((op_loadR (lnC x) rfl (by kernel_rfl) (fun j u hu => by simpa using hbx.at_ j hu))) ?_
          refine wl_call 40 (by kernel_rfl) (op_call (by kernel_rfl)) (line_any x _) ?_
          rintro e w3 ⟨rfl, hb3a⟩
          have hb3 := hb2.trans (hb3a.mono hb2.size)
          have d1 := (hbx.below hb3a hbx.lt).at_ 1 rfl
          clear hb2 hb3a hbx
          refine ⟨_, rfl, ?_⟩
          refine wl_val 41 (by kernel_rfl) ((op_not rfl)) ?_
          refine wl_nil ?_
          refine wx_next ?_
          refine wc_cond (by kernel_rfl) rfl (fun h8 => ?_) (fun h8 => ?_)
          · skip
            have hl : lineOk x = false := by simpa using h8
            have hna := not_all hx hl
            refine wc_seq ?_
            refine wc_region ?_
            refine wl_val 2 (by kernel_rfl) ((op_assign (v := .int .i64 _) rfl)) ?_
            refine wl_nil ?_
            refine wx_next ?_
            refine wc_ret ?_
            refine wx_thenR ?_
            refine wx_inR ?_
            refine wx_thenR ?_
            refine wx_thenR ?_
            refine wx_inR ?_
            refine wx_thenR ?_
            refine wx_ret1 rfl (by kernel_rfl) (show _ = .int .i64 _ from rfl) ?_
            first | exact ⟨ret_int (by simp [checkF, *]), hb1⟩ | exact ⟨ret_int (by simp [checkF, *]), hb3⟩
          · skip
            have hl : lineOk x = true := by simpa using h8
            have hl2 := hl
            simp [lineOk] at hl2
            refine wc_skip ?_
            refine wx_next ?_
            refine wc_region ?_
            refine wl_val 42 (by kernel_rfl) ((op_move (v := .int .i64 _) rfl)) ?_
            refine wl_val 43 (by kernel_rfl) ((op_fieldL (m := 1) (k := 1) rfl (by kernel_rfl) rfl)) ?_
            refine wl_val 44 (by kernel_rfl) ((op_load rfl (by kernel_rfl) (by assumption))) ?_
            refine wl_val 45 (by kernel_rfl) ((op_add rfl rfl (by omega))) ?_
            refine wl_val 3 (by kernel_rfl) ((op_assign (v := .int .i64 _) rfl)) ?_
            refine wl_nil ?_
            refine wx_inN ?_
            refine wx_next ?_
            refine wc_region ?_
            refine wl_val 46 (by kernel_rfl) ((op_add rfl rfl (by omega))) ?_
            refine wl_val 35 (by kernel_rfl) ((op_move (v := .int .i64 _) rfl)) ?_
            refine wl_nil ?_
            refine wx_round (k + 1) (sub_cons (by kernel_rfl) rfl (sub_cons (by kernel_rfl) (by rw [sumL_in hx]; rfl) (sub_cons (by kernel_rfl) rfl (sub_cons (by kernel_rfl) rfl (sub_cons (by kernel_rfl) rfl sub_nil))))) ⟨hlt, take_ok hok hx hl, hb3⟩ (by omega)
        · skip
          have hge : k = p.lines.length := by have := of_decide_eq_false h7; omega
          subst hge
          rw [List.take_length] at hok
          rw [List.take_length]
          have hall : p.lines.all lineOk = true := List.all_eq_true.2 hok
          refine wc_exit ?_
          refine wx_thenE ?_
          refine wx_thenE ?_
          refine wx_here ?_
          refine wx_next ?_
          refine wc_seq ?_
          refine wc_seq ?_
          refine wc_region ?_
          refine wl_val 47 (by kernel_rfl) ((op_move (v := .int .i64 _) rfl)) ?_
          refine wl_val 48 (by kernel_rfl) ((op_neq rfl rfl)) ?_
          refine wl_nil ?_
          refine wx_next ?_
          refine wc_cond (by kernel_rfl) rfl (fun h9 => ?_) (fun h9 => ?_)
          · skip
            have hz := of_decide_eq_true h9
            refine wc_seq ?_
            refine wc_region ?_
            refine wl_val 2 (by kernel_rfl) ((op_assign (v := .int .i64 _) rfl)) ?_
            refine wl_nil ?_
            refine wx_next ?_
            refine wc_ret ?_
            refine wx_thenR ?_
            refine wx_ret1 rfl (by kernel_rfl) (show _ = .int .i64 _ from rfl) ?_
            first | exact ⟨ret_int (by simp [checkF, *]), hb1⟩ | exact ⟨ret_int (by simp [checkF, *]), hb3⟩
          · skip
            have hz : sumL p.lines = 0 := by have := of_decide_eq_false h9; omega
            refine wc_skip ?_
            refine wx_next ?_
            refine wc_seq ?_
            refine wc_region ?_
            refine wl_val 2 (by kernel_rfl) ((op_assign (v := .int .i64 _) rfl)) ?_
            refine wl_nil ?_
            refine wx_next ?_
            refine wc_ret ?_
            refine wx_ret1 rfl (by kernel_rfl) (show _ = .int .i64 _ from rfl) ?_
            first | exact ⟨ret_int (by simp [checkF, *]), hb1⟩ | exact ⟨ret_int (by simp [checkF, *]), hb3⟩
end Go.Proofs.YtahnplemladjeaaDoor
