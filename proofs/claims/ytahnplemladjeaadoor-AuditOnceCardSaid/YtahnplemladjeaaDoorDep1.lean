/- The walks of the two functions sold, of the closure on payouts, and of slices.Contains on claims. -/
import Derived.Test.YtahnplemladjeaaDoorDepPlain
import Derived.Test.YtahnplemladjeaaDoorOpsC
namespace Go.Proofs.YtahnplemladjeaaDoor
open Go.RowKit

theorem sa_at {w : World} {B : Nat} {A : Option Addr} {l : List Sal} {k : Nat} {x : Sal} (h : Rd w B 5 SaR A l) (hx : l[k]? = some x) : ∃ b off, A = some ⟨b, off, none⟩ ∧ w.cell? ⟨b, off + k * 5, none⟩ = some (.int .i64 x.prod) ∧ w.cell? ⟨b, off + k * 5 + 1, none⟩ = some (.int .i64 x.first) ∧ w.cell? ⟨b, off + k * 5 + 2, none⟩ = some (.int .i64 x.count) ∧ ∀ j u, (saC x)[j]? = some u → w.cell? ⟨b, off + k * 5 + j, none⟩ = some u := by
  obtain ⟨b, off, e, _, cs, _, rfl, hc⟩ := h.at_ hx
  exact ⟨b, off, e, hc 0 _ rfl, hc 1 _ rfl, hc 2 _ rfl, hc⟩
set_option maxRecDepth 10000 in
theorem refSold_any (A : Option Addr) (c : Nat) (sl : List Sal) (serial : Int) (hI : I64 serial) (w : World) (hS : Rd w w.heap.size 5 SaR A sl) :
    Calls Tryd.prog 47 #[.slice A sl.length c, .int .i64 serial] w fun e w' => e = .returned (.int .i64 (idxI (soldB serial) sl)) ∧ Dr w w' := by
  have hlen := hS.1
  obtain ⟨hI1, hI2⟩ := hI
  refine calls_wc (n := 43) Tryd.func47 rfl rfl (Nat.le_of_ble_eq_true rfl) ?_
  refine wc_seq ?_
  refine wc_region ?_
  refine wl_val 4 (by kernel_rfl) ((op_assign (v := .int .i64 _) rfl)) ?_
  refine wl_nil ?_
  refine wx_next ?_
  refine wc_seq ?_
  refine wc_seq ?_
  refine wc_region ?_
  refine wl_val 5 (by kernel_rfl) ((op_assign (v := .int .i64 _) rfl)) ?_
  refine wl_nil ?_
  refine wx_next ?_
  refine wc_block ?_
  refine wc_loop (σ := Nat) (fun k => [(0, .slice A sl.length c), (1, .int .i64 serial), (5, .int .i64 k)]) (fun k wr => k ≤ sl.length ∧ k ≤ sl.findIdx (soldB serial) ∧ Dr w wr) (fun k => sl.length - k) 0 ?_ ?_ ?_
  · exact (sub_cons (by kernel_rfl) rfl (sub_cons (by kernel_rfl) rfl (sub_cons (by kernel_rfl) rfl sub_nil)))
  · exact ⟨Nat.zero_le _, Nat.zero_le _, Dr.refl _⟩
  intro k w2 hs
  obtain ⟨hk, hfi, hd⟩ := hs
  refine wc_seq ?_
  refine wc_seq ?_
  refine wc_region ?_
  refine wl_val 6 (by kernel_rfl) ((op_move (v := .int .i64 _) rfl)) ?_
  refine wl_val 7 (by kernel_rfl) ((op_move (v := .slice _ _ _) rfl)) ?_
  refine wl_val 8 (by kernel_rfl) ((op_len rfl (by kernel_rfl))) ?_
  refine wl_val 9 (by kernel_rfl) ((op_lss rfl rfl)) ?_
  refine wl_nil ?_
  refine wx_next ?_
  refine wc_cond (by kernel_rfl) rfl (fun h1 => ?_) (fun h1 => ?_)
  · skip
    have hlt : k < sl.length := by simpa using h1
    obtain ⟨x, hx⟩ := get_of_lt hlt
    obtain ⟨b, off, rfl, x0, x1, x2, _⟩ := sa_at hS hx
    refine wc_skip ?_
    refine wx_next ?_
    refine wc_seq ?_
    refine wc_block ?_
    refine wc_seq ?_
    refine wc_drawn (Dr w) [(41, .bool (soldB serial x))] (by kernel_rfl) (by kernel_rfl) (by obtain ⟨m, rfl⟩ := hd; exact ⟨m + 1, rfl⟩) ?_ ?_
    · skip
      refine wq_val 12 (by kernel_rfl) (fun w1 c1 => (op_move (v := .slice _ _ _) rfl)) ?_
      refine wq_val 13 (by kernel_rfl) (fun w1 c1 => (op_move (v := .int .i64 _) rfl)) ?_
      refine wq_val 14 (by kernel_rfl) (fun w1 c1 => (op_index (sz := 5) rfl rfl (by kernel_rfl) (by omega))) ?_
      refine wq_val 15 (by kernel_rfl) (fun w1 c1 => (op_field (m := 1) rfl (by kernel_rfl))) ?_
      refine wq_val 16 (by kernel_rfl) (fun w1 c1 => (op_load rfl (by kernel_rfl) ((c1.cell _).trans (by assumption)))) ?_
      refine wq_dec 17 (by kernel_rfl) (fun w1 c1 => (op_geq rfl rfl)) (fun h2 => ?_) (fun h2 => ?_)
      · skip
        refine wq_val 18 (by kernel_rfl) (fun w1 c1 => (op_move (v := .bool true) rfl)) ?_
        refine wq_val 19 (by kernel_rfl) (fun w1 c1 => (op_move (v := .int .i64 _) rfl)) ?_
        refine wq_val 20 (by kernel_rfl) (fun w1 c1 => (op_move (v := .slice _ _ _) rfl)) ?_
        refine wq_val 21 (by kernel_rfl) (fun w1 c1 => (op_move (v := .int .i64 _) rfl)) ?_
        refine wq_val 22 (by kernel_rfl) (fun w1 c1 => (op_index (sz := 5) rfl rfl (by kernel_rfl) (by omega))) ?_
        refine wq_val 23 (by kernel_rfl) (fun w1 c1 => (op_field (m := 1) rfl (by kernel_rfl))) ?_
        refine wq_val 24 (by kernel_rfl) (fun w1 c1 => (op_load rfl (by kernel_rfl) ((c1.cell _).trans (by assumption)))) ?_
        refine wq_dec 25 (by kernel_rfl) (fun w1 c1 => (op_geq rfl rfl)) (fun h3 => ?_) (fun h3 => ?_)
        · skip
          refine wq_val 26 (by kernel_rfl) (fun w1 c1 => (op_pick_t (v := .bool true) rfl rfl)) ?_
          refine wq_val 27 (by kernel_rfl) (fun w1 c1 => (op_move (v := .bool true) rfl)) ?_
          refine wq_val 28 (by kernel_rfl) (fun w1 c1 => (op_move (v := .int .i64 _) rfl)) ?_
          refine wq_val 29 (by kernel_rfl) (fun w1 c1 => (op_move (v := .slice _ _ _) rfl)) ?_
          refine wq_val 30 (by kernel_rfl) (fun w1 c1 => (op_move (v := .int .i64 _) rfl)) ?_
          refine wq_val 31 (by kernel_rfl) (fun w1 c1 => (op_index (sz := 5) rfl rfl (by kernel_rfl) (by omega))) ?_
          refine wq_val 32 (by kernel_rfl) (fun w1 c1 => (op_field (m := 1) rfl (by kernel_rfl))) ?_
          refine wq_val 33 (by kernel_rfl) (fun w1 c1 => (op_load rfl (by kernel_rfl) ((c1.cell _).trans (by assumption)))) ?_
          refine wq_val 34 (by kernel_rfl) (fun w1 c1 => (op_sub rfl rfl (by omega))) ?_
          refine wq_val 35 (by kernel_rfl) (fun w1 c1 => (op_move (v := .slice _ _ _) rfl)) ?_
          refine wq_val 36 (by kernel_rfl) (fun w1 c1 => (op_move (v := .int .i64 _) rfl)) ?_
          refine wq_val 37 (by kernel_rfl) (fun w1 c1 => (op_index (sz := 5) rfl rfl (by kernel_rfl) (by omega))) ?_
          refine wq_val 38 (by kernel_rfl) (fun w1 c1 => (op_field (m := 2) rfl (by kernel_rfl))) ?_
          refine wq_val 39 (by kernel_rfl) (fun w1 c1 => (op_load rfl (by kernel_rfl) ((c1.cell _).trans (by assumption)))) ?_
          refine wq_val 40 (by kernel_rfl) (fun w1 c1 => (op_lss rfl rfl)) ?_
          refine wq_val 41 (by kernel_rfl) (fun w1 c1 => (op_pick_t (v := .bool _) rfl rfl)) ?_
          refine leaf_q (sub_out 30 _ rfl (by kernel_rfl) ?_)
          refine ⟨congrArg Value.bool ?_, trivial⟩; rw [Bool.eq_iff_iff]; simp [soldB] <;> omega
        · skip
          refine wq_val 26 (by kernel_rfl) (fun w1 c1 => (op_pick_t (v := .bool false) rfl rfl)) ?_
          refine wq_val 27 (by kernel_rfl) (fun w1 c1 => (op_move (v := .bool false) rfl)) ?_
          refine wq_skip 28 (by kernel_rfl) ?_
          refine wq_skip 29 (by kernel_rfl) ?_
          refine wq_skip 30 (by kernel_rfl) ?_
          refine wq_skip 31 (by kernel_rfl) ?_
          refine wq_skip 32 (by kernel_rfl) ?_
          refine wq_skip 33 (by kernel_rfl) ?_
          refine wq_skip 34 (by kernel_rfl) ?_
          refine wq_skip 35 (by kernel_rfl) ?_
          refine wq_skip 36 (by kernel_rfl) ?_
          refine wq_skip 37 (by kernel_rfl) ?_
          refine wq_skip 38 (by kernel_rfl) ?_
          refine wq_skip 39 (by kernel_rfl) ?_
          refine wq_skip 40 (by kernel_rfl) ?_
          refine wq_val 41 (by kernel_rfl) (fun w1 c1 => (op_pick_f (v := .bool false) rfl rfl)) ?_
          refine leaf_q (sub_out 30 _ rfl (by kernel_rfl) ?_)
          refine ⟨congrArg Value.bool ?_, trivial⟩; rw [Bool.eq_iff_iff]; simp [soldB] <;> omega
      · skip
        refine wq_val 18 (by kernel_rfl) (fun w1 c1 => (op_move (v := .bool false) rfl)) ?_
        refine wq_skip 19 (by kernel_rfl) ?_
        refine wq_skip 20 (by kernel_rfl) ?_
        refine wq_skip 21 (by kernel_rfl) ?_
        refine wq_skip 22 (by kernel_rfl) ?_
        refine wq_skip 23 (by kernel_rfl) ?_
        refine wq_skip 24 (by kernel_rfl) ?_
        refine wq_skip 25 (by kernel_rfl) ?_
        refine wq_val 26 (by kernel_rfl) (fun w1 c1 => (op_pick_f (v := .bool false) rfl rfl)) ?_
        refine wq_val 27 (by kernel_rfl) (fun w1 c1 => (op_move (v := .bool false) rfl)) ?_
        refine wq_skip 28 (by kernel_rfl) ?_
        refine wq_skip 29 (by kernel_rfl) ?_
        refine wq_skip 30 (by kernel_rfl) ?_
        refine wq_skip 31 (by kernel_rfl) ?_
        refine wq_skip 32 (by kernel_rfl) ?_
        refine wq_skip 33 (by kernel_rfl) ?_
        refine wq_skip 34 (by kernel_rfl) ?_
        refine wq_skip 35 (by kernel_rfl) ?_
        refine wq_skip 36 (by kernel_rfl) ?_
        refine wq_skip 37 (by kernel_rfl) ?_
        refine wq_skip 38 (by kernel_rfl) ?_
        refine wq_skip 39 (by kernel_rfl) ?_
        refine wq_skip 40 (by kernel_rfl) ?_
        refine wq_val 41 (by kernel_rfl) (fun w1 c1 => (op_pick_f (v := .bool false) rfl rfl)) ?_
        refine leaf_q (sub_out 30 _ rfl (by kernel_rfl) ?_)
        refine ⟨congrArg Value.bool ?_, trivial⟩; rw [Bool.eq_iff_iff]; simp [soldB] <;> omega
    intro w3 hd3
    refine wx_next ?_
    refine wc_cond (by kernel_rfl) rfl (fun h4 => ?_) (fun h4 => ?_)
    · skip
      have hp := h4
      refine wc_seq ?_
      refine wc_region ?_
      refine wl_val 42 (by kernel_rfl) ((op_move (v := .int .i64 _) rfl)) ?_
      refine wl_val 4 (by kernel_rfl) ((op_assign (v := .int .i64 _) rfl)) ?_
      refine wl_nil ?_
      refine wx_next ?_
      refine wc_ret ?_
      refine wx_inR ?_
      refine wx_thenR ?_
      refine wx_thenR ?_
      refine wx_inR ?_
      refine wx_thenR ?_
      refine wx_ret1 rfl (by kernel_rfl) (show _ = .int .i64 _ from rfl) ?_
      first | exact ⟨ret_int (idxI_at hfi hx hp).symm, hd3⟩ | exact ⟨ret_int hnone.symm, hd⟩
    · skip
      have hp := h4
      refine wc_skip ?_
      refine wx_inN ?_
      refine wx_next ?_
      refine wc_region ?_
      refine wl_val 10 (by kernel_rfl) ((op_move (v := .int .i64 _) rfl)) ?_
      refine wl_val 11 (by kernel_rfl) ((op_add rfl rfl (by omega))) ?_
      refine wl_val 5 (by kernel_rfl) ((op_assign (v := .int .i64 _) rfl)) ?_
      refine wl_nil ?_
      refine wx_round (k + 1) (sub_cons (by kernel_rfl) rfl (sub_cons (by kernel_rfl) rfl (sub_cons (by kernel_rfl) rfl sub_nil))) ⟨hlt, fi_past hfi hx hp, hd3⟩ (by omega)
  · skip
    have hge : sl.length ≤ k := by have := of_decide_eq_false h1; omega
    have hnone := idxI_none (p := soldB serial) (l := sl) (by omega)
    refine wc_exit ?_
    refine wx_thenE ?_
    refine wx_thenE ?_
    refine wx_here ?_
    refine wx_next ?_
    refine wc_seq ?_
    refine wc_region ?_
    refine wl_val 4 (by kernel_rfl) ((op_assign (v := .int .i64 _) rfl)) ?_
    refine wl_nil ?_
    refine wx_next ?_
    refine wc_ret ?_
    refine wx_ret1 rfl (by kernel_rfl) (show _ = .int .i64 _ from rfl) ?_
    first | exact ⟨ret_int (idxI_at hfi hx hp).symm, hd3⟩ | exact ⟨ret_int hnone.symm, hd⟩
set_option maxRecDepth 10000 in
theorem sold_any (A : Option Addr) (c : Nat) (sl : List Sal) (serial : Int) (hI : I64 serial) (w : World) (hS : Rd w w.heap.size 5 SaR A sl) :
    Calls Tryd.prog 34 #[.slice A sl.length c, .int .i64 serial] w fun e w' => e = .returned (.tuple #[.agg (saC ((saleOf sl serial).getD ⟨0, 0, 0, 0, 0⟩)).toArray, .bool (saleOf sl serial).isSome]) ∧ Below w.heap.size w w' := by
  have hlen := hS.1
  obtain ⟨hI1, hI2⟩ := hI
  refine calls_wc (n := 40) Tryd.func34 rfl rfl (Nat.le_of_ble_eq_true rfl) ?_
  refine wc_seq ?_
  refine wc_region ?_
  refine wl_new 4 (by kernel_rfl) (op_alloc (v := .agg #[.int .i64 0, .int .i64 0, .int .i64 0, .int .i64 0, .int .i64 0]) [.int .i64 0, .int .i64 0, .int .i64 0, .int .i64 0, .int .i64 0] (by kernel_rfl) rfl) ?_
  intro w1 hw1
  have hb1 : Below w.heap.size w w1 := by rw [hw1]; exact (Below.refl _ _).alloc (Nat.le_refl _) _
  have hr1 : Blk w1 w.heap.size 88 [.int .i64 0, .int .i64 0, .int .i64 0, .int .i64 0, .int .i64 0] := by rw [hw1]; exact Blk.new w _ _
  clear hw1
  refine wl_val 5 (by kernel_rfl) ((op_assign (v := .bool false) rfl)) ?_
  refine wl_nil ?_
  refine wx_next ?_
  refine wc_seq ?_
  refine wc_seq ?_
  refine wc_region ?_
  refine wl_val 8 (by kernel_rfl) ((op_move (v := .slice _ _ _) rfl)) ?_
  refine wl_val 9 (by kernel_rfl) ((op_len rfl (by kernel_rfl))) ?_
  refine wl_val 10 (by kernel_rfl) ((op_move (v := .int .i64 _) rfl)) ?_
  refine wl_nil ?_
  refine wx_next ?_
  refine wc_block ?_
  refine wc_loop (σ := Nat) (fun k => [(0, .slice A sl.length c), (1, .int .i64 serial), (4, .pointer (some ⟨w.heap.size, 0, none⟩)), (5, .bool false), (8, .slice A sl.length c), (9, .int .i64 sl.length), (10, .int .i64 k)]) (fun k wr => k ≤ sl.length ∧ k ≤ sl.findIdx (soldB serial) ∧ Below w.heap.size w wr ∧ Blk wr w.heap.size 88 [.int .i64 0, .int .i64 0, .int .i64 0, .int .i64 0, .int .i64 0]) (fun k => sl.length - k) 0 ?_ ?_ ?_
  · exact (sub_cons (by kernel_rfl) rfl (sub_cons (by kernel_rfl) rfl (sub_cons (by kernel_rfl) rfl (sub_cons (by kernel_rfl) rfl (sub_cons (by kernel_rfl) rfl (sub_cons (by kernel_rfl) rfl (sub_cons (by kernel_rfl) rfl sub_nil)))))))
  · exact ⟨Nat.zero_le _, Nat.zero_le _, hb1, hr1⟩
  intro k w2 hs
  clear hb1 hr1
  obtain ⟨hk, hfi, hb1, hr1⟩ := hs
  refine wc_seq ?_
  refine wc_region ?_
  refine wl_val 11 (by kernel_rfl) ((op_lss rfl rfl)) ?_
  refine wl_nil ?_
  refine wx_next ?_
  refine wc_seq ?_
  refine wc_cond (by kernel_rfl) rfl (fun h1 => ?_) (fun h1 => ?_)
  · skip
    have hlt : k < sl.length := by simpa using h1
    obtain ⟨x, hx⟩ := get_of_lt hlt
    obtain ⟨b, off, rfl, _, _, _, hrow⟩ := sa_at (hS.below hb1) hx
    refine wc_skip ?_
    refine wx_next ?_
    refine wc_seq ?_
    refine wc_block ?_
    refine wc_seq ?_
    refine wc_region ?_
    refine wl_val 12 (by kernel_rfl) ((op_index (sz := 5) rfl rfl (by kernel_rfl) (by omega))) ?_
    refine wl_val 13 (by kernel_rfl) ((op_loadR (saC x) rfl (by kernel_rfl) hrow)) ?_
    refine wl_run 7 (by kernel_rfl) (op_alloc (v := .agg #[.int .i64 0, .int .i64 0, .int .i64 0, .int .i64 0, .int .i64 0]) [.int .i64 0, .int .i64 0, .int .i64 0, .int .i64 0, .int .i64 0] (by kernel_rfl) rfl) ?_
    refine wl_donew (by kernel_rfl) (op_fill _ (saC x) rfl rfl (by kernel_rfl) rfl rfl) ?_
    intro w3 hw3
    have hb3 : Below w.heap.size w w3 := by rw [hw3]; exact hb1.alloc hb1.size _
    have hr3 := hr1.alloc (.cells (saC x).toArray 88)
    rw [← hw3] at hr3
    have hbx : Blk w3 w2.heap.size 88 (saC x) := by rw [hw3]; exact Blk.new w2 _ _
    have d1 := hbx.at_ 1 rfl
    have d2 := hbx.at_ 2 rfl
    clear hw3
    refine wl_nil ?_
    refine wx_next ?_
    refine wc_seq ?_
    refine wc_cutE [(36, .bool (soldB serial x))] ?_ ?_
    · skip
      refine wl_val 14 (by kernel_rfl) ((op_fieldL (m := 1) (k := 1) rfl (by kernel_rfl) rfl)) ?_
      refine wl_val 15 (by kernel_rfl) ((op_load rfl (by kernel_rfl) (by assumption))) ?_
      refine wl_dec 16 (by kernel_rfl) ((op_geq rfl rfl)) (fun h2 => ?_) (fun h2 => ?_)
      · skip
        refine wl_val 17 (by kernel_rfl) ((op_move (v := .bool true) rfl)) ?_
        refine wl_val 18 (by kernel_rfl) ((op_fieldL (m := 2) (k := 2) rfl (by kernel_rfl) rfl)) ?_
        refine wl_val 19 (by kernel_rfl) ((op_load rfl (by kernel_rfl) (by assumption))) ?_
        refine wl_dec 20 (by kernel_rfl) ((op_gtr rfl rfl)) (fun h3 => ?_) (fun h3 => ?_)
        · skip
          refine wl_val 21 (by kernel_rfl) ((op_pick_t (v := .bool true) rfl rfl)) ?_
          refine wl_val 22 (by kernel_rfl) ((op_move (v := .bool true) rfl)) ?_
          refine wl_val 23 (by kernel_rfl) ((op_move (v := .int .i64 _) rfl)) ?_
          refine wl_val 24 (by kernel_rfl) ((op_fieldL (m := 1) (k := 1) rfl (by kernel_rfl) rfl)) ?_
          refine wl_val 25 (by kernel_rfl) ((op_load rfl (by kernel_rfl) (by assumption))) ?_
          refine wl_dec 26 (by kernel_rfl) ((op_geq rfl rfl)) (fun h4 => ?_) (fun h4 => ?_)
          · skip
            refine wl_val 27 (by kernel_rfl) ((op_pick_t (v := .bool true) rfl rfl)) ?_
            refine wl_val 28 (by kernel_rfl) ((op_move (v := .bool true) rfl)) ?_
            refine wl_val 29 (by kernel_rfl) ((op_move (v := .int .i64 _) rfl)) ?_
            refine wl_val 30 (by kernel_rfl) ((op_fieldL (m := 1) (k := 1) rfl (by kernel_rfl) rfl)) ?_
            refine wl_val 31 (by kernel_rfl) ((op_load rfl (by kernel_rfl) (by assumption))) ?_
            refine wl_val 32 (by kernel_rfl) ((op_sub rfl rfl (by omega))) ?_
            refine wl_val 33 (by kernel_rfl) ((op_fieldL (m := 2) (k := 2) rfl (by kernel_rfl) rfl)) ?_
            refine wl_val 34 (by kernel_rfl) ((op_load rfl (by kernel_rfl) (by assumption))) ?_
            refine wl_val 35 (by kernel_rfl) ((op_lss rfl rfl)) ?_
            refine wl_val 36 (by kernel_rfl) ((op_pick_t (v := .bool _) rfl rfl)) ?_
            refine leaf_e (sub_out 23 _ rfl (by kernel_rfl) ?_)
            refine ⟨congrArg Value.bool ?_, trivial⟩; rw [Bool.eq_iff_iff]; simp [soldB] <;> omega
          · skip
            refine wl_val 27 (by kernel_rfl) ((op_pick_t (v := .bool false) rfl rfl)) ?_
            refine wl_val 28 (by kernel_rfl) ((op_move (v := .bool false) rfl)) ?_
            refine wl_skip 29 (by kernel_rfl) ?_
            refine wl_skip 30 (by kernel_rfl) ?_
            refine wl_skip 31 (by kernel_rfl) ?_
            refine wl_skip 32 (by kernel_rfl) ?_
            refine wl_skip 33 (by kernel_rfl) ?_
            refine wl_skip 34 (by kernel_rfl) ?_
            refine wl_skip 35 (by kernel_rfl) ?_
            refine wl_val 36 (by kernel_rfl) ((op_pick_f (v := .bool false) rfl rfl)) ?_
            refine leaf_e (sub_out 23 _ rfl (by kernel_rfl) ?_)
            refine ⟨congrArg Value.bool ?_, trivial⟩; rw [Bool.eq_iff_iff]; simp [soldB] <;> omega
        · skip
          refine wl_val 21 (by kernel_rfl) ((op_pick_t (v := .bool false) rfl rfl)) ?_
          refine wl_val 22 (by kernel_rfl) ((op_move (v := .bool false) rfl)) ?_
          refine wl_skip 23 (by kernel_rfl) ?_
          refine wl_skip 24 (by kernel_rfl) ?_
          refine wl_skip 25 (by kernel_rfl) ?_
          refine wl_skip 26 (by kernel_rfl) ?_
          refine wl_val 27 (by kernel_rfl) ((op_pick_f (v := .bool false) rfl rfl)) ?_
          refine wl_val 28 (by kernel_rfl) ((op_move (v := .bool false) rfl)) ?_
          refine wl_skip 29 (by kernel_rfl) ?_
          refine wl_skip 30 (by kernel_rfl) ?_
          refine wl_skip 31 (by kernel_rfl) ?_
          refine wl_skip 32 (by kernel_rfl) ?_
          refine wl_skip 33 (by kernel_rfl) ?_
          refine wl_skip 34 (by kernel_rfl) ?_
          refine wl_skip 35 (by kernel_rfl) ?_
          refine wl_val 36 (by kernel_rfl) ((op_pick_f (v := .bool false) rfl rfl)) ?_
          refine leaf_e (sub_out 23 _ rfl (by kernel_rfl) ?_)
          refine ⟨congrArg Value.bool ?_, trivial⟩; rw [Bool.eq_iff_iff]; simp [soldB] <;> omega
      · skip
        refine wl_val 17 (by kernel_rfl) ((op_move (v := .bool false) rfl)) ?_
        refine wl_skip 18 (by kernel_rfl) ?_
        refine wl_skip 19 (by kernel_rfl) ?_
        refine wl_skip 20 (by kernel_rfl) ?_
        refine wl_val 21 (by kernel_rfl) ((op_pick_f (v := .bool false) rfl rfl)) ?_
        refine wl_val 22 (by kernel_rfl) ((op_move (v := .bool false) rfl)) ?_
        refine wl_skip 23 (by kernel_rfl) ?_
        refine wl_skip 24 (by kernel_rfl) ?_
        refine wl_skip 25 (by kernel_rfl) ?_
        refine wl_skip 26 (by kernel_rfl) ?_
        refine wl_val 27 (by kernel_rfl) ((op_pick_f (v := .bool false) rfl rfl)) ?_
        refine wl_val 28 (by kernel_rfl) ((op_move (v := .bool false) rfl)) ?_
        refine wl_skip 29 (by kernel_rfl) ?_
        refine wl_skip 30 (by kernel_rfl) ?_
        refine wl_skip 31 (by kernel_rfl) ?_
        refine wl_skip 32 (by kernel_rfl) ?_
        refine wl_skip 33 (by kernel_rfl) ?_
        refine wl_skip 34 (by kernel_rfl) ?_
        refine wl_skip 35 (by kernel_rfl) ?_
        refine wl_val 36 (by kernel_rfl) ((op_pick_f (v := .bool false) rfl rfl)) ?_
        refine leaf_e (sub_out 23 _ rfl (by kernel_rfl) ?_)
        refine ⟨congrArg Value.bool ?_, trivial⟩; rw [Bool.eq_iff_iff]; simp [soldB] <;> omega
    refine wx_next ?_
    refine wc_cond (by kernel_rfl) rfl (fun h5 => ?_) (fun h5 => ?_)
    · skip
      have hp := h5
      have hso : saleOf sl serial = some x := by unfold saleOf; rw [fi_at hfi hx hp]; exact hx
      refine wc_seq ?_
      refine wc_region ?_
      refine wl_val 37 (by kernel_rfl) ((op_loadR (saC x) rfl (by kernel_rfl) (fun j u hu => by simpa using hbx.at_ j hu))) ?_
      refine wl_donew (by kernel_rfl) (op_storeA hr3 (saC x) rfl rfl (by kernel_rfl) rfl rfl) ?_
      intro w4 hw4
      have hb4 : Below w.heap.size w w4 := by rw [hw4]; exact below_setRow hb3 (Nat.le_refl _) _
      have hr4 : Blk w4 w.heap.size 88 (saC x) := by rw [hw4]; exact blk_setRow hr3 _ rfl
      refine wl_val 5 (by kernel_rfl) ((op_assign (v := .bool true) rfl)) ?_
      refine wl_nil ?_
      refine wx_next ?_
      refine wc_ret ?_
      refine wx_inR ?_
      refine wx_thenR ?_
      refine wx_thenR ?_
      refine wx_inR ?_
      refine wx_thenR ?_
      first | (refine wx_retCT (saC x) rfl (by kernel_rfl) rfl (by kernel_rfl) (show _ = .bool true from rfl) (by kernel_rfl) (fun j v hj => by simpa using hr4.at_ j hj) ?_; exact ⟨by rw [hso]; rfl, hb4⟩) | (refine wx_retCT [.int .i64 0, .int .i64 0, .int .i64 0, .int .i64 0, .int .i64 0] rfl (by kernel_rfl) rfl (by kernel_rfl) (show _ = .bool false from rfl) (by kernel_rfl) (fun j v hj => by simpa using hr4.at_ j hj) ?_; exact ⟨by rw [hnone]; rfl, hb4⟩)
    · skip
      have hp := h5
      refine wc_skip ?_
      refine wx_inN ?_
      refine wx_next ?_
      refine wc_region ?_
      refine wl_val 38 (by kernel_rfl) ((op_add rfl rfl (by omega))) ?_
      refine wl_val 10 (by kernel_rfl) ((op_move (v := .int .i64 _) rfl)) ?_
      refine wl_nil ?_
      refine wx_round (k + 1) (sub_cons (by kernel_rfl) rfl (sub_cons (by kernel_rfl) rfl (sub_cons (by kernel_rfl) rfl (sub_cons (by kernel_rfl) rfl (sub_cons (by kernel_rfl) rfl (sub_cons (by kernel_rfl) rfl (sub_cons (by kernel_rfl) rfl sub_nil))))))) ⟨hlt, fi_past hfi hx hp, hb3, hr3⟩ (by omega)
  · skip
    have hge : sl.length ≤ k := by have := of_decide_eq_false h1; omega
    have hnone : saleOf sl serial = none := by unfold saleOf; rw [List.getElem?_eq_none]; omega
    refine wc_exit ?_
    refine wx_thenE ?_
    refine wx_thenE ?_
    refine wx_here ?_
    refine wx_next ?_
    refine wc_seq ?_
    refine wc_region ?_
    refine wl_val 39 (by kernel_rfl) ((op_build (z := [.int .i64 0, .int .i64 0, .int .i64 0, .int .i64 0, .int .i64 0]) (tab := [(0, 1), (1, 1), (2, 1), (3, 1), (4, 1)]) (cs := [.int .i64 _, .int .i64 _, .int .i64 _, .int .i64 _, .int .i64 _]) [] (by kernel_rfl) (by kernel_rfl) fillOk_nil rfl)) ?_
    refine wl_donew (by kernel_rfl) (op_storeA hr1 [.int .i64 0, .int .i64 0, .int .i64 0, .int .i64 0, .int .i64 0] rfl rfl (by kernel_rfl) rfl rfl) ?_
    intro w4 hw4
    have hb4 : Below w.heap.size w w4 := by rw [hw4]; exact below_setRow hb1 (Nat.le_refl _) _
    have hr4 : Blk w4 w.heap.size 88 [.int .i64 0, .int .i64 0, .int .i64 0, .int .i64 0, .int .i64 0] := by rw [hw4]; exact blk_setRow hr1 _ rfl
    refine wl_val 5 (by kernel_rfl) ((op_assign (v := .bool false) rfl)) ?_
    refine wl_nil ?_
    refine wx_next ?_
    refine wc_ret ?_
    first | (refine wx_retCT (saC x) rfl (by kernel_rfl) rfl (by kernel_rfl) (show _ = .bool true from rfl) (by kernel_rfl) (fun j v hj => by simpa using hr4.at_ j hj) ?_; exact ⟨by rw [hso]; rfl, hb4⟩) | (refine wx_retCT [.int .i64 0, .int .i64 0, .int .i64 0, .int .i64 0, .int .i64 0] rfl (by kernel_rfl) rfl (by kernel_rfl) (show _ = .bool false from rfl) (by kernel_rfl) (fun j v hj => by simpa using hr4.at_ j hj) ?_; exact ⟨by rw [hnone]; rfl, hb4⟩)
theorem dep1_any (y : Pay) (xs : Int) (g : Nat) (w : World) (hc : w.cell? ⟨g, 0, none⟩ = some (.int .i64 xs)) :
    Calls Tryd.prog 36 (.agg (paC y).toArray :: [.pointer (some ⟨g, 0, none⟩)]).toArray w fun e w' => e = .returned (.bool (decide (y.serial = xs))) ∧ Below w.heap.size w w' := by
  refine calls_wc (n := 11) Tryd.func36 rfl rfl (Nat.le_of_ble_eq_true rfl) ?_
  refine wc_seq ?_
  refine wc_region ?_
  refine wl_new 2 (by kernel_rfl) (op_boxA (cs := (paC y)) rfl) ?_
  intro w1 hw1
  have hb1 : Below w.heap.size w w1 := by rw [hw1]; exact (Below.refl _ _).alloc (Nat.le_refl _) _
  have c0 : w1.cell? ⟨w.heap.size, 0, none⟩ = some (.int .i64 y.serial) := by rw [hw1]; exact (Blk.new w _ (paC y)).at_ 0 rfl
  have c1 : w1.cell? ⟨g, 0, none⟩ = some (.int .i64 xs) := (hb1.cell (p := ⟨g, 0, none⟩) (World.block_lt_of_cell? _ _ hc)).trans hc
  clear hw1
  refine wl_val 3 (by kernel_rfl) ((op_assign (v := .bool false) rfl)) ?_
  refine wl_nil ?_
  refine wx_next ?_
  refine wc_seq ?_
  refine wc_region ?_
  refine wl_val 4 (by kernel_rfl) ((op_fieldL (m := 0) (k := 0) rfl (by kernel_rfl) rfl)) ?_
  refine wl_val 5 (by kernel_rfl) ((op_fieldL (m := 0) (k := 0) rfl (by kernel_rfl) rfl)) ?_
  refine wl_val 6 (by kernel_rfl) ((op_load rfl (by kernel_rfl) (by assumption))) ?_
  refine wl_val 7 (by kernel_rfl) ((op_fieldL (m := 0) (k := 0) rfl (by kernel_rfl) rfl)) ?_
  refine wl_val 8 (by kernel_rfl) ((op_fieldL (m := 0) (k := 0) rfl (by kernel_rfl) rfl)) ?_
  refine wl_val 9 (by kernel_rfl) ((op_load rfl (by kernel_rfl) (by assumption))) ?_
  refine wl_val 10 (by kernel_rfl) ((op_eql rfl rfl)) ?_
  refine wl_val 3 (by kernel_rfl) ((op_assign (v := .bool _) rfl)) ?_
  refine wl_nil ?_
  refine wx_next ?_
  refine wc_ret ?_
  refine wx_ret1 rfl (by kernel_rfl) (show _ = .bool _ from rfl) ?_
  exact ⟨rfl, hb1⟩
theorem cl_at {w : World} {B : Nat} {A : Option Addr} {l : List Clm} {k : Nat} {x : Clm} (h : Rd w B 5 ClR A l) (hx : l[k]? = some x) : ∃ b off, A = some ⟨b, off, none⟩ ∧ ∀ j u, (clC x)[j]? = some u → w.cell? ⟨b, off + k * 5 + j, none⟩ = some u := by
  obtain ⟨b, off, e, _, cs, _, rfl, hc⟩ := h.at_ hx
  exact ⟨b, off, e, hc⟩
theorem op_eqClaim {e : Env} {w : World} {d : Option Tmp} {ty : TypeId} {ps : String} {af : Array Edge} {g : Option (Nat × Bool)} {x y : Operand} (a b : Clm) (hx : eev e x = .agg (clC a).toArray) (hy : eev e y = .agg (clC b).toArray) : OpV Tryd.prog e w ⟨d, .binOp .eql 59 x y 59, ty, ps, af, g⟩ (.bool (clEq a b)) :=
  op_eqFlat (cs := clC a) (ds := clC b) hx hy Tryd.underlying59 (by kernel_rfl) (by kernel_rfl) (by kernel_rfl) (by simp [celsEq, celEq, clC, clEq])
set_option maxRecDepth 10000 in
theorem idxClaim_any (A : Option Addr) (c : Nat) (l : List Clm) (y : Clm) (w : World) (hL : Rd w w.heap.size 5 ClR A l) :
    Calls Tryd.prog 48 #[.slice A l.length c, .agg (clC y).toArray] w fun e w' => e = .returned (.int .i64 (idxI (clEq y) l)) ∧ Below w.heap.size w w' := by
  have hlen := hL.1
  refine calls_wc (n := 19) Tryd.func48 rfl rfl (Nat.le_of_ble_eq_true rfl) ?_
  refine wc_seq ?_
  refine wc_region ?_
  refine wl_new 3 (by kernel_rfl) (op_boxA (cs := (clC y)) rfl) ?_
  intro w1 hw1
  have hb1 : Below w.heap.size w w1 := by rw [hw1]; exact (Below.refl _ _).alloc (Nat.le_refl _) _
  have hr1 : Blk w1 w.heap.size 59 (clC y) := by rw [hw1]; exact Blk.new w _ _
  clear hw1
  refine wl_val 4 (by kernel_rfl) ((op_assign (v := .int .i64 _) rfl)) ?_
  refine wl_nil ?_
  refine wx_next ?_
  refine wc_seq ?_
  refine wc_seq ?_
  refine wc_region ?_
  refine wl_val 6 (by kernel_rfl) ((op_move (v := .slice _ _ _) rfl)) ?_
  refine wl_val 7 (by kernel_rfl) ((op_len rfl (by kernel_rfl))) ?_
  refine wl_val 8 (by kernel_rfl) ((op_move (v := .int .i64 _) rfl)) ?_
  refine wl_nil ?_
  refine wx_next ?_
  refine wc_block ?_
  refine wc_loop (σ := Nat) (fun k => [(0, .slice A l.length c), (3, .pointer (some ⟨w.heap.size, 0, none⟩)), (6, .slice A l.length c), (7, .int .i64 l.length), (8, .int .i64 k)]) (fun k wr => k ≤ l.length ∧ k ≤ l.findIdx (clEq y) ∧ Below w.heap.size w wr ∧ Blk wr w.heap.size 59 (clC y)) (fun k => l.length - k) 0 ?_ ?_ ?_
  · exact (sub_cons (by kernel_rfl) rfl (sub_cons (by kernel_rfl) rfl (sub_cons (by kernel_rfl) rfl (sub_cons (by kernel_rfl) rfl (sub_cons (by kernel_rfl) rfl sub_nil)))))
  · exact ⟨Nat.zero_le _, Nat.zero_le _, hb1, hr1⟩
  intro k w2 hs
  clear hb1 hr1
  obtain ⟨hk, hfi, hb1, hr1⟩ := hs
  refine wc_seq ?_
  refine wc_region ?_
  refine wl_val 9 (by kernel_rfl) ((op_lss rfl rfl)) ?_
  refine wl_nil ?_
  refine wx_next ?_
  refine wc_seq ?_
  refine wc_cond (by kernel_rfl) rfl (fun h1 => ?_) (fun h1 => ?_)
  · skip
    have hlt : k < l.length := by simpa using h1
    obtain ⟨x, hx⟩ := get_of_lt hlt
    obtain ⟨b, off, rfl, hrow⟩ := cl_at (hL.below hb1) hx
    refine wc_skip ?_
    refine wx_next ?_
    refine wc_seq ?_
    refine wc_block ?_
    refine wc_seq ?_
    refine wc_region ?_
    refine wl_val 10 (by kernel_rfl) ((op_move (v := .int .i64 _) rfl)) ?_
    refine wl_val 5 (by kernel_rfl) ((op_assign (v := .int .i64 _) rfl)) ?_
    refine wl_nil ?_
    refine wx_next ?_
    refine wc_seq ?_
    refine wc_drawn (Dr w2) [(16, .bool (clEq y x))] (by kernel_rfl) (by kernel_rfl) (Dr.one _) ?_ ?_
    · skip
      refine wq_val 11 (by kernel_rfl) (fun w1 c1 => op_loadR (clC y) rfl (by kernel_rfl) (fun j u hu => (c1.cell _).trans (by simpa using hr1.at_ j hu))) ?_
      refine wq_val 12 (by kernel_rfl) (fun w1 c1 => (op_move (v := .slice _ _ _) rfl)) ?_
      refine wq_val 13 (by kernel_rfl) (fun w1 c1 => (op_move (v := .int .i64 _) rfl)) ?_
      refine wq_val 14 (by kernel_rfl) (fun w1 c1 => (op_index (sz := 5) rfl rfl (by kernel_rfl) (by omega))) ?_
      refine wq_val 15 (by kernel_rfl) (fun w1 c1 => op_loadR (clC x) rfl (by kernel_rfl) (fun j u hu => (c1.cell _).trans (hrow j u hu))) ?_
      refine wq_val 16 (by kernel_rfl) (fun w1 c1 => op_eqClaim y x rfl rfl) ?_
      refine leaf_q (sub_out 6 _ rfl (by kernel_rfl) ?_)
      exact ⟨rfl, trivial⟩
    intro w3 c3
    have hb3 := below_dr hb1 c3
    have hr3 : Blk w3 w.heap.size 59 (clC y) := by obtain ⟨m, rfl⟩ := c3; exact hr1
    refine wx_next ?_
    refine wc_cond (by kernel_rfl) rfl (fun h2 => ?_) (fun h2 => ?_)
    · skip
      have hp := h2
      refine wc_seq ?_
      refine wc_region ?_
      refine wl_val 17 (by kernel_rfl) ((op_move (v := .int .i64 _) rfl)) ?_
      refine wl_val 4 (by kernel_rfl) ((op_assign (v := .int .i64 _) rfl)) ?_
      refine wl_nil ?_
      refine wx_next ?_
      refine wc_ret ?_
      refine wx_inR ?_
      refine wx_thenR ?_
      refine wx_thenR ?_
      refine wx_inR ?_
      refine wx_thenR ?_
      refine wx_ret1 rfl (by kernel_rfl) (show _ = .int .i64 _ from rfl) ?_
      first | exact ⟨ret_int (idxI_at hfi hx hp).symm, hb3⟩ | exact ⟨ret_int hnone.symm, hb1⟩
    · skip
      have hp := h2
      refine wc_skip ?_
      refine wx_inN ?_
      refine wx_next ?_
      refine wc_region ?_
      refine wl_val 18 (by kernel_rfl) ((op_add rfl rfl (by omega))) ?_
      refine wl_val 8 (by kernel_rfl) ((op_move (v := .int .i64 _) rfl)) ?_
      refine wl_nil ?_
      refine wx_round (k + 1) (sub_cons (by kernel_rfl) rfl (sub_cons (by kernel_rfl) rfl (sub_cons (by kernel_rfl) rfl (sub_cons (by kernel_rfl) rfl (sub_cons (by kernel_rfl) rfl sub_nil))))) ⟨hlt, fi_past hfi hx hp, hb3, hr3⟩ (by omega)
  · skip
    have hge : l.length ≤ k := by have := of_decide_eq_false h1; omega
    have hnone := idxI_none (p := clEq y) (l := l) (by omega)
    refine wc_exit ?_
    refine wx_thenE ?_
    refine wx_thenE ?_
    refine wx_here ?_
    refine wx_next ?_
    refine wc_seq ?_
    refine wc_region ?_
    refine wl_val 4 (by kernel_rfl) ((op_assign (v := .int .i64 _) rfl)) ?_
    refine wl_nil ?_
    refine wx_next ?_
    refine wc_ret ?_
    refine wx_ret1 rfl (by kernel_rfl) (show _ = .int .i64 _ from rfl) ?_
    first | exact ⟨ret_int (idxI_at hfi hx hp).symm, hb3⟩ | exact ⟨ret_int hnone.symm, hb1⟩
theorem idx_any {α : Type} {p : α → Bool} {l : List α} : decide (0 ≤ idxI p l) = l.any p := by
  unfold idxI
  cases h : l.any p <;> simp
theorem hasClaim_any (A : Option Addr) (c : Nat) (l : List Clm) (y : Clm) (w : World) (hL : Rd w w.heap.size 5 ClR A l) :
    Calls Tryd.prog 37 #[.slice A l.length c, .agg (clC y).toArray] w fun e w' => e = .returned (.bool (l.any (clEq y))) ∧ Below w.heap.size w w' := by
  refine calls_wc (n := 9) Tryd.func37 rfl rfl (Nat.le_of_ble_eq_true rfl) ?_
  refine wc_seq ?_
  refine wc_region ?_
  refine wl_new 3 (by kernel_rfl) (op_boxA (cs := (clC y)) rfl) ?_
  intro w1 hw1
  have hb1 : Below w.heap.size w w1 := by rw [hw1]; exact (Below.refl _ _).alloc (Nat.le_refl _) _
  have hr1 : Blk w1 w.heap.size 59 (clC y) := by rw [hw1]; exact Blk.new w _ _
  clear hw1
  refine wl_val 4 (by kernel_rfl) ((op_assign (v := .bool false) rfl)) ?_
  refine wl_nil ?_
  refine wx_next ?_
  refine wc_seq ?_
  refine wc_region ?_
  refine wl_val 5 (by kernel_rfl) ((op_move (v := .slice _ _ _) rfl)) ?_
  refine wl_val 6 (by kernel_rfl) ((op_loadR (clC y) rfl (by kernel_rfl) (fun j u hu => by simpa using hr1.at_ j hu))) ?_
  refine wl_call 7 (by kernel_rfl) (op_call (by kernel_rfl)) (idxClaim_any A c l y _ ((hL.below hb1).more hb1.size)) ?_
  rintro e w2 ⟨rfl, hb2⟩
  have hb12 := hb1.trans (hb2.mono hb1.size)
  refine ⟨_, rfl, ?_⟩
  refine wl_val 8 (by kernel_rfl) ((op_geq rfl rfl)) ?_
  refine wl_val 4 (by kernel_rfl) ((op_assign (v := .bool _) rfl)) ?_
  refine wl_nil ?_
  refine wx_next ?_
  refine wc_ret ?_
  refine wx_ret1 rfl (by kernel_rfl) (show _ = .bool _ from rfl) ?_
  exact ⟨ret_bool idx_any, hb12⟩
end Go.Proofs.YtahnplemladjeaaDoor
