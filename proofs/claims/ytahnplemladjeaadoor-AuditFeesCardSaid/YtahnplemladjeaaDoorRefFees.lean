/- The walk of recyclingref59.Fees. -/
import Derived.Test.YtahnplemladjeaaDoorRefSt
namespace Go.Proofs.YtahnplemladjeaaDoor
open Go.RowKit

theorem costBad_re {costs : List Int} {l : List Fee} {k : Nat} {c : Int} (hc : costs[k]? = some c) : costBad costs l k = (!(reAcc k l).2 || decide ((reAcc k l).1 ≠ c)) := by
  obtain ⟨h1, h2⟩ := acc_same k l
  unfold costBad
  rw [List.getD_eq_getElem?_getD, hc, h1]
  cases hb : (feAcc k l).2 with
  | false => rfl
  | true => rw [h2 hb]; simp; rw [Bool.eq_iff_iff]; simp
set_option maxRecDepth 10000 in
theorem refFees_any (now hh cc as_ em ta gap tr ins bins ba pr sa cl pa bi po : Value) (coA : Option Addr) (cc1 : Nat) (costs : List Int) (hn : costs.length ≤ 16) (feA : Option Addr) (cf : Nat) (l : List Fee) (hl : l.length ≤ 512) (w : World)
    (hC : Rd w w.heap.size 1 IntR coA costs) (hF : Rd w w.heap.size 3 FeR feA l) :
    Calls Tryd.prog 18 #[.agg #[now, hh, cc, as_, em, ta, gap, tr, ins, bins, ba, pr, sa, cl, pa, .slice coA costs.length cc1, .slice feA l.length cf, bi, po]] w fun e w' => ∃ v, e = .returned (.tuple #[v, .int .i64 0]) ∧ w'.ownsRow w.heap.size 49 3 v (feesF costs l).length ((feesF costs l).flatMap fnC) ∧ Below w.heap.size w w' := by
  obtain ⟨BK, hBK⟩ : ∃ k, k = [now, hh, cc, as_, em, ta, gap, tr, ins, bins, ba, pr, sa, cl, pa, .slice coA costs.length cc1, .slice feA l.length cf, bi, po] := ⟨_, rfl⟩
  have hcell : ∀ wr : World, Blk wr w.heap.size 40 BK → wr.cell? ⟨w.heap.size, 15, none⟩ = some (.slice coA costs.length cc1) ∧ wr.cell? ⟨w.heap.size, 16, none⟩ = some (.slice feA l.length cf) := fun wr h => by
    rw [hBK] at h
    exact ⟨h.at_ 15 rfl, h.at_ 16 rfl⟩
  refine calls_wc (n := 120) Tryd.func18 rfl rfl (Nat.le_of_ble_eq_true rfl) ?_
  refine wc_seq ?_
  refine wc_region ?_
  refine wl_new 1 (by kernel_rfl) (op_boxA rfl) ?_
  intro w1 hw1
  obtain ⟨m15, m16⟩ := hcell w1 (by rw [hw1, hBK]; exact Blk.new w _ _)
  refine wl_val 2 (by kernel_rfl) ((op_assign (v := .slice _ _ _) rfl)) ?_
  refine wl_val 3 (by kernel_rfl) ((op_assign (v := .int .i64 _) rfl)) ?_
  refine wl_nil ?_
  refine wx_next ?_
  refine wc_seq ?_
  refine wc_seq ?_
  refine wc_region ?_
  refine wl_val 10 (by kernel_rfl) ((op_fieldL (m := 15) (k := 15) rfl (by kernel_rfl) rfl)) ?_
  refine wl_val 11 (by kernel_rfl) ((op_load rfl (by kernel_rfl) (by assumption))) ?_
  refine wl_val 12 (by kernel_rfl) ((op_len rfl (by kernel_rfl))) ?_
  refine wl_val 13 (by kernel_rfl) (op_f (op_gtr rfl rfl) (by omega)) ?_
  refine wl_val 14 (by kernel_rfl) ((op_move (v := .bool false) rfl)) ?_
  refine wl_val 15 (by kernel_rfl) ((op_fieldL (m := 16) (k := 16) rfl (by kernel_rfl) rfl)) ?_
  refine wl_val 16 (by kernel_rfl) ((op_load rfl (by kernel_rfl) (by assumption))) ?_
  refine wl_val 17 (by kernel_rfl) ((op_len rfl (by kernel_rfl))) ?_
  refine wl_val 18 (by kernel_rfl) (op_f (op_gtr rfl rfl) (by omega)) ?_
  refine wl_val 19 (by kernel_rfl) ((op_pick_f (v := .bool false) rfl rfl)) ?_
  refine wl_nil ?_
  refine wx_next ?_
  refine wc_cond_f (by kernel_rfl) rfl ?_
  refine wc_skip ?_
  refine wx_next ?_
  refine wc_seq ?_
  refine wc_region ?_
  refine wl_new 20 (by kernel_rfl) (op_slice0 (el := 49) (size := 3) (bytes := 24) (by kernel_rfl)) ?_
  intro w2 hw2
  have HS : RSt w w.heap.size BK [] (.slice (some ⟨w1.heap.size, 0, none⟩) 0 0) w2 := by
    rw [hw2, hw1, hBK, World.size_alloc]; exact rst_start
  clear hw1 hw2 m15 m16
  refine wl_val 4 (by kernel_rfl) ((op_assign (v := .slice _ _ _) rfl)) ?_
  refine wl_nil ?_
  refine wx_next ?_
  refine wc_seq ?_
  refine wc_seq ?_
  refine wc_region ?_
  refine wl_val 5 (by kernel_rfl) ((op_assign (v := .int .i64 _) rfl)) ?_
  refine wl_nil ?_
  refine wx_next ?_
  refine wc_block ?_
  refine wc_loop (σ := Nat × Value) (fun s => [(1, .pointer (some ⟨w.heap.size, 0, none⟩)), (4, s.2), (5, .int .i64 s.1)]) (fun s wr => s.1 ≤ costs.length ∧ RSt w w.heap.size BK (costsF costs l s.1) s.2 wr) (fun s => costs.length - s.1) (0, .slice (some ⟨w1.heap.size, 0, none⟩) 0 0) ?_ ?_ ?_
  · exact (sub_cons (by kernel_rfl) rfl (sub_cons (by kernel_rfl) rfl (sub_cons (by kernel_rfl) rfl sub_nil)))
  · exact ⟨Nat.zero_le _, HS⟩
  intro s w1 hs
  clear HS
  obtain ⟨k, v⟩ := s
  obtain ⟨hk, HS⟩ := hs
  simp only at hk HS
  obtain ⟨m15, m16⟩ := hcell w1 HS.2.2.1
  have hfl := costsF_le costs l k
  refine wc_seq ?_
  refine wc_seq ?_
  refine wc_region ?_
  refine wl_val 21 (by kernel_rfl) ((op_move (v := .int .i64 _) rfl)) ?_
  refine wl_val 22 (by kernel_rfl) ((op_fieldL (m := 15) (k := 15) rfl (by kernel_rfl) rfl)) ?_
  refine wl_val 23 (by kernel_rfl) ((op_load rfl (by kernel_rfl) (by assumption))) ?_
  refine wl_val 24 (by kernel_rfl) ((op_len rfl (by kernel_rfl))) ?_
  refine wl_val 25 (by kernel_rfl) ((op_lss rfl rfl)) ?_
  refine wl_nil ?_
  refine wx_next ?_
  refine wc_cond (by kernel_rfl) rfl (fun h1 => ?_) (fun h1 => ?_)
  · skip
    have hlt : k < costs.length := by simpa using h1
    obtain ⟨cst, hx⟩ := get_of_lt hlt
    obtain ⟨cb, co, rfl, hcB, x0⟩ := int_cell (hC.below HS.1) hx
    refine wc_skip ?_
    refine wx_next ?_
    refine wc_seq ?_
    refine wc_block ?_
    refine wc_seq ?_
    refine wc_region ?_
    refine wl_val 6 (by kernel_rfl) ((op_assign (v := .int .i64 _) rfl)) ?_
    refine wl_val 7 (by kernel_rfl) ((op_assign (v := .bool true) rfl)) ?_
    refine wl_nil ?_
    refine wx_next ?_
    refine wc_seq ?_
    refine wc_seq ?_
    refine wc_region ?_
    refine wl_val 8 (by kernel_rfl) ((op_assign (v := .int .i64 _) rfl)) ?_
    refine wl_nil ?_
    refine wx_next ?_
    refine wc_block ?_
    refine wc_loop (σ := Nat) (fun j => [(1, .pointer (some ⟨w.heap.size, 0, none⟩)), (4, v), (5, .int .i64 k), (6, .int .i64 (reAcc k (l.take j)).1), (7, .bool (reAcc k (l.take j)).2), (8, .int .i64 j)]) (fun j wr => j ≤ l.length ∧ wr = w1) (fun j => l.length - j) 0 ?_ ?_ ?_
    · exact (sub_cons (by kernel_rfl) rfl (sub_cons (by kernel_rfl) rfl (sub_cons (by kernel_rfl) rfl (sub_cons (by kernel_rfl) rfl (sub_cons (by kernel_rfl) rfl (sub_cons (by kernel_rfl) rfl sub_nil))))))
    · exact ⟨Nat.zero_le _, rfl⟩
    intro j w2 hj
    obtain ⟨hj, rfl⟩ := hj
    refine wc_seq ?_
    refine wc_seq ?_
    refine wc_region ?_
    refine wl_val 28 (by kernel_rfl) ((op_move (v := .int .i64 _) rfl)) ?_
    refine wl_val 29 (by kernel_rfl) ((op_fieldL (m := 16) (k := 16) rfl (by kernel_rfl) rfl)) ?_
    refine wl_val 30 (by kernel_rfl) ((op_load rfl (by kernel_rfl) (by assumption))) ?_
    refine wl_val 31 (by kernel_rfl) ((op_len rfl (by kernel_rfl))) ?_
    refine wl_val 32 (by kernel_rfl) ((op_lss rfl rfl)) ?_
    refine wl_nil ?_
    refine wx_next ?_
    refine wc_cond (by kernel_rfl) rfl (fun h2 => ?_) (fun h2 => ?_)
    · skip
      have hjl : j < l.length := by simpa using h2
      obtain ⟨x, hy⟩ := get_of_lt hjl
      obtain ⟨fb, fo, rfl, hfB, y0, y1, y2⟩ := fe_cells (hF.below HS.1) hy
      have hbd := reAcc_bd k (l.take j)
      have hjt : (l.take j).length ≤ 512 := by simp; omega
      obtain ⟨bd1, bd2⟩ := hbd
      refine wc_skip ?_
      refine wx_next ?_
      refine wc_seq ?_
      refine wc_block ?_
      refine wc_seq ?_
      refine wc_seq ?_
      refine wc_region ?_
      refine wl_val 35 (by kernel_rfl) ((op_fieldL (m := 16) (k := 16) rfl (by kernel_rfl) rfl)) ?_
      refine wl_val 36 (by kernel_rfl) ((op_load rfl (by kernel_rfl) (by assumption))) ?_
      refine wl_val 37 (by kernel_rfl) ((op_move (v := .int .i64 _) rfl)) ?_
      refine wl_val 38 (by kernel_rfl) ((op_index (sz := 3) rfl rfl (by kernel_rfl) (by omega))) ?_
      refine wl_val 39 (by kernel_rfl) ((op_field (m := 1) rfl (by kernel_rfl))) ?_
      refine wl_val 40 (by kernel_rfl) ((op_load rfl (by kernel_rfl) (by assumption))) ?_
      refine wl_val 41 (by kernel_rfl) ((op_move (v := .int .i64 _) rfl)) ?_
      refine wl_val 42 (by kernel_rfl) ((op_neq rfl rfl)) ?_
      refine wl_nil ?_
      refine wx_next ?_
      refine wc_cond (by kernel_rfl) rfl (fun h3 => ?_) (fun h3 => ?_)
      · skip
        have hm := of_decide_eq_true h3
        refine wc_exit ?_
        refine wx_thenE ?_
        refine wx_here ?_
        refine wx_next ?_
        refine wc_region ?_
        refine wl_val 33 (by kernel_rfl) ((op_move (v := .int .i64 _) rfl)) ?_
        refine wl_val 34 (by kernel_rfl) ((op_add rfl rfl (by omega))) ?_
        refine wl_val 8 (by kernel_rfl) ((op_assign (v := .int .i64 _) rfl)) ?_
        refine wl_nil ?_
        refine wx_round (j + 1) (sub_cons (by kernel_rfl) rfl (sub_cons (by kernel_rfl) rfl (sub_cons (by kernel_rfl) rfl (sub_cons (by kernel_rfl) ?_ (sub_cons (by kernel_rfl) ?_ (sub_cons (by kernel_rfl) rfl sub_nil)))))) ⟨hjl, rfl⟩ (by omega)
        all_goals (rw [reAcc_in hy]; simp [reStep, eget, *])
      · skip
        have hm : x.mat = k := by have := of_decide_eq_false h3; omega
        refine wc_skip ?_
        refine wx_next ?_
        refine wc_seq ?_
        refine wc_cutE [(58, .bool (!amtOk x.amt))] ?_ ?_
        · skip
          refine wl_val 43 (by kernel_rfl) ((op_fieldL (m := 16) (k := 16) rfl (by kernel_rfl) rfl)) ?_
          refine wl_val 44 (by kernel_rfl) ((op_load rfl (by kernel_rfl) (by assumption))) ?_
          refine wl_val 45 (by kernel_rfl) ((op_move (v := .int .i64 _) rfl)) ?_
          refine wl_val 46 (by kernel_rfl) ((op_index (sz := 3) rfl rfl (by kernel_rfl) (by omega))) ?_
          refine wl_val 47 (by kernel_rfl) ((op_field (m := 2) rfl (by kernel_rfl))) ?_
          refine wl_val 48 (by kernel_rfl) ((op_load rfl (by kernel_rfl) (by assumption))) ?_
          refine wl_dec 49 (by kernel_rfl) ((op_lss rfl rfl)) (fun h4 => ?_) (fun h4 => ?_)
          · skip
            refine wl_val 50 (by kernel_rfl) ((op_move (v := .bool true) rfl)) ?_
            refine wl_skip 51 (by kernel_rfl) ?_
            refine wl_skip 52 (by kernel_rfl) ?_
            refine wl_skip 53 (by kernel_rfl) ?_
            refine wl_skip 54 (by kernel_rfl) ?_
            refine wl_skip 55 (by kernel_rfl) ?_
            refine wl_skip 56 (by kernel_rfl) ?_
            refine wl_skip 57 (by kernel_rfl) ?_
            refine wl_val 58 (by kernel_rfl) ((op_pick_t (v := .bool true) rfl rfl)) ?_
            refine leaf_e (sub_out 16 _ rfl (by kernel_rfl) ?_)
            refine ⟨congrArg Value.bool ?_, trivial⟩; rw [Bool.eq_iff_iff]; simp [amtOk] <;> omega
          · skip
            refine wl_val 50 (by kernel_rfl) ((op_move (v := .bool false) rfl)) ?_
            refine wl_val 51 (by kernel_rfl) ((op_fieldL (m := 16) (k := 16) rfl (by kernel_rfl) rfl)) ?_
            refine wl_val 52 (by kernel_rfl) ((op_load rfl (by kernel_rfl) (by assumption))) ?_
            refine wl_val 53 (by kernel_rfl) ((op_move (v := .int .i64 _) rfl)) ?_
            refine wl_val 54 (by kernel_rfl) ((op_index (sz := 3) rfl rfl (by kernel_rfl) (by omega))) ?_
            refine wl_val 55 (by kernel_rfl) ((op_field (m := 2) rfl (by kernel_rfl))) ?_
            refine wl_val 56 (by kernel_rfl) ((op_load rfl (by kernel_rfl) (by assumption))) ?_
            refine wl_val 57 (by kernel_rfl) ((op_gtr rfl rfl)) ?_
            refine wl_val 58 (by kernel_rfl) ((op_pick_f (v := .bool _) rfl rfl)) ?_
            refine leaf_e (sub_out 16 _ rfl (by kernel_rfl) ?_)
            refine ⟨congrArg Value.bool ?_, trivial⟩; rw [Bool.eq_iff_iff]; simp [amtOk] <;> omega
        refine wx_next ?_
        refine wc_cond (by kernel_rfl) rfl (fun h5 => ?_) (fun h5 => ?_)
        · skip
          have ha : amtOk x.amt = false := by simpa using h5
          refine wc_region ?_
          refine wl_val 7 (by kernel_rfl) ((op_assign (v := .bool false) rfl)) ?_
          refine wl_nil ?_
          refine wx_inN ?_
          refine wx_next ?_
          refine wc_region ?_
          refine wl_val 33 (by kernel_rfl) ((op_move (v := .int .i64 _) rfl)) ?_
          refine wl_val 34 (by kernel_rfl) ((op_add rfl rfl (by omega))) ?_
          refine wl_val 8 (by kernel_rfl) ((op_assign (v := .int .i64 _) rfl)) ?_
          refine wl_nil ?_
          refine wx_round (j + 1) (sub_cons (by kernel_rfl) rfl (sub_cons (by kernel_rfl) rfl (sub_cons (by kernel_rfl) rfl (sub_cons (by kernel_rfl) ?_ (sub_cons (by kernel_rfl) ?_ (sub_cons (by kernel_rfl) rfl sub_nil)))))) ⟨hjl, rfl⟩ (by omega)
          all_goals (rw [reAcc_in hy]; simp [reStep, eget, *])
        · skip
          have ha : amtOk x.amt = true := by simpa using h5
          obtain ⟨ha1, ha2⟩ := amtOk_bd ha
          refine wc_region ?_
          refine wl_val 59 (by kernel_rfl) ((op_move (v := .int .i64 _) rfl)) ?_
          refine wl_val 60 (by kernel_rfl) ((op_fieldL (m := 16) (k := 16) rfl (by kernel_rfl) rfl)) ?_
          refine wl_val 61 (by kernel_rfl) ((op_load rfl (by kernel_rfl) (by assumption))) ?_
          refine wl_val 62 (by kernel_rfl) ((op_move (v := .int .i64 _) rfl)) ?_
          refine wl_val 63 (by kernel_rfl) ((op_index (sz := 3) rfl rfl (by kernel_rfl) (by omega))) ?_
          refine wl_val 64 (by kernel_rfl) ((op_field (m := 2) rfl (by kernel_rfl))) ?_
          refine wl_val 65 (by kernel_rfl) ((op_load rfl (by kernel_rfl) (by assumption))) ?_
          refine wl_val 66 (by kernel_rfl) ((op_add rfl rfl (by omega))) ?_
          refine wl_val 6 (by kernel_rfl) ((op_assign (v := .int .i64 _) rfl)) ?_
          refine wl_nil ?_
          refine wx_inN ?_
          refine wx_next ?_
          refine wc_region ?_
          refine wl_val 33 (by kernel_rfl) ((op_move (v := .int .i64 _) rfl)) ?_
          refine wl_val 34 (by kernel_rfl) ((op_add rfl rfl (by omega))) ?_
          refine wl_val 8 (by kernel_rfl) ((op_assign (v := .int .i64 _) rfl)) ?_
          refine wl_nil ?_
          refine wx_round (j + 1) (sub_cons (by kernel_rfl) rfl (sub_cons (by kernel_rfl) rfl (sub_cons (by kernel_rfl) rfl (sub_cons (by kernel_rfl) ?_ (sub_cons (by kernel_rfl) ?_ (sub_cons (by kernel_rfl) rfl sub_nil)))))) ⟨hjl, rfl⟩ (by omega)
          all_goals (rw [reAcc_in hy]; simp [reStep, eget, *])
    · skip
      have hge : j = l.length := by have := of_decide_eq_false h2; omega
      subst hge
      refine wc_exit ?_
      refine wx_thenE ?_
      refine wx_thenE ?_
      refine wx_here ?_
      refine wx_next ?_
      refine wc_seq ?_
      refine wc_cutE [(77, .bool (costBad costs l k))] ?_ ?_
      · skip
        refine wl_bool 67 (by kernel_rfl) ((op_move (v := .bool _) rfl)) (fun h6 => ?_) (fun h6 => ?_)
        · skip
          refine wl_val 68 (by kernel_rfl) ((op_nott rfl)) ?_
          refine wl_val 69 (by kernel_rfl) ((op_move (v := .bool false) rfl)) ?_
          refine wl_val 70 (by kernel_rfl) ((op_move (v := .int .i64 _) rfl)) ?_
          refine wl_val 71 (by kernel_rfl) ((op_fieldL (m := 15) (k := 15) rfl (by kernel_rfl) rfl)) ?_
          refine wl_val 72 (by kernel_rfl) ((op_load rfl (by kernel_rfl) (by assumption))) ?_
          refine wl_val 73 (by kernel_rfl) ((op_move (v := .int .i64 _) rfl)) ?_
          refine wl_val 74 (by kernel_rfl) ((op_index1 rfl rfl (by kernel_rfl) (by omega))) ?_
          refine wl_val 75 (by kernel_rfl) ((op_load rfl (by kernel_rfl) (by assumption))) ?_
          refine wl_val 76 (by kernel_rfl) ((op_neq rfl rfl)) ?_
          refine wl_val 77 (by kernel_rfl) ((op_pick_f (v := .bool _) rfl rfl)) ?_
          refine leaf_e (sub_out 11 _ rfl (by kernel_rfl) ?_)
          refine ⟨congrArg Value.bool ?_, trivial⟩; rw [costBad_re hx]; simp_all
        · skip
          refine wl_val 68 (by kernel_rfl) ((op_notf rfl)) ?_
          refine wl_val 69 (by kernel_rfl) ((op_move (v := .bool true) rfl)) ?_
          refine wl_skip 70 (by kernel_rfl) ?_
          refine wl_skip 71 (by kernel_rfl) ?_
          refine wl_skip 72 (by kernel_rfl) ?_
          refine wl_skip 73 (by kernel_rfl) ?_
          refine wl_skip 74 (by kernel_rfl) ?_
          refine wl_skip 75 (by kernel_rfl) ?_
          refine wl_skip 76 (by kernel_rfl) ?_
          refine wl_val 77 (by kernel_rfl) ((op_pick_t (v := .bool true) rfl rfl)) ?_
          refine leaf_e (sub_out 11 _ rfl (by kernel_rfl) ?_)
          refine ⟨congrArg Value.bool ?_, trivial⟩; rw [costBad_re hx]; simp_all
      refine wx_next ?_
      refine wc_cond (by kernel_rfl) rfl (fun h7 => ?_) (fun h7 => ?_)
      · skip
        have hcb := h7
        refine wc_region ?_
        refine wl_val 78 (by kernel_rfl) ((op_move (v := _) rfl)) ?_
        refine wl_val 79 (by kernel_rfl) ((op_move (v := .int .i64 _) rfl)) ?_
        refine wl_val 80 (by kernel_rfl) ((op_build (z := [.int .i64 0, .int .i64 0, .int .i64 0]) (tab := [(0, 1), (1, 1), (2, 1)]) (cs := [.int .i64 _, .int .i64 _, .int .i64 _]) [(0, [.int .i64 _]), (1, [.int .i64 _])] (by kernel_rfl) (by kernel_rfl) (fillOk_cons rfl rfl rfl (fillOk_cons rfl rfl rfl fillOk_nil)) rfl)) ?_
        refine wl_new 81 (by kernel_rfl) (op_slice1 (el := 49) (size := 3) (bytes := 24) [.int .i64 _, .int .i64 _, .int .i64 _] (by kernel_rfl) rfl rfl rfl) ?_
        intro w3 hw3
        refine wl_push 82 ⟨9, k, 0⟩ (by kernel_rfl) rfl rfl HS hw3 (by omega) ?_
        intro v3 w4 HS3
        clear hw3
        refine wl_val 4 (by kernel_rfl) ((op_assign (v := _) rfl)) ?_
        refine wl_nil ?_
        refine wx_inN ?_
        refine wx_next ?_
        refine wc_region ?_
        refine wl_val 26 (by kernel_rfl) ((op_move (v := .int .i64 _) rfl)) ?_
        refine wl_val 27 (by kernel_rfl) ((op_add rfl rfl (by omega))) ?_
        refine wl_val 5 (by kernel_rfl) ((op_assign (v := .int .i64 _) rfl)) ?_
        refine wl_nil ?_
        refine wx_round (k + 1, _) (sub_cons (by kernel_rfl) rfl (sub_cons (by kernel_rfl) rfl (sub_cons (by kernel_rfl) rfl sub_nil))) ⟨hlt, ?_⟩ (by simp only; omega)
        simp only [costsF]
        rw [hcb]
        first | exact HS3 | (simp only [Bool.false_eq_true, if_false, List.append_nil]; exact HS)
      · skip
        have hcb := h7
        refine wc_skip ?_
        refine wx_inN ?_
        refine wx_next ?_
        refine wc_region ?_
        refine wl_val 26 (by kernel_rfl) ((op_move (v := .int .i64 _) rfl)) ?_
        refine wl_val 27 (by kernel_rfl) ((op_add rfl rfl (by omega))) ?_
        refine wl_val 5 (by kernel_rfl) ((op_assign (v := .int .i64 _) rfl)) ?_
        refine wl_nil ?_
        refine wx_round (k + 1, _) (sub_cons (by kernel_rfl) rfl (sub_cons (by kernel_rfl) rfl (sub_cons (by kernel_rfl) rfl sub_nil))) ⟨hlt, ?_⟩ (by simp only; omega)
        simp only [costsF]
        rw [hcb]
        first | exact HS3 | (simp only [Bool.false_eq_true, if_false, List.append_nil]; exact HS)
  · skip
    have hge : k = costs.length := by have := of_decide_eq_false h1; omega
    subst hge
    refine wc_exit ?_
    refine wx_thenE ?_
    refine wx_thenE ?_
    refine wx_here ?_
    refine wx_next ?_
    refine wc_seq ?_
    refine wc_seq ?_
    refine wc_region ?_
    refine wl_val 9 (by kernel_rfl) ((op_assign (v := .int .i64 _) rfl)) ?_
    refine wl_nil ?_
    refine wx_next ?_
    refine wc_block ?_
    refine wc_loop (σ := Nat × Value) (fun s => [(1, .pointer (some ⟨w.heap.size, 0, none⟩)), (4, s.2), (9, .int .i64 s.1)]) (fun s wr => s.1 ≤ l.length ∧ RSt w w.heap.size BK (costsF costs l costs.length ++ strayF costs.length (l.take s.1)) s.2 wr) (fun s => l.length - s.1) (0, v) ?_ ?_ ?_
    · exact (sub_cons (by kernel_rfl) rfl (sub_cons (by kernel_rfl) rfl (sub_cons (by kernel_rfl) rfl sub_nil)))
    · exact ⟨Nat.zero_le _, by simpa [strayF] using HS⟩
    intro s w2 hs
    clear m15 m16 HS
    obtain ⟨j, v2⟩ := s
    obtain ⟨hj, HS⟩ := hs
    simp only at hj HS
    obtain ⟨m15, m16⟩ := hcell w2 HS.2.2.1
    have hsl := strayF_le costs.length (l.take j)
    have hjt : (l.take j).length ≤ 512 := by simp; omega
    have hsum : (costsF costs l costs.length ++ strayF costs.length (l.take j)).length ≤ 1000 := by simp only [List.length_append]; omega
    refine wc_seq ?_
    refine wc_seq ?_
    refine wc_region ?_
    refine wl_val 83 (by kernel_rfl) ((op_move (v := .int .i64 _) rfl)) ?_
    refine wl_val 84 (by kernel_rfl) ((op_fieldL (m := 16) (k := 16) rfl (by kernel_rfl) rfl)) ?_
    refine wl_val 85 (by kernel_rfl) ((op_load rfl (by kernel_rfl) (by assumption))) ?_
    refine wl_val 86 (by kernel_rfl) ((op_len rfl (by kernel_rfl))) ?_
    refine wl_val 87 (by kernel_rfl) ((op_lss rfl rfl)) ?_
    refine wl_nil ?_
    refine wx_next ?_
    refine wc_cond (by kernel_rfl) rfl (fun h8 => ?_) (fun h8 => ?_)
    · skip
      have hjl : j < l.length := by simpa using h8
      obtain ⟨x, hy⟩ := get_of_lt hjl
      obtain ⟨fb, fo, rfl, hfB, y0, y1, y2⟩ := fe_cells (hF.below HS.1) hy
      refine wc_skip ?_
      refine wx_next ?_
      refine wc_seq ?_
      refine wc_block ?_
      refine wc_seq ?_
      refine wc_drawn (Dr w2) [(108, .bool (strayB costs.length x))] (by kernel_rfl) (by kernel_rfl) (Dr.one _) ?_ ?_
      · skip
        refine wq_val 90 (by kernel_rfl) (fun w1 c1 => (op_fieldL (m := 16) (k := 16) rfl (by kernel_rfl) rfl)) ?_
        refine wq_val 91 (by kernel_rfl) (fun w1 c1 => (op_load rfl (by kernel_rfl) ((c1.cell _).trans (by assumption)))) ?_
        refine wq_val 92 (by kernel_rfl) (fun w1 c1 => (op_move (v := .int .i64 _) rfl)) ?_
        refine wq_val 93 (by kernel_rfl) (fun w1 c1 => (op_index (sz := 3) rfl rfl (by kernel_rfl) (by omega))) ?_
        refine wq_val 94 (by kernel_rfl) (fun w1 c1 => (op_field (m := 1) rfl (by kernel_rfl))) ?_
        refine wq_val 95 (by kernel_rfl) (fun w1 c1 => (op_load rfl (by kernel_rfl) ((c1.cell _).trans (by assumption)))) ?_
        refine wq_dec 96 (by kernel_rfl) (fun w1 c1 => (op_lss rfl rfl)) (fun h9 => ?_) (fun h9 => ?_)
        · skip
          refine wq_val 97 (by kernel_rfl) (fun w1 c1 => (op_move (v := .bool true) rfl)) ?_
          refine wq_skip 98 (by kernel_rfl) ?_
          refine wq_skip 99 (by kernel_rfl) ?_
          refine wq_skip 100 (by kernel_rfl) ?_
          refine wq_skip 101 (by kernel_rfl) ?_
          refine wq_skip 102 (by kernel_rfl) ?_
          refine wq_skip 103 (by kernel_rfl) ?_
          refine wq_skip 104 (by kernel_rfl) ?_
          refine wq_skip 105 (by kernel_rfl) ?_
          refine wq_skip 106 (by kernel_rfl) ?_
          refine wq_skip 107 (by kernel_rfl) ?_
          refine wq_val 108 (by kernel_rfl) (fun w1 c1 => (op_pick_t (v := .bool true) rfl rfl)) ?_
          refine leaf_q (sub_out 19 _ rfl (by kernel_rfl) ?_)
          refine ⟨congrArg Value.bool ?_, trivial⟩; simp_all [strayB]
        · skip
          refine wq_val 97 (by kernel_rfl) (fun w1 c1 => (op_move (v := .bool false) rfl)) ?_
          refine wq_val 98 (by kernel_rfl) (fun w1 c1 => (op_fieldL (m := 16) (k := 16) rfl (by kernel_rfl) rfl)) ?_
          refine wq_val 99 (by kernel_rfl) (fun w1 c1 => (op_load rfl (by kernel_rfl) ((c1.cell _).trans (by assumption)))) ?_
          refine wq_val 100 (by kernel_rfl) (fun w1 c1 => (op_move (v := .int .i64 _) rfl)) ?_
          refine wq_val 101 (by kernel_rfl) (fun w1 c1 => (op_index (sz := 3) rfl rfl (by kernel_rfl) (by omega))) ?_
          refine wq_val 102 (by kernel_rfl) (fun w1 c1 => (op_field (m := 1) rfl (by kernel_rfl))) ?_
          refine wq_val 103 (by kernel_rfl) (fun w1 c1 => (op_load rfl (by kernel_rfl) ((c1.cell _).trans (by assumption)))) ?_
          refine wq_val 104 (by kernel_rfl) (fun w1 c1 => (op_fieldL (m := 15) (k := 15) rfl (by kernel_rfl) rfl)) ?_
          refine wq_val 105 (by kernel_rfl) (fun w1 c1 => (op_load rfl (by kernel_rfl) ((c1.cell _).trans (by assumption)))) ?_
          refine wq_val 106 (by kernel_rfl) (fun w1 c1 => (op_len rfl (by kernel_rfl))) ?_
          refine wq_dec 107 (by kernel_rfl) (fun w1 c1 => (op_geq rfl rfl)) (fun h10 => ?_) (fun h10 => ?_)
          · skip
            refine wq_val 108 (by kernel_rfl) (fun w1 c1 => (op_pick_f (v := .bool true) rfl rfl)) ?_
            refine leaf_q (sub_out 19 _ rfl (by kernel_rfl) ?_)
            refine ⟨congrArg Value.bool ?_, trivial⟩; simp_all [strayB]
          · skip
            refine wq_val 108 (by kernel_rfl) (fun w1 c1 => (op_pick_f (v := .bool false) rfl rfl)) ?_
            refine leaf_q (sub_out 19 _ rfl (by kernel_rfl) ?_)
            refine ⟨congrArg Value.bool ?_, trivial⟩; simp_all [strayB]
      intro w3 c3
      have HS2 := HS.dr c3
      obtain ⟨m15b, m16b⟩ := hcell w3 HS2.2.2.1
      have y1b := (c3.cell _).trans y1
      clear HS m15 m16 y0 y1 y2
      have HS := HS2
      clear HS2
      refine wx_next ?_
      refine wc_cond (by kernel_rfl) rfl (fun h11 => ?_) (fun h11 => ?_)
      · skip
        have hcb := h11
        refine wc_region ?_
        refine wl_val 109 (by kernel_rfl) ((op_move (v := _) rfl)) ?_
        refine wl_val 110 (by kernel_rfl) ((op_fieldL (m := 16) (k := 16) rfl (by kernel_rfl) rfl)) ?_
        refine wl_val 111 (by kernel_rfl) ((op_load rfl (by kernel_rfl) (by assumption))) ?_
        refine wl_val 112 (by kernel_rfl) ((op_move (v := .int .i64 _) rfl)) ?_
        refine wl_val 113 (by kernel_rfl) ((op_index (sz := 3) rfl rfl (by kernel_rfl) (by omega))) ?_
        refine wl_val 114 (by kernel_rfl) ((op_field (m := 1) rfl (by kernel_rfl))) ?_
        refine wl_val 115 (by kernel_rfl) ((op_load rfl (by kernel_rfl) (by assumption))) ?_
        refine wl_val 116 (by kernel_rfl) ((op_build (z := [.int .i64 0, .int .i64 0, .int .i64 0]) (tab := [(0, 1), (1, 1), (2, 1)]) (cs := [.int .i64 _, .int .i64 _, .int .i64 _]) [(0, [.int .i64 _]), (1, [.int .i64 _])] (by kernel_rfl) (by kernel_rfl) (fillOk_cons rfl rfl rfl (fillOk_cons rfl rfl rfl fillOk_nil)) rfl)) ?_
        refine wl_new 117 (by kernel_rfl) (op_slice1 (el := 49) (size := 3) (bytes := 24) [.int .i64 _, .int .i64 _, .int .i64 _] (by kernel_rfl) rfl rfl rfl) ?_
        intro w4 hw4
        refine wl_push 118 ⟨9, x.mat, 0⟩ (by kernel_rfl) rfl rfl HS hw4 (by omega) ?_
        intro v3 w5 HS3
        clear hw4
        refine wl_val 4 (by kernel_rfl) ((op_assign (v := _) rfl)) ?_
        refine wl_nil ?_
        refine wx_inN ?_
        refine wx_next ?_
        refine wc_region ?_
        refine wl_val 88 (by kernel_rfl) ((op_move (v := .int .i64 _) rfl)) ?_
        refine wl_val 89 (by kernel_rfl) ((op_add rfl rfl (by omega))) ?_
        refine wl_val 9 (by kernel_rfl) ((op_assign (v := .int .i64 _) rfl)) ?_
        refine wl_nil ?_
        refine wx_round (j + 1, _) (sub_cons (by kernel_rfl) rfl (sub_cons (by kernel_rfl) rfl (sub_cons (by kernel_rfl) rfl sub_nil))) ⟨hjl, ?_⟩ (by simp only; omega)
        simp only
        rw [strayF_in hy, ← List.append_assoc, hcb]
        first | exact HS3 | (simp only [Bool.false_eq_true, if_false, List.append_nil]; exact HS)
      · skip
        have hcb := h11
        refine wc_skip ?_
        refine wx_inN ?_
        refine wx_next ?_
        refine wc_region ?_
        refine wl_val 88 (by kernel_rfl) ((op_move (v := .int .i64 _) rfl)) ?_
        refine wl_val 89 (by kernel_rfl) ((op_add rfl rfl (by omega))) ?_
        refine wl_val 9 (by kernel_rfl) ((op_assign (v := .int .i64 _) rfl)) ?_
        refine wl_nil ?_
        refine wx_round (j + 1, _) (sub_cons (by kernel_rfl) rfl (sub_cons (by kernel_rfl) rfl (sub_cons (by kernel_rfl) rfl sub_nil))) ⟨hjl, ?_⟩ (by simp only; omega)
        simp only
        rw [strayF_in hy, ← List.append_assoc, hcb]
        first | exact HS3 | (simp only [Bool.false_eq_true, if_false, List.append_nil]; exact HS)
    · skip
      have hge : j = l.length := by have := of_decide_eq_false h8; omega
      subst hge
      refine wc_exit ?_
      refine wx_thenE ?_
      refine wx_thenE ?_
      refine wx_here ?_
      refine wx_next ?_
      refine wc_seq ?_
      refine wc_region ?_
      refine wl_val 119 (by kernel_rfl) ((op_move (v := _) rfl)) ?_
      refine wl_val 2 (by kernel_rfl) ((op_assign (v := _) rfl)) ?_
      refine wl_val 3 (by kernel_rfl) ((op_assign (v := .int .i64 _) rfl)) ?_
      refine wl_nil ?_
      refine wx_next ?_
      refine wc_ret ?_
      refine wx_ret2 rfl (by kernel_rfl) (show _ = _ from rfl) (by kernel_rfl) (show _ = .int .i64 _ from rfl) ?_
      rw [List.take_length] at HS
      exact ⟨_, rfl, HS.2.2.2, HS.1⟩
end Go.Proofs.YtahnplemladjeaaDoor
