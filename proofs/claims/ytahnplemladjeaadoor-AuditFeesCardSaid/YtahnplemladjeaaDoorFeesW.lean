/- The walk of audit.Fees. -/
import Derived.Test.YtahnplemladjeaaDoorRefSt
namespace Go.Proofs.YtahnplemladjeaaDoor
open Go.RowKit

theorem APre.cellB {w wr : World} {N : Nat} {bk : List Value} {fs : List Fnd} (h : APre w N bk fs wr) : Blk wr N 40 bk := h.2.2.1
theorem costBad_fe {costs : List Int} {l : List Fee} {k : Nat} {c : Int} (hc : costs[k]? = some c) : costBad costs l k = (!(feAcc k l).2 || decide ((feAcc k l).1 ≠ c)) := by
  unfold costBad
  rw [List.getD_eq_getElem?_getD, hc]
  cases (feAcc k l).2 <;> simp; rw [Bool.eq_iff_iff]; simp
set_option maxRecDepth 10000 in
theorem fees_any (now hh cc as_ em ta gap tr ins bins ba pr sa cl pa bi po : Value) (coA : Option Addr) (cc1 : Nat) (costs : List Int) (hn : costs.length ≤ 16) (feA : Option Addr) (cf : Nat) (l : List Fee) (hl : l.length ≤ 512) (w : World)
    (hC : Rd w w.heap.size 1 IntR coA costs) (hF : Rd w w.heap.size 3 FeR feA l) :
    Calls Tryd.prog 19 #[.agg #[now, hh, cc, as_, em, ta, gap, tr, ins, bins, ba, pr, sa, cl, pa, .slice coA costs.length cc1, .slice feA l.length cf, bi, po]] w fun e w' => ∃ v, e = .returned (.tuple #[v, .int .i64 0]) ∧ w'.ownsRow w.heap.size 49 3 v (feesF costs l).length ((feesF costs l).flatMap fnC) ∧ Below w.heap.size w w' := by
  obtain ⟨BK, hBK⟩ : ∃ k, k = [now, hh, cc, as_, em, ta, gap, tr, ins, bins, ba, pr, sa, cl, pa, .slice coA costs.length cc1, .slice feA l.length cf, bi, po] := ⟨_, rfl⟩
  have hcell : ∀ wr : World, Blk wr w.heap.size 40 BK → wr.cell? ⟨w.heap.size, 15, none⟩ = some (.slice coA costs.length cc1) ∧ wr.cell? ⟨w.heap.size, 16, none⟩ = some (.slice feA l.length cf) := fun wr h => by
    rw [hBK] at h
    exact ⟨h.at_ 15 rfl, h.at_ 16 rfl⟩
  refine calls_wc (n := 96) Tryd.func19 rfl rfl (Nat.le_of_ble_eq_true rfl) ?_
  refine wc_seq ?_
  refine wc_region ?_
  refine wl_new 1 (by kernel_rfl) (op_boxA rfl) ?_
  intro w1 hw1
  obtain ⟨m15, m16⟩ := hcell w1 (by rw [hw1, hBK]; exact Blk.new w _ _)
  refine wl_val 2 (by kernel_rfl) ((op_assign (v := .slice _ _ _) rfl)) ?_
  refine wl_val 3 (by kernel_rfl) ((op_assign (v := .int .i64 _) rfl)) ?_
  refine wl_nil ?_
  refine wx_next ?_
  refine wc_seq ?_
  refine wc_seq ?_
  refine wc_region ?_
  refine wl_val 14 (by kernel_rfl) ((op_fieldL (m := 15) (k := 15) rfl (by kernel_rfl) rfl)) ?_
  refine wl_val 15 (by kernel_rfl) ((op_load rfl (by kernel_rfl) (by assumption))) ?_
  refine wl_val 16 (by kernel_rfl) ((op_len rfl (by kernel_rfl))) ?_
  refine wl_val 17 (by kernel_rfl) (op_f (op_gtr rfl rfl) (by omega)) ?_
  refine wl_val 18 (by kernel_rfl) ((op_move (v := .bool false) rfl)) ?_
  refine wl_val 19 (by kernel_rfl) ((op_fieldL (m := 16) (k := 16) rfl (by kernel_rfl) rfl)) ?_
  refine wl_val 20 (by kernel_rfl) ((op_load rfl (by kernel_rfl) (by assumption))) ?_
  refine wl_val 21 (by kernel_rfl) ((op_len rfl (by kernel_rfl))) ?_
  refine wl_val 22 (by kernel_rfl) (op_f (op_gtr rfl rfl) (by omega)) ?_
  refine wl_val 23 (by kernel_rfl) ((op_pick_f (v := .bool false) rfl rfl)) ?_
  refine wl_nil ?_
  refine wx_next ?_
  refine wc_cond_f (by kernel_rfl) rfl ?_
  refine wc_skip ?_
  refine wx_next ?_
  refine wc_seq ?_
  refine wc_region ?_
  refine wl_new 4 (by kernel_rfl) (op_alloc (v := .slice none 0 0) [.slice none 0 0] (by kernel_rfl) rfl) ?_
  intro w2 hw2
  refine wl_nil ?_
  refine wx_next ?_
  refine wc_seq ?_
  refine wc_region ?_
  refine wl_call 24 (by kernel_rfl) (op_call (by kernel_rfl)) (collector_any _ _) ?_
  rintro e w3 ⟨rfl, hw3⟩
  have HS : APre w w.heap.size BK [] w3 := by
    rw [← hw3, hw2, hw1, hBK, World.size_alloc]; exact apre_start
  obtain ⟨m15, m16⟩ := hcell w3 HS.cellB
  have e1 : w1.heap.size = w.heap.size + 1 := by rw [hw1]; simp
  have e2 : w2.heap.size = w.heap.size + 1 + 1 := by rw [hw2]; simp [e1]
  clear hw1 hw2 hw3
  refine ⟨_, rfl, ?_⟩
  refine wl_val 5 (by kernel_rfl) ((op_assign (v := .func _ _ _) rfl)) ?_
  refine wl_nil ?_
  refine wx_next ?_
  refine wc_seq ?_
  refine wc_seq ?_
  refine wc_region ?_
  refine wl_val 25 (by kernel_rfl) ((op_fieldL (m := 15) (k := 15) rfl (by kernel_rfl) rfl)) ?_
  refine wl_val 26 (by kernel_rfl) ((op_load rfl (by kernel_rfl) (by assumption))) ?_
  refine wl_val 27 (by kernel_rfl) ((op_len rfl (by kernel_rfl))) ?_
  refine wl_val 28 (by kernel_rfl) ((op_move (v := .int .i64 _) rfl)) ?_
  refine wl_nil ?_
  refine wx_next ?_
  refine wc_block ?_
  refine wc_loop (σ := Nat) (fun k => [(1, .pointer (some ⟨w.heap.size, 0, none⟩)), (4, .pointer (some ⟨w.heap.size + 1, 0, none⟩)), (5, .func (.func 45) #[] #[.pointer (some ⟨w.heap.size + 1 + 1, 0, none⟩)]), (26, .slice coA costs.length cc1), (27, .int .i64 costs.length), (28, .int .i64 k)]) (fun k wr => k ≤ costs.length ∧ APre w w.heap.size BK (costsF costs l k) wr) (fun k => costs.length - k) 0 ?_ ?_ ?_
  · exact (sub_cons (by kernel_rfl) rfl (sub_cons (by kernel_rfl) (by rw [← e1]; rfl) (sub_cons (by kernel_rfl) (by rw [← e2]; rfl) (sub_cons (by kernel_rfl) rfl (sub_cons (by kernel_rfl) rfl (sub_cons (by kernel_rfl) rfl sub_nil))))))
  · exact ⟨Nat.zero_le _, HS⟩
  intro k w1 hs
  clear HS m15 m16
  obtain ⟨hk, HS⟩ := hs
  obtain ⟨m15, m16⟩ := hcell w1 HS.cellB
  have hfl := costsF_le costs l k
  refine wc_seq ?_
  refine wc_region ?_
  refine wl_val 29 (by kernel_rfl) ((op_lss rfl rfl)) ?_
  refine wl_nil ?_
  refine wx_next ?_
  refine wc_seq ?_
  refine wc_cond (by kernel_rfl) rfl (fun h1 => ?_) (fun h1 => ?_)
  · skip
    have hlt : k < costs.length := by simpa using h1
    obtain ⟨cst, hx⟩ := get_of_lt hlt
    obtain ⟨cb, co, rfl, hcB, x0⟩ := int_cell (hC.below HS.1) hx
    refine wc_skip ?_
    refine wx_next ?_
    refine wc_seq ?_
    refine wc_block ?_
    refine wc_seq ?_
    refine wc_region ?_
    refine wl_val 30 (by kernel_rfl) ((op_move (v := .int .i64 _) rfl)) ?_
    refine wl_val 31 (by kernel_rfl) ((op_index1 rfl rfl (by kernel_rfl) (by omega))) ?_
    refine wl_val 32 (by kernel_rfl) ((op_load rfl (by kernel_rfl) (by assumption))) ?_
    refine wl_val 6 (by kernel_rfl) ((op_assign (v := .int .i64 _) rfl)) ?_
    refine wl_val 7 (by kernel_rfl) ((op_assign (v := .int .i64 _) rfl)) ?_
    refine wl_nil ?_
    refine wx_next ?_
    refine wc_seq ?_
    refine wc_region ?_
    refine wl_val 8 (by kernel_rfl) ((op_assign (v := .int .i64 _) rfl)) ?_
    refine wl_val 9 (by kernel_rfl) ((op_assign (v := .bool true) rfl)) ?_
    refine wl_nil ?_
    refine wx_next ?_
    refine wc_seq ?_
    refine wc_seq ?_
    refine wc_region ?_
    refine wl_val 33 (by kernel_rfl) ((op_fieldL (m := 16) (k := 16) rfl (by kernel_rfl) rfl)) ?_
    refine wl_val 34 (by kernel_rfl) ((op_load rfl (by kernel_rfl) (by assumption))) ?_
    refine wl_val 35 (by kernel_rfl) ((op_len rfl (by kernel_rfl))) ?_
    refine wl_val 36 (by kernel_rfl) ((op_move (v := .int .i64 _) rfl)) ?_
    refine wl_nil ?_
    refine wx_next ?_
    refine wc_block ?_
    refine wc_loop (σ := Nat) (fun j => [(1, .pointer (some ⟨w.heap.size, 0, none⟩)), (4, .pointer (some ⟨w.heap.size + 1, 0, none⟩)), (5, .func (.func 45) #[] #[.pointer (some ⟨w.heap.size + 1 + 1, 0, none⟩)]), (26, .slice (some ⟨cb, co, none⟩) costs.length cc1), (27, .int .i64 costs.length), (28, .int .i64 k), (6, .int .i64 k), (7, .int .i64 cst), (8, .int .i64 (feAcc k (l.take j)).1), (9, .bool (feAcc k (l.take j)).2), (34, .slice feA l.length cf), (35, .int .i64 l.length), (36, .int .i64 j)]) (fun j wr => j ≤ l.length ∧ APre w w.heap.size BK (costsF costs l k) wr) (fun j => l.length - j) 0 ?_ ?_ ?_
    · exact (sub_cons (by kernel_rfl) rfl (sub_cons (by kernel_rfl) rfl (sub_cons (by kernel_rfl) rfl (sub_cons (by kernel_rfl) rfl (sub_cons (by kernel_rfl) rfl (sub_cons (by kernel_rfl) rfl (sub_cons (by kernel_rfl) rfl (sub_cons (by kernel_rfl) rfl (sub_cons (by kernel_rfl) rfl (sub_cons (by kernel_rfl) rfl (sub_cons (by kernel_rfl) rfl (sub_cons (by kernel_rfl) rfl (sub_cons (by kernel_rfl) rfl sub_nil)))))))))))))
    · exact ⟨Nat.zero_le _, HS⟩
    intro j w2 hj
    clear HS m15 m16 x0
    obtain ⟨hj, HS⟩ := hj
    refine wc_seq ?_
    refine wc_region ?_
    refine wl_val 37 (by kernel_rfl) ((op_lss rfl rfl)) ?_
    refine wl_nil ?_
    refine wx_next ?_
    refine wc_seq ?_
    refine wc_cond (by kernel_rfl) rfl (fun h2 => ?_) (fun h2 => ?_)
    · skip
      have hjl : j < l.length := by simpa using h2
      obtain ⟨x, hy⟩ := get_of_lt hjl
      obtain ⟨fb, fo, rfl, hfB, y0, y1, y2⟩ := fe_cells (hF.below HS.1) hy
      have hrow := (hF.below HS.1).row (enc := feC) hy
      have hbd := feAcc_bd k (l.take j)
      have hjt : (l.take j).length ≤ 512 := by simp; omega
      obtain ⟨bd1, bd2⟩ := hbd
      refine wc_skip ?_
      refine wx_next ?_
      refine wc_seq ?_
      refine wc_block ?_
      refine wc_seq ?_
      refine wc_region ?_
      refine wl_val 38 (by kernel_rfl) ((op_index (sz := 3) rfl rfl (by kernel_rfl) (by omega))) ?_
      refine wl_val 39 (by kernel_rfl) ((op_loadR (feC x) rfl (by kernel_rfl) hrow)) ?_
      refine wl_run 11 (by kernel_rfl) (op_alloc (v := .agg #[.int .i64 0, .int .i64 0, .int .i64 0]) [.int .i64 0, .int .i64 0, .int .i64 0] (by kernel_rfl) rfl) ?_
      refine wl_donew (by kernel_rfl) (op_fill _ (feC x) rfl rfl (by kernel_rfl) rfl rfl) ?_
      intro w3 hw3
      have HS4 : APre w w.heap.size BK (costsF costs l k) w3 := by rw [hw3]; exact HS.alloc _
      have hb3 : Blk w3 w2.heap.size 85 (feC x) := by rw [hw3]; exact Blk.new w2 _ _
      have z1 := hb3.at_ 1 rfl
      have z2 := hb3.at_ 2 rfl
      clear hw3 y0 y1 y2
      refine wl_nil ?_
      refine wx_next ?_
      refine wc_seq ?_
      refine wc_seq ?_
      refine wc_region ?_
      refine wl_val 40 (by kernel_rfl) ((op_fieldL (m := 1) (k := 1) rfl (by kernel_rfl) rfl)) ?_
      refine wl_val 41 (by kernel_rfl) ((op_load rfl (by kernel_rfl) (by assumption))) ?_
      refine wl_val 42 (by kernel_rfl) ((op_move (v := .int .i64 _) rfl)) ?_
      refine wl_val 43 (by kernel_rfl) ((op_neq rfl rfl)) ?_
      refine wl_nil ?_
      refine wx_next ?_
      refine wc_cond (by kernel_rfl) rfl (fun h3 => ?_) (fun h3 => ?_)
      · skip
        have hm := of_decide_eq_true h3
        refine wc_exit ?_
        refine wx_thenE ?_
        refine wx_here ?_
        refine wx_next ?_
        refine wc_region ?_
        refine wl_val 60 (by kernel_rfl) ((op_add rfl rfl (by omega))) ?_
        refine wl_val 36 (by kernel_rfl) ((op_move (v := .int .i64 _) rfl)) ?_
        refine wl_nil ?_
        refine wx_round (j + 1) (sub_cons (by kernel_rfl) rfl (sub_cons (by kernel_rfl) rfl (sub_cons (by kernel_rfl) rfl (sub_cons (by kernel_rfl) rfl (sub_cons (by kernel_rfl) rfl (sub_cons (by kernel_rfl) rfl (sub_cons (by kernel_rfl) rfl (sub_cons (by kernel_rfl) rfl (sub_cons (by kernel_rfl) ?_ (sub_cons (by kernel_rfl) ?_ (sub_cons (by kernel_rfl) rfl (sub_cons (by kernel_rfl) rfl (sub_cons (by kernel_rfl) rfl sub_nil))))))))))))) ⟨hjl, HS4⟩ (by omega)
        all_goals (rw [feAcc_in hy]; simp_all [feStep, eget])
      · skip
        have hm : x.mat = k := by have := of_decide_eq_false h3; omega
        refine wc_skip ?_
        refine wx_next ?_
        refine wc_seq ?_
        refine wc_cutE [(9, .bool ((feAcc k (l.take j)).2 && amtOk x.amt))] ?_ ?_
        · skip
          refine wl_bool 44 (by kernel_rfl) ((op_move (v := .bool _) rfl)) (fun h4 => ?_) (fun h4 => ?_)
          · skip
            refine wl_val 45 (by kernel_rfl) ((op_move (v := .bool true) rfl)) ?_
            refine wl_val 46 (by kernel_rfl) ((op_fieldL (m := 2) (k := 2) rfl (by kernel_rfl) rfl)) ?_
            refine wl_val 47 (by kernel_rfl) ((op_load rfl (by kernel_rfl) (by assumption))) ?_
            refine wl_dec 48 (by kernel_rfl) ((op_geq rfl rfl)) (fun h5 => ?_) (fun h5 => ?_)
            · skip
              refine wl_val 49 (by kernel_rfl) ((op_pick_t (v := .bool true) rfl rfl)) ?_
              refine wl_val 50 (by kernel_rfl) ((op_move (v := .bool true) rfl)) ?_
              refine wl_val 51 (by kernel_rfl) ((op_fieldL (m := 2) (k := 2) rfl (by kernel_rfl) rfl)) ?_
              refine wl_val 52 (by kernel_rfl) ((op_load rfl (by kernel_rfl) (by assumption))) ?_
              refine wl_val 53 (by kernel_rfl) ((op_leq rfl rfl)) ?_
              refine wl_val 54 (by kernel_rfl) ((op_pick_t (v := .bool _) rfl rfl)) ?_
              refine wl_val 9 (by kernel_rfl) ((op_assign (v := .bool _) rfl)) ?_
              refine leaf_e (sub_out 12 _ rfl (by kernel_rfl) ?_)
              refine ⟨congrArg Value.bool ?_, trivial⟩; simp_all [amtOk] <;> omega
            · skip
              refine wl_val 49 (by kernel_rfl) ((op_pick_t (v := .bool false) rfl rfl)) ?_
              refine wl_val 50 (by kernel_rfl) ((op_move (v := .bool false) rfl)) ?_
              refine wl_skip 51 (by kernel_rfl) ?_
              refine wl_skip 52 (by kernel_rfl) ?_
              refine wl_skip 53 (by kernel_rfl) ?_
              refine wl_val 54 (by kernel_rfl) ((op_pick_f (v := .bool false) rfl rfl)) ?_
              refine wl_val 9 (by kernel_rfl) ((op_assign (v := .bool false) rfl)) ?_
              refine leaf_e (sub_out 12 _ rfl (by kernel_rfl) ?_)
              refine ⟨congrArg Value.bool ?_, trivial⟩; simp_all [amtOk] <;> omega
          · skip
            refine wl_val 45 (by kernel_rfl) ((op_move (v := .bool false) rfl)) ?_
            refine wl_skip 46 (by kernel_rfl) ?_
            refine wl_skip 47 (by kernel_rfl) ?_
            refine wl_skip 48 (by kernel_rfl) ?_
            refine wl_val 49 (by kernel_rfl) ((op_pick_f (v := .bool false) rfl rfl)) ?_
            refine wl_val 50 (by kernel_rfl) ((op_move (v := .bool false) rfl)) ?_
            refine wl_skip 51 (by kernel_rfl) ?_
            refine wl_skip 52 (by kernel_rfl) ?_
            refine wl_skip 53 (by kernel_rfl) ?_
            refine wl_val 54 (by kernel_rfl) ((op_pick_f (v := .bool false) rfl rfl)) ?_
            refine wl_val 9 (by kernel_rfl) ((op_assign (v := .bool false) rfl)) ?_
            refine leaf_e (sub_out 12 _ rfl (by kernel_rfl) ?_)
            refine ⟨congrArg Value.bool ?_, trivial⟩; simp_all [amtOk] <;> omega
        refine wx_next ?_
        refine wc_seq ?_
        refine wc_region ?_
        refine wl_val 55 (by kernel_rfl) ((op_move (v := .bool _) rfl)) ?_
        refine wl_nil ?_
        refine wx_next ?_
        refine wc_cond (by kernel_rfl) rfl (fun h6 => ?_) (fun h6 => ?_)
        · skip
          have hr := h6
          have ha : amtOk x.amt = true := by revert hr; cases amtOk x.amt <;> simp
          obtain ⟨ha1, ha2⟩ := amtOk_bd ha
          refine wc_region ?_
          refine wl_val 56 (by kernel_rfl) ((op_move (v := .int .i64 _) rfl)) ?_
          refine wl_val 57 (by kernel_rfl) ((op_fieldL (m := 2) (k := 2) rfl (by kernel_rfl) rfl)) ?_
          refine wl_val 58 (by kernel_rfl) ((op_load rfl (by kernel_rfl) (by assumption))) ?_
          refine wl_val 59 (by kernel_rfl) ((op_add rfl rfl (by omega))) ?_
          refine wl_val 8 (by kernel_rfl) ((op_assign (v := .int .i64 _) rfl)) ?_
          refine wl_nil ?_
          refine wx_inN ?_
          refine wx_next ?_
          refine wc_region ?_
          refine wl_val 60 (by kernel_rfl) ((op_add rfl rfl (by omega))) ?_
          refine wl_val 36 (by kernel_rfl) ((op_move (v := .int .i64 _) rfl)) ?_
          refine wl_nil ?_
          refine wx_round (j + 1) (sub_cons (by kernel_rfl) rfl (sub_cons (by kernel_rfl) rfl (sub_cons (by kernel_rfl) rfl (sub_cons (by kernel_rfl) rfl (sub_cons (by kernel_rfl) rfl (sub_cons (by kernel_rfl) rfl (sub_cons (by kernel_rfl) rfl (sub_cons (by kernel_rfl) rfl (sub_cons (by kernel_rfl) ?_ (sub_cons (by kernel_rfl) ?_ (sub_cons (by kernel_rfl) rfl (sub_cons (by kernel_rfl) rfl (sub_cons (by kernel_rfl) rfl sub_nil))))))))))))) ⟨hjl, HS4⟩ (by omega)
          all_goals (rw [feAcc_in hy]; simp_all [feStep, eget])
        · skip
          have hr := h6
          refine wc_skip ?_
          refine wx_inN ?_
          refine wx_next ?_
          refine wc_region ?_
          refine wl_val 60 (by kernel_rfl) ((op_add rfl rfl (by omega))) ?_
          refine wl_val 36 (by kernel_rfl) ((op_move (v := .int .i64 _) rfl)) ?_
          refine wl_nil ?_
          refine wx_round (j + 1) (sub_cons (by kernel_rfl) rfl (sub_cons (by kernel_rfl) rfl (sub_cons (by kernel_rfl) rfl (sub_cons (by kernel_rfl) rfl (sub_cons (by kernel_rfl) rfl (sub_cons (by kernel_rfl) rfl (sub_cons (by kernel_rfl) rfl (sub_cons (by kernel_rfl) rfl (sub_cons (by kernel_rfl) ?_ (sub_cons (by kernel_rfl) ?_ (sub_cons (by kernel_rfl) rfl (sub_cons (by kernel_rfl) rfl (sub_cons (by kernel_rfl) rfl sub_nil))))))))))))) ⟨hjl, HS4⟩ (by omega)
          all_goals (rw [feAcc_in hy]; simp_all [feStep, eget])
    · skip
      have hge : j = l.length := by have := of_decide_eq_false h2; omega
      subst hge
      rw [List.take_length]
      refine wc_exit ?_
      refine wx_thenE ?_
      refine wx_thenE ?_
      refine wx_here ?_
      refine wx_next ?_
      refine wc_seq ?_
      refine wc_cutE [(67, .bool (costBad costs l k))] ?_ ?_
      · skip
        refine wl_bool 61 (by kernel_rfl) ((op_move (v := .bool _) rfl)) (fun h7 => ?_) (fun h7 => ?_)
        · skip
          refine wl_val 62 (by kernel_rfl) ((op_nott rfl)) ?_
          refine wl_val 63 (by kernel_rfl) ((op_move (v := .bool false) rfl)) ?_
          refine wl_val 64 (by kernel_rfl) ((op_move (v := .int .i64 _) rfl)) ?_
          refine wl_val 65 (by kernel_rfl) ((op_move (v := .int .i64 _) rfl)) ?_
          refine wl_dec 66 (by kernel_rfl) ((op_neq rfl rfl)) (fun h8 => ?_) (fun h8 => ?_)
          · skip
            refine wl_val 67 (by kernel_rfl) ((op_pick_f (v := .bool true) rfl rfl)) ?_
            refine leaf_e (sub_out 7 _ rfl (by kernel_rfl) ?_)
            refine ⟨congrArg Value.bool ?_, trivial⟩; rw [costBad_fe hx]; simp_all
          · skip
            refine wl_val 67 (by kernel_rfl) ((op_pick_f (v := .bool false) rfl rfl)) ?_
            refine leaf_e (sub_out 7 _ rfl (by kernel_rfl) ?_)
            refine ⟨congrArg Value.bool ?_, trivial⟩; rw [costBad_fe hx]; simp_all
        · skip
          refine wl_val 62 (by kernel_rfl) ((op_notf rfl)) ?_
          refine wl_val 63 (by kernel_rfl) ((op_move (v := .bool true) rfl)) ?_
          refine wl_skip 64 (by kernel_rfl) ?_
          refine wl_skip 65 (by kernel_rfl) ?_
          refine wl_skip 66 (by kernel_rfl) ?_
          refine wl_val 67 (by kernel_rfl) ((op_pick_t (v := .bool true) rfl rfl)) ?_
          refine leaf_e (sub_out 7 _ rfl (by kernel_rfl) ?_)
          refine ⟨congrArg Value.bool ?_, trivial⟩; rw [costBad_fe hx]; simp_all
      refine wx_next ?_
      refine wc_cond (by kernel_rfl) rfl (fun h9 => ?_) (fun h9 => ?_)
      · skip
        have hcb := h9
        refine wc_region ?_
        refine wl_val 68 (by kernel_rfl) ((op_move (v := .func _ _ _) rfl)) ?_
        refine wl_val 69 (by kernel_rfl) ((op_move (v := .int .i64 _) rfl)) ?_
        refine wl_call 70 (by kernel_rfl) (op_callv rfl (by kernel_rfl)) (found_any _ _ _ w.heap.size (w.heap.size + 1) (w.heap.size + 1 + 1) _ _ HS.out (by omega)) ?_
        rintro e w5 ⟨rfl, ho, hkp⟩
        have HS3 := HS.found ho hkp
        clear ho hkp
        refine ⟨_, rfl, ?_⟩
        refine wl_nil ?_
        refine wx_inN ?_
        refine wx_next ?_
        refine wc_region ?_
        refine wl_val 71 (by kernel_rfl) ((op_add rfl rfl (by omega))) ?_
        refine wl_val 28 (by kernel_rfl) ((op_move (v := .int .i64 _) rfl)) ?_
        refine wl_nil ?_
        refine wx_round (k + 1) (sub_cons (by kernel_rfl) rfl (sub_cons (by kernel_rfl) rfl (sub_cons (by kernel_rfl) rfl (sub_cons (by kernel_rfl) rfl (sub_cons (by kernel_rfl) rfl (sub_cons (by kernel_rfl) rfl sub_nil)))))) ⟨hlt, ?_⟩ (by omega)
        simp only [costsF]
        rw [hcb]
        first | exact HS3 | (simp only [Bool.false_eq_true, if_false, List.append_nil]; exact HS)
      · skip
        have hcb := h9
        refine wc_skip ?_
        refine wx_inN ?_
        refine wx_next ?_
        refine wc_region ?_
        refine wl_val 71 (by kernel_rfl) ((op_add rfl rfl (by omega))) ?_
        refine wl_val 28 (by kernel_rfl) ((op_move (v := .int .i64 _) rfl)) ?_
        refine wl_nil ?_
        refine wx_round (k + 1) (sub_cons (by kernel_rfl) rfl (sub_cons (by kernel_rfl) rfl (sub_cons (by kernel_rfl) rfl (sub_cons (by kernel_rfl) rfl (sub_cons (by kernel_rfl) rfl (sub_cons (by kernel_rfl) rfl sub_nil)))))) ⟨hlt, ?_⟩ (by omega)
        simp only [costsF]
        rw [hcb]
        first | exact HS3 | (simp only [Bool.false_eq_true, if_false, List.append_nil]; exact HS)
  · skip
    have hge : k = costs.length := by have := of_decide_eq_false h1; omega
    subst hge
    refine wc_exit ?_
    refine wx_thenE ?_
    refine wx_thenE ?_
    refine wx_here ?_
    refine wx_next ?_
    refine wc_seq ?_
    refine wc_seq ?_
    refine wc_region ?_
    refine wl_val 72 (by kernel_rfl) ((op_fieldL (m := 16) (k := 16) rfl (by kernel_rfl) rfl)) ?_
    refine wl_val 73 (by kernel_rfl) ((op_load rfl (by kernel_rfl) (by assumption))) ?_
    refine wl_val 74 (by kernel_rfl) ((op_len rfl (by kernel_rfl))) ?_
    refine wl_val 75 (by kernel_rfl) ((op_move (v := .int .i64 _) rfl)) ?_
    refine wl_nil ?_
    refine wx_next ?_
    refine wc_block ?_
    refine wc_loop (σ := Nat) (fun j => [(1, .pointer (some ⟨w.heap.size, 0, none⟩)), (4, .pointer (some ⟨w.heap.size + 1, 0, none⟩)), (5, .func (.func 45) #[] #[.pointer (some ⟨w.heap.size + 1 + 1, 0, none⟩)]), (73, .slice feA l.length cf), (74, .int .i64 l.length), (75, .int .i64 j)]) (fun j wr => j ≤ l.length ∧ APre w w.heap.size BK (costsF costs l costs.length ++ strayF costs.length (l.take j)) wr) (fun j => l.length - j) 0 ?_ ?_ ?_
    · exact (sub_cons (by kernel_rfl) rfl (sub_cons (by kernel_rfl) rfl (sub_cons (by kernel_rfl) rfl (sub_cons (by kernel_rfl) rfl (sub_cons (by kernel_rfl) rfl (sub_cons (by kernel_rfl) rfl sub_nil))))))
    · exact ⟨Nat.zero_le _, by simpa [strayF] using HS⟩
    intro j w2 hs
    clear m15 m16 HS
    obtain ⟨hj, HS⟩ := hs
    obtain ⟨m15, m16⟩ := hcell w2 HS.cellB
    have hsl := strayF_le costs.length (l.take j)
    have hjt : (l.take j).length ≤ 512 := by simp; omega
    have hsum : (costsF costs l costs.length ++ strayF costs.length (l.take j)).length ≤ 1000 := by simp only [List.length_append]; omega
    refine wc_seq ?_
    refine wc_region ?_
    refine wl_val 76 (by kernel_rfl) ((op_lss rfl rfl)) ?_
    refine wl_nil ?_
    refine wx_next ?_
    refine wc_seq ?_
    refine wc_cond (by kernel_rfl) rfl (fun h10 => ?_) (fun h10 => ?_)
    · skip
      have hjl : j < l.length := by simpa using h10
      obtain ⟨x, hy⟩ := get_of_lt hjl
      obtain ⟨fb, fo, rfl, hfB, y0, y1, y2⟩ := fe_cells (hF.below HS.1) hy
      have hrow := (hF.below HS.1).row (enc := feC) hy
      refine wc_skip ?_
      refine wx_next ?_
      refine wc_seq ?_
      refine wc_block ?_
      refine wc_seq ?_
      refine wc_region ?_
      refine wl_val 77 (by kernel_rfl) ((op_index (sz := 3) rfl rfl (by kernel_rfl) (by omega))) ?_
      refine wl_val 78 (by kernel_rfl) ((op_loadR (feC x) rfl (by kernel_rfl) hrow)) ?_
      refine wl_run 13 (by kernel_rfl) (op_alloc (v := .agg #[.int .i64 0, .int .i64 0, .int .i64 0]) [.int .i64 0, .int .i64 0, .int .i64 0] (by kernel_rfl) rfl) ?_
      refine wl_donew (by kernel_rfl) (op_fill _ (feC x) rfl rfl (by kernel_rfl) rfl rfl) ?_
      intro w3 hw3
      have HS4 : APre w w.heap.size BK (costsF costs l costs.length ++ strayF costs.length (l.take j)) w3 := by rw [hw3]; exact HS.alloc _
      obtain ⟨m15b, m16b⟩ := hcell w3 HS4.cellB
      have hb3 : Blk w3 w2.heap.size 85 (feC x) := by rw [hw3]; exact Blk.new w2 _ _
      have z1 := hb3.at_ 1 rfl
      clear hw3 y0 y1 y2
      refine wl_nil ?_
      refine wx_next ?_
      refine wc_seq ?_
      refine wc_cutE [(89, .bool (strayB costs.length x))] ?_ ?_
      · skip
        refine wl_val 79 (by kernel_rfl) ((op_fieldL (m := 1) (k := 1) rfl (by kernel_rfl) rfl)) ?_
        refine wl_val 80 (by kernel_rfl) ((op_load rfl (by kernel_rfl) (by assumption))) ?_
        refine wl_dec 81 (by kernel_rfl) ((op_lss rfl rfl)) (fun h11 => ?_) (fun h11 => ?_)
        · skip
          refine wl_val 82 (by kernel_rfl) ((op_move (v := .bool true) rfl)) ?_
          refine wl_skip 83 (by kernel_rfl) ?_
          refine wl_skip 84 (by kernel_rfl) ?_
          refine wl_skip 85 (by kernel_rfl) ?_
          refine wl_skip 86 (by kernel_rfl) ?_
          refine wl_skip 87 (by kernel_rfl) ?_
          refine wl_skip 88 (by kernel_rfl) ?_
          refine wl_val 89 (by kernel_rfl) ((op_pick_t (v := .bool true) rfl rfl)) ?_
          refine leaf_e (sub_out 11 _ rfl (by kernel_rfl) ?_)
          refine ⟨congrArg Value.bool ?_, trivial⟩; simp_all [strayB]
        · skip
          refine wl_val 82 (by kernel_rfl) ((op_move (v := .bool false) rfl)) ?_
          refine wl_val 83 (by kernel_rfl) ((op_fieldL (m := 1) (k := 1) rfl (by kernel_rfl) rfl)) ?_
          refine wl_val 84 (by kernel_rfl) ((op_load rfl (by kernel_rfl) (by assumption))) ?_
          refine wl_val 85 (by kernel_rfl) ((op_fieldL (m := 15) (k := 15) rfl (by kernel_rfl) rfl)) ?_
          refine wl_val 86 (by kernel_rfl) ((op_load rfl (by kernel_rfl) (by assumption))) ?_
          refine wl_val 87 (by kernel_rfl) ((op_len rfl (by kernel_rfl))) ?_
          refine wl_dec 88 (by kernel_rfl) ((op_geq rfl rfl)) (fun h12 => ?_) (fun h12 => ?_)
          · skip
            refine wl_val 89 (by kernel_rfl) ((op_pick_f (v := .bool true) rfl rfl)) ?_
            refine leaf_e (sub_out 11 _ rfl (by kernel_rfl) ?_)
            refine ⟨congrArg Value.bool ?_, trivial⟩; simp_all [strayB]
          · skip
            refine wl_val 89 (by kernel_rfl) ((op_pick_f (v := .bool false) rfl rfl)) ?_
            refine leaf_e (sub_out 11 _ rfl (by kernel_rfl) ?_)
            refine ⟨congrArg Value.bool ?_, trivial⟩; simp_all [strayB]
      refine wx_next ?_
      refine wc_cond (by kernel_rfl) rfl (fun h13 => ?_) (fun h13 => ?_)
      · skip
        have hcb := h13
        refine wc_region ?_
        refine wl_val 90 (by kernel_rfl) ((op_move (v := .func _ _ _) rfl)) ?_
        refine wl_val 91 (by kernel_rfl) ((op_fieldL (m := 1) (k := 1) rfl (by kernel_rfl) rfl)) ?_
        refine wl_val 92 (by kernel_rfl) ((op_load rfl (by kernel_rfl) (by assumption))) ?_
        refine wl_call 93 (by kernel_rfl) (op_callv rfl (by kernel_rfl)) (found_any _ _ _ w.heap.size (w.heap.size + 1) (w.heap.size + 1 + 1) _ _ HS4.out (by omega)) ?_
        rintro e w5 ⟨rfl, ho, hkp⟩
        have HS3 := HS4.found ho hkp
        clear ho hkp
        refine ⟨_, rfl, ?_⟩
        refine wl_nil ?_
        refine wx_inN ?_
        refine wx_next ?_
        refine wc_region ?_
        refine wl_val 94 (by kernel_rfl) ((op_add rfl rfl (by omega))) ?_
        refine wl_val 75 (by kernel_rfl) ((op_move (v := .int .i64 _) rfl)) ?_
        refine wl_nil ?_
        refine wx_round (j + 1) (sub_cons (by kernel_rfl) rfl (sub_cons (by kernel_rfl) rfl (sub_cons (by kernel_rfl) rfl (sub_cons (by kernel_rfl) rfl (sub_cons (by kernel_rfl) rfl (sub_cons (by kernel_rfl) rfl sub_nil)))))) ⟨hjl, ?_⟩ (by omega)
        rw [strayF_in hy, ← List.append_assoc, hcb]
        first | exact HS3 | (simp only [Bool.false_eq_true, if_false, List.append_nil]; exact HS4)
      · skip
        have hcb := h13
        refine wc_skip ?_
        refine wx_inN ?_
        refine wx_next ?_
        refine wc_region ?_
        refine wl_val 94 (by kernel_rfl) ((op_add rfl rfl (by omega))) ?_
        refine wl_val 75 (by kernel_rfl) ((op_move (v := .int .i64 _) rfl)) ?_
        refine wl_nil ?_
        refine wx_round (j + 1) (sub_cons (by kernel_rfl) rfl (sub_cons (by kernel_rfl) rfl (sub_cons (by kernel_rfl) rfl (sub_cons (by kernel_rfl) rfl (sub_cons (by kernel_rfl) rfl (sub_cons (by kernel_rfl) rfl sub_nil)))))) ⟨hjl, ?_⟩ (by omega)
        rw [strayF_in hy, ← List.append_assoc, hcb]
        first | exact HS3 | (simp only [Bool.false_eq_true, if_false, List.append_nil]; exact HS4)
    · skip
      have hge : j = l.length := by have := of_decide_eq_false h10; omega
      subst hge
      obtain ⟨hb1, hl1, v, ho1, hown⟩ := HS.out
      have cv := ho1.at_ 0 rfl
      refine wc_exit ?_
      refine wx_thenE ?_
      refine wx_thenE ?_
      refine wx_here ?_
      refine wx_next ?_
      refine wc_seq ?_
      refine wc_region ?_
      refine wl_val 95 (by kernel_rfl) ((op_load rfl (by kernel_rfl) (by assumption))) ?_
      refine wl_val 2 (by kernel_rfl) ((op_assign (v := _) rfl)) ?_
      refine wl_val 3 (by kernel_rfl) ((op_assign (v := .int .i64 _) rfl)) ?_
      refine wl_nil ?_
      refine wx_next ?_
      refine wc_ret ?_
      refine wx_ret2 rfl (by kernel_rfl) (show _ = _ from rfl) (by kernel_rfl) (show _ = .int .i64 _ from rfl) ?_
      rw [List.take_length] at hown
      exact ⟨v, rfl, hown, HS.1⟩
end Go.Proofs.YtahnplemladjeaaDoor
