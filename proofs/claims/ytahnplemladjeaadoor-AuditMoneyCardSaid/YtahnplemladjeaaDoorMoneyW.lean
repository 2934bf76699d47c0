/- The walks of the two functions Money. -/
import Derived.Test.YtahnplemladjeaaDoorCheck48
import Derived.Test.YtahnplemladjeaaDoorIdxFunc
namespace Go.Proofs.YtahnplemladjeaaDoor
open Go.RowKit

theorem APre.cellM {w wr : World} {N : Nat} {bk : List Value} {fs : List Fnd} (h : APre w N bk fs wr) : Blk wr N 40 bk := h.2.2.1
theorem APre.blk {w wr w' : World} {N : Nat} {bk : List Value} {fs : List Fnd} (h : APre w N bk fs wr) {g : Nat} {cs : List Value} (hk : Kp [41, 49] N wr w') (hb : Blk wr g 97 cs) : Blk w' g 97 cs := hk.blk _ _ _ (by decide) hb
theorem sameId_eq (l : List Pst) (x : Pst) : sameId l x = l.findIdx (fun y => decide (y.id = x.id)) := rfl
set_option maxRecDepth 10000 in
theorem refMoney_full (now hh cc as_ em ta gap tr ins bins ba pr sa cl pa co fe bi : Value) (poA : Option Addr) (pon poc : Nat) (w : World) (hfull : 512 < pon) :
    Calls Tryd.prog 22 #[.agg #[now, hh, cc, as_, em, ta, gap, tr, ins, bins, ba, pr, sa, cl, pa, co, fe, bi, .slice poA pon poc]] w fun e w' => e = .returned (.tuple #[.slice none 0 0, .int .i64 8]) ∧ Below w.heap.size w w' := by
  refine calls_wc (n := 59) Tryd.func22 rfl rfl (Nat.le_of_ble_eq_true rfl) ?_
  refine wc_seq ?_
  refine wc_region ?_
  refine wl_new 1 (by kernel_rfl) (op_boxA rfl) ?_
  intro w1 hw1
  have hb := Blk.new w 40 [now, hh, cc, as_, em, ta, gap, tr, ins, bins, ba, pr, sa, cl, pa, co, fe, bi, .slice poA pon poc]
  rw [← hw1] at hb
  have c18 := hb.at_ 18 rfl
  refine wl_val 2 (by kernel_rfl) ((op_assign (v := .slice _ _ _) rfl)) ?_
  refine wl_val 3 (by kernel_rfl) ((op_assign (v := .int .i64 _) rfl)) ?_
  refine wl_nil ?_
  refine wx_next ?_
  refine wc_seq ?_
  refine wc_seq ?_
  refine wc_region ?_
  refine wl_val 8 (by kernel_rfl) ((op_fieldL (m := 18) (k := 18) rfl (by kernel_rfl) rfl)) ?_
  refine wl_val 9 (by kernel_rfl) ((op_load rfl (by kernel_rfl) (by assumption))) ?_
  refine wl_val 10 (by kernel_rfl) ((op_len rfl (by kernel_rfl))) ?_
  refine wl_val 11 (by kernel_rfl) (op_t (op_gtr rfl rfl) (by omega)) ?_
  refine wl_nil ?_
  refine wx_next ?_
  refine wc_cond_t (by kernel_rfl) rfl ?_
  refine wc_seq ?_
  refine wc_region ?_
  refine wl_val 2 (by kernel_rfl) ((op_assign (v := .slice _ _ _) rfl)) ?_
  refine wl_val 3 (by kernel_rfl) ((op_assign (v := .int .i64 _) rfl)) ?_
  refine wl_nil ?_
  refine wx_next ?_
  refine wc_ret ?_
  refine wx_thenR ?_
  refine wx_ret2 rfl (by kernel_rfl) (show _ = .slice _ _ _ from rfl) (by kernel_rfl) (show _ = .int .i64 _ from rfl) ?_
  exact ⟨rfl, by rw [hw1]; exact (Below.refl _ _).alloc (Nat.le_refl _) _⟩
set_option maxRecDepth 10000 in
theorem money_full (now hh cc as_ em ta gap tr ins bins ba pr sa cl pa co fe bi : Value) (poA : Option Addr) (pon poc : Nat) (w : World) (hfull : 512 < pon) :
    Calls Tryd.prog 23 #[.agg #[now, hh, cc, as_, em, ta, gap, tr, ins, bins, ba, pr, sa, cl, pa, co, fe, bi, .slice poA pon poc]] w fun e w' => e = .returned (.tuple #[.slice none 0 0, .int .i64 8]) ∧ Below w.heap.size w w' := by
  refine calls_wc (n := 44) Tryd.func23 rfl rfl (Nat.le_of_ble_eq_true rfl) ?_
  refine wc_seq ?_
  refine wc_region ?_
  refine wl_new 1 (by kernel_rfl) (op_boxA rfl) ?_
  intro w1 hw1
  have hb := Blk.new w 40 [now, hh, cc, as_, em, ta, gap, tr, ins, bins, ba, pr, sa, cl, pa, co, fe, bi, .slice poA pon poc]
  rw [← hw1] at hb
  have c18 := hb.at_ 18 rfl
  refine wl_val 2 (by kernel_rfl) ((op_assign (v := .slice _ _ _) rfl)) ?_
  refine wl_val 3 (by kernel_rfl) ((op_assign (v := .int .i64 _) rfl)) ?_
  refine wl_nil ?_
  refine wx_next ?_
  refine wc_seq ?_
  refine wc_seq ?_
  refine wc_region ?_
  refine wl_val 10 (by kernel_rfl) ((op_fieldL (m := 18) (k := 18) rfl (by kernel_rfl) rfl)) ?_
  refine wl_val 11 (by kernel_rfl) ((op_load rfl (by kernel_rfl) (by assumption))) ?_
  refine wl_val 12 (by kernel_rfl) ((op_len rfl (by kernel_rfl))) ?_
  refine wl_val 13 (by kernel_rfl) (op_t (op_gtr rfl rfl) (by omega)) ?_
  refine wl_nil ?_
  refine wx_next ?_
  refine wc_cond_t (by kernel_rfl) rfl ?_
  refine wc_seq ?_
  refine wc_region ?_
  refine wl_val 2 (by kernel_rfl) ((op_assign (v := .slice _ _ _) rfl)) ?_
  refine wl_val 3 (by kernel_rfl) ((op_assign (v := .int .i64 _) rfl)) ?_
  refine wl_nil ?_
  refine wx_next ?_
  refine wc_ret ?_
  refine wx_thenR ?_
  refine wx_ret2 rfl (by kernel_rfl) (show _ = .slice _ _ _ from rfl) (by kernel_rfl) (show _ = .int .i64 _ from rfl) ?_
  exact ⟨rfl, by rw [hw1]; exact (Below.refl _ _).alloc (Nat.le_refl _) _⟩
set_option maxRecDepth 10000 in
theorem refMoney_any (now hh cc as_ em ta gap tr ins bins ba pr sa cl pa co fe bi : Value) (poA : Option Addr) (poc : Nat) (l : List Pst) (hl : l.length ≤ 512) (w : World) (hP : Rd w w.heap.size 3 (PsR w w.heap.size) poA l) :
    Calls Tryd.prog 22 #[.agg #[now, hh, cc, as_, em, ta, gap, tr, ins, bins, ba, pr, sa, cl, pa, co, fe, bi, .slice poA l.length poc]] w fun e w' => ∃ v, e = .returned (.tuple #[v, .int .i64 0]) ∧ w'.ownsRow w.heap.size 49 3 v (moneyF l l.length).length ((moneyF l l.length).flatMap fnC) ∧ Below w.heap.size w w' := by
  obtain ⟨BK, hBK⟩ : ∃ k, k = [now, hh, cc, as_, em, ta, gap, tr, ins, bins, ba, pr, sa, cl, pa, co, fe, bi, .slice poA l.length poc] := ⟨_, rfl⟩
  have hcell : ∀ wr : World, Blk wr w.heap.size 40 BK → wr.cell? ⟨w.heap.size, 18, none⟩ = some (.slice poA l.length poc) := fun wr h => by
    rw [hBK] at h
    exact h.at_ 18 rfl
  refine calls_wc (n := 59) Tryd.func22 rfl rfl (Nat.le_of_ble_eq_true rfl) ?_
  refine wc_seq ?_
  refine wc_region ?_
  refine wl_new 1 (by kernel_rfl) (op_boxA rfl) ?_
  intro w1 hw1
  have m18 := hcell w1 (by rw [hw1, hBK]; exact Blk.new w _ _)
  refine wl_val 2 (by kernel_rfl) ((op_assign (v := .slice _ _ _) rfl)) ?_
  refine wl_val 3 (by kernel_rfl) ((op_assign (v := .int .i64 _) rfl)) ?_
  refine wl_nil ?_
  refine wx_next ?_
  refine wc_seq ?_
  refine wc_seq ?_
  refine wc_region ?_
  refine wl_val 8 (by kernel_rfl) ((op_fieldL (m := 18) (k := 18) rfl (by kernel_rfl) rfl)) ?_
  refine wl_val 9 (by kernel_rfl) ((op_load rfl (by kernel_rfl) (by assumption))) ?_
  refine wl_val 10 (by kernel_rfl) ((op_len rfl (by kernel_rfl))) ?_
  refine wl_val 11 (by kernel_rfl) (op_f (op_gtr rfl rfl) (by omega)) ?_
  refine wl_nil ?_
  refine wx_next ?_
  refine wc_cond_f (by kernel_rfl) rfl ?_
  refine wc_skip ?_
  refine wx_next ?_
  refine wc_seq ?_
  refine wc_region ?_
  refine wl_new 12 (by kernel_rfl) (op_slice0 (el := 49) (size := 3) (bytes := 24) (by kernel_rfl)) ?_
  intro w2 hw2
  have HS : RSt w w.heap.size BK [] (.slice (some ⟨w1.heap.size, 0, none⟩) 0 0) w2 := by
    rw [hw2, hw1, hBK, World.size_alloc]; exact rst_start
  clear hw1 hw2 m18
  refine wl_val 4 (by kernel_rfl) ((op_assign (v := .slice _ _ _) rfl)) ?_
  refine wl_nil ?_
  refine wx_next ?_
  refine wc_seq ?_
  refine wc_seq ?_
  refine wc_region ?_
  refine wl_val 5 (by kernel_rfl) ((op_assign (v := .int .i64 _) rfl)) ?_
  refine wl_nil ?_
  refine wx_next ?_
  refine wc_block ?_
  refine wc_loop (σ := Nat × Value) (fun s => [(1, .pointer (some ⟨w.heap.size, 0, none⟩)), (4, s.2), (5, .int .i64 s.1)]) (fun s wr => s.1 ≤ l.length ∧ RSt w w.heap.size BK (moneyF l s.1) s.2 wr) (fun s => l.length - s.1) (0, .slice (some ⟨w1.heap.size, 0, none⟩) 0 0) ?_ ?_ ?_
  · exact (sub_cons (by kernel_rfl) rfl (sub_cons (by kernel_rfl) rfl (sub_cons (by kernel_rfl) rfl sub_nil)))
  · exact ⟨Nat.zero_le _, HS⟩
  intro s w1 hs
  clear HS
  obtain ⟨k, v⟩ := s
  obtain ⟨hk, HS⟩ := hs
  simp only at hk HS
  have m18 := hcell w1 HS.2.2.1
  have hfl := moneyF_le l k
  refine wc_seq ?_
  refine wc_seq ?_
  refine wc_region ?_
  refine wl_val 13 (by kernel_rfl) ((op_move (v := .int .i64 _) rfl)) ?_
  refine wl_val 14 (by kernel_rfl) ((op_fieldL (m := 18) (k := 18) rfl (by kernel_rfl) rfl)) ?_
  refine wl_val 15 (by kernel_rfl) ((op_load rfl (by kernel_rfl) (by assumption))) ?_
  refine wl_val 16 (by kernel_rfl) ((op_len rfl (by kernel_rfl))) ?_
  refine wl_val 17 (by kernel_rfl) ((op_lss rfl rfl)) ?_
  refine wl_nil ?_
  refine wx_next ?_
  refine wc_cond (by kernel_rfl) rfl (fun h1 => ?_) (fun h1 => ?_)
  · skip
    have hlt : k < l.length := by simpa using h1
    obtain ⟨x, hx⟩ := get_of_lt hlt
    obtain ⟨pb, pf, lA, lc, rfl, x0, hL, hrow⟩ := ps_at (hP.below HS.1) hx
    refine wc_skip ?_
    refine wx_next ?_
    refine wc_seq ?_
    refine wc_block ?_
    refine wc_seq ?_
    refine wc_region ?_
    refine wl_val 20 (by kernel_rfl) ((op_fieldL (m := 18) (k := 18) rfl (by kernel_rfl) rfl)) ?_
    refine wl_val 21 (by kernel_rfl) ((op_load rfl (by kernel_rfl) (by assumption))) ?_
    refine wl_val 22 (by kernel_rfl) ((op_move (v := .int .i64 _) rfl)) ?_
    refine wl_val 23 (by kernel_rfl) ((op_index (sz := 3) rfl rfl (by kernel_rfl) (by omega))) ?_
    refine wl_val 24 (by kernel_rfl) ((op_loadR [.int .i64 x.id, .int .i64 x.at_, .slice lA x.lines.length lc] rfl (by kernel_rfl) hrow)) ?_
    refine wl_call 25 (by kernel_rfl) (op_call (by kernel_rfl)) (refCheck_any x lA lc _ ((hL.below HS.1).more HS.1.size)) ?_
    rintro e w2 ⟨rfl, hb2⟩
    have HS2 := HS.later hb2
    clear hb2 HS m18 x0 hrow
    refine ⟨_, rfl, ?_⟩
    refine wl_val 6 (by kernel_rfl) ((op_assign (v := .int .i64 _) rfl)) ?_
    refine wl_nil ?_
    refine wx_next ?_
    refine wc_seq ?_
    refine wc_seq ?_
    refine wc_region ?_
    refine wl_val 26 (by kernel_rfl) ((op_move (v := .int .i64 _) rfl)) ?_
    refine wl_val 27 (by kernel_rfl) ((op_neq rfl rfl)) ?_
    refine wl_nil ?_
    refine wx_next ?_
    refine wc_cond (by kernel_rfl) rfl (fun h2 => ?_) (fun h2 => ?_)
    · skip
      have hz := of_decide_eq_true h2
      refine wc_region ?_
      refine wl_val 28 (by kernel_rfl) ((op_move (v := _) rfl)) ?_
      refine wl_val 29 (by kernel_rfl) ((op_move (v := .int .i64 _) rfl)) ?_
      refine wl_val 30 (by kernel_rfl) ((op_move (v := .int .i64 _) rfl)) ?_
      refine wl_val 31 (by kernel_rfl) ((op_build (z := [.int .i64 0, .int .i64 0, .int .i64 0]) (tab := [(0, 1), (1, 1), (2, 1)]) (cs := [.int .i64 _, .int .i64 _, .int .i64 _]) [(0, [.int .i64 _]), (1, [.int .i64 _]), (2, [.int .i64 _])] (by kernel_rfl) (by kernel_rfl) (fillOk_cons rfl rfl rfl (fillOk_cons rfl rfl rfl (fillOk_cons rfl rfl rfl fillOk_nil))) rfl)) ?_
      refine wl_new 32 (by kernel_rfl) (op_slice1 (el := 49) (size := 3) (bytes := 24) [.int .i64 _, .int .i64 _, .int .i64 _] (by kernel_rfl) rfl rfl rfl) ?_
      intro w3 hw3
      refine wl_push 33 ⟨15, k, checkF x⟩ (by kernel_rfl) rfl rfl HS2 hw3 (by omega) ?_
      intro vv w4 HS3
      have HSa : RSt w w.heap.size BK (moneyF l k ++ (if checkF x ≠ 0 then [⟨15, k, checkF x⟩] else [])) vv w4 := by rw [if_pos hz]; exact HS3
      clear hw3
      refine wl_val 4 (by kernel_rfl) ((op_assign (v := _) rfl)) ?_
      refine wl_nil ?_
      refine wx_next ?_
      refine wc_seq ?_
      refine wc_region ?_
      refine wl_val 7 (by kernel_rfl) ((op_assign (v := .int .i64 _) rfl)) ?_
      refine wl_nil ?_
      refine wx_next ?_
      refine wc_block ?_
      refine wc_loop (σ := Nat) (fun j => [(1, .pointer (some ⟨w.heap.size, 0, none⟩)), (4, vv), (5, .int .i64 k), (7, .int .i64 j)]) (fun j wr => j ≤ k ∧ j ≤ sameId l x ∧ RSt w w.heap.size BK (moneyF l k ++ (if checkF x ≠ 0 then [⟨15, k, checkF x⟩] else [])) vv wr) (fun j => k - j) 0 ?_ ?_ ?_
      · exact (sub_cons (by kernel_rfl) rfl (sub_cons (by kernel_rfl) rfl (sub_cons (by kernel_rfl) rfl (sub_cons (by kernel_rfl) rfl sub_nil))))
      · exact ⟨Nat.zero_le _, Nat.zero_le _, HSa⟩
      intro j w5 hs
      obtain ⟨hj, hsj, HSb⟩ := hs
      have m18 := hcell w5 HSb.2.2.1
      have hlen2 : (moneyF l k ++ (if checkF x ≠ 0 then [⟨15, k, checkF x⟩] else []) : List Fnd).length ≤ 2 * k + 1 := by rw [List.length_append]; split <;> simp <;> omega
      refine wc_seq ?_
      refine wc_seq ?_
      refine wc_region ?_
      refine wl_val 34 (by kernel_rfl) ((op_move (v := .int .i64 _) rfl)) ?_
      refine wl_val 35 (by kernel_rfl) ((op_move (v := .int .i64 _) rfl)) ?_
      refine wl_val 36 (by kernel_rfl) ((op_lss rfl rfl)) ?_
      refine wl_nil ?_
      refine wx_next ?_
      refine wc_cond (by kernel_rfl) rfl (fun h3 => ?_) (fun h3 => ?_)
      · skip
        have hjk : j < k := by have := of_decide_eq_true h3; omega
        obtain ⟨y, hy⟩ := get_of_lt (show j < l.length by omega)
        obtain ⟨pb2, pf2, lA2, lc2, epb, y0, _, _⟩ := ps_at (hP.below HSb.1) hy
        injection epb with epb
        injection epb with e1 e2
        subst e1 e2
        obtain ⟨_, _, _, _, epb, x0, _, _⟩ := ps_at (hP.below HSb.1) hx
        injection epb with epb
        injection epb with e1 e2
        subst e1 e2
        refine wc_skip ?_
        refine wx_next ?_
        refine wc_seq ?_
        refine wc_block ?_
        refine wc_seq ?_
        refine wc_drawn (Dr w5) [(51, .bool (decide (y.id = x.id)))] (by kernel_rfl) (by kernel_rfl) (Dr.one _) ?_ ?_
        · skip
          refine wq_val 39 (by kernel_rfl) (fun w1 c1 => (op_fieldL (m := 18) (k := 18) rfl (by kernel_rfl) rfl)) ?_
          refine wq_val 40 (by kernel_rfl) (fun w1 c1 => (op_load rfl (by kernel_rfl) ((c1.cell _).trans (by assumption)))) ?_
          refine wq_val 41 (by kernel_rfl) (fun w1 c1 => (op_move (v := .int .i64 _) rfl)) ?_
          refine wq_val 42 (by kernel_rfl) (fun w1 c1 => (op_index (sz := 3) rfl rfl (by kernel_rfl) (by omega))) ?_
          refine wq_val 43 (by kernel_rfl) (fun w1 c1 => (op_field0 rfl (by kernel_rfl))) ?_
          refine wq_val 44 (by kernel_rfl) (fun w1 c1 => (op_load rfl (by kernel_rfl) ((c1.cell _).trans (by assumption)))) ?_
          refine wq_val 45 (by kernel_rfl) (fun w1 c1 => (op_fieldL (m := 18) (k := 18) rfl (by kernel_rfl) rfl)) ?_
          refine wq_val 46 (by kernel_rfl) (fun w1 c1 => (op_load rfl (by kernel_rfl) ((c1.cell _).trans (by assumption)))) ?_
          refine wq_val 47 (by kernel_rfl) (fun w1 c1 => (op_move (v := .int .i64 _) rfl)) ?_
          refine wq_val 48 (by kernel_rfl) (fun w1 c1 => (op_index (sz := 3) rfl rfl (by kernel_rfl) (by omega))) ?_
          refine wq_val 49 (by kernel_rfl) (fun w1 c1 => (op_field0 rfl (by kernel_rfl))) ?_
          refine wq_val 50 (by kernel_rfl) (fun w1 c1 => (op_load rfl (by kernel_rfl) ((c1.cell _).trans (by assumption)))) ?_
          refine wq_val 51 (by kernel_rfl) (fun w1 c1 => (op_eql rfl rfl)) ?_
          refine leaf_q (sub_out 13 _ rfl (by kernel_rfl) ?_)
          exact ⟨rfl, trivial⟩
        intro w6 c6
        have HSc := HSb.dr c6
        clear HSb m18 x0 y0
        have HSb := HSc
        clear HSc
        refine wx_next ?_
        refine wc_cond (by kernel_rfl) rfl (fun h4 => ?_) (fun h4 => ?_)
        · skip
          have he := of_decide_eq_true h4
          have hse := sameId_at hsj hy he
          have hsi : sameId l x < k := by omega
          refine wc_seq ?_
          refine wc_region ?_
          refine wl_val 52 (by kernel_rfl) ((op_move (v := _) rfl)) ?_
          refine wl_val 53 (by kernel_rfl) ((op_move (v := .int .i64 _) rfl)) ?_
          refine wl_val 54 (by kernel_rfl) ((op_move (v := .int .i64 _) rfl)) ?_
          refine wl_val 55 (by kernel_rfl) ((op_build (z := [.int .i64 0, .int .i64 0, .int .i64 0]) (tab := [(0, 1), (1, 1), (2, 1)]) (cs := [.int .i64 _, .int .i64 _, .int .i64 _]) [(0, [.int .i64 _]), (1, [.int .i64 _]), (2, [.int .i64 _])] (by kernel_rfl) (by kernel_rfl) (fillOk_cons rfl rfl rfl (fillOk_cons rfl rfl rfl (fillOk_cons rfl rfl rfl fillOk_nil))) rfl)) ?_
          refine wl_new 56 (by kernel_rfl) (op_slice1 (el := 49) (size := 3) (bytes := 24) [.int .i64 _, .int .i64 _, .int .i64 _] (by kernel_rfl) rfl rfl rfl) ?_
          intro w7 hw7
          refine wl_push 57 ⟨16, k, j⟩ (by kernel_rfl) rfl rfl HSb hw7 (by omega) ?_
          intro v5 w8 HS5
          clear hw7
          refine wl_val 4 (by kernel_rfl) ((op_assign (v := _) rfl)) ?_
          refine wl_nil ?_
          refine wx_next ?_
          refine wc_exit ?_
          refine wx_pass (by decide) ?_
          refine wx_thenE ?_
          refine wx_thenE ?_
          refine wx_here ?_
          refine wx_inN ?_
          refine wx_next ?_
          refine wc_region ?_
          refine wl_val 18 (by kernel_rfl) ((op_move (v := .int .i64 _) rfl)) ?_
          refine wl_val 19 (by kernel_rfl) ((op_add rfl rfl (by omega))) ?_
          refine wl_val 5 (by kernel_rfl) ((op_assign (v := .int .i64 _) rfl)) ?_
          refine wl_nil ?_
          refine wx_round (k + 1, _) (sub_cons (by kernel_rfl) rfl (sub_cons (by kernel_rfl) rfl (sub_cons (by kernel_rfl) rfl sub_nil))) ⟨hlt, ?_⟩ (by simp only; omega)
          simp only
          rw [moneyF_in hx]
          unfold moneyStep
          rw [← List.append_assoc]
          first | (rw [if_pos hsi, hse]; exact HS5) | (rw [if_neg hsn, List.append_nil]; exact HSb)
        · skip
          have hne := of_decide_eq_false h4
          refine wc_skip ?_
          refine wx_inN ?_
          refine wx_next ?_
          refine wc_region ?_
          refine wl_val 37 (by kernel_rfl) ((op_move (v := .int .i64 _) rfl)) ?_
          refine wl_val 38 (by kernel_rfl) ((op_add rfl rfl (by omega))) ?_
          refine wl_val 7 (by kernel_rfl) ((op_assign (v := .int .i64 _) rfl)) ?_
          refine wl_nil ?_
          refine wx_round (j + 1) (sub_cons (by kernel_rfl) rfl (sub_cons (by kernel_rfl) rfl (sub_cons (by kernel_rfl) rfl (sub_cons (by kernel_rfl) rfl sub_nil)))) ⟨hjk, sameId_past hsj hy hne, HSb⟩ (by omega)
      · skip
        have hsn : ¬ sameId l x < k := by have := of_decide_eq_false h3; omega
        refine wc_exit ?_
        refine wx_thenE ?_
        refine wx_thenE ?_
        refine wx_here ?_
        refine wx_inN ?_
        refine wx_next ?_
        refine wc_region ?_
        refine wl_val 18 (by kernel_rfl) ((op_move (v := .int .i64 _) rfl)) ?_
        refine wl_val 19 (by kernel_rfl) ((op_add rfl rfl (by omega))) ?_
        refine wl_val 5 (by kernel_rfl) ((op_assign (v := .int .i64 _) rfl)) ?_
        refine wl_nil ?_
        refine wx_round (k + 1, _) (sub_cons (by kernel_rfl) rfl (sub_cons (by kernel_rfl) rfl (sub_cons (by kernel_rfl) rfl sub_nil))) ⟨hlt, ?_⟩ (by simp only; omega)
        simp only
        rw [moneyF_in hx]
        unfold moneyStep
        rw [← List.append_assoc]
        first | (rw [if_pos hsi, hse]; exact HS5) | (rw [if_neg hsn, List.append_nil]; exact HSb)
    · skip
      have hz : checkF x = 0 := by have := of_decide_eq_false h2; omega
      obtain ⟨vv, rfl⟩ : ∃ vv, vv = v := ⟨v, rfl⟩
      have HSa : RSt w w.heap.size BK (moneyF l k ++ (if checkF x ≠ 0 then [⟨15, k, checkF x⟩] else [])) vv w2 := by rw [if_neg (by simpa using hz), List.append_nil]; exact HS2
      refine wc_skip ?_
      refine wx_next ?_
      refine wc_seq ?_
      refine wc_region ?_
      refine wl_val 7 (by kernel_rfl) ((op_assign (v := .int .i64 _) rfl)) ?_
      refine wl_nil ?_
      refine wx_next ?_
      refine wc_block ?_
      refine wc_loop (σ := Nat) (fun j => [(1, .pointer (some ⟨w.heap.size, 0, none⟩)), (4, vv), (5, .int .i64 k), (7, .int .i64 j)]) (fun j wr => j ≤ k ∧ j ≤ sameId l x ∧ RSt w w.heap.size BK (moneyF l k ++ (if checkF x ≠ 0 then [⟨15, k, checkF x⟩] else [])) vv wr) (fun j => k - j) 0 ?_ ?_ ?_
      · exact (sub_cons (by kernel_rfl) rfl (sub_cons (by kernel_rfl) rfl (sub_cons (by kernel_rfl) rfl (sub_cons (by kernel_rfl) rfl sub_nil))))
      · exact ⟨Nat.zero_le _, Nat.zero_le _, HSa⟩
      intro j w5 hs
      obtain ⟨hj, hsj, HSb⟩ := hs
      have m18 := hcell w5 HSb.2.2.1
      have hlen2 : (moneyF l k ++ (if checkF x ≠ 0 then [⟨15, k, checkF x⟩] else []) : List Fnd).length ≤ 2 * k + 1 := by rw [List.length_append]; split <;> simp <;> omega
      refine wc_seq ?_
      refine wc_seq ?_
      refine wc_region ?_
      refine wl_val 34 (by kernel_rfl) ((op_move (v := .int .i64 _) rfl)) ?_
      refine wl_val 35 (by kernel_rfl) ((op_move (v := .int .i64 _) rfl)) ?_
      refine wl_val 36 (by kernel_rfl) ((op_lss rfl rfl)) ?_
      refine wl_nil ?_
      refine wx_next ?_
      refine wc_cond (by kernel_rfl) rfl (fun h5 => ?_) (fun h5 => ?_)
      · skip
        have hjk : j < k := by have := of_decide_eq_true h5; omega
        obtain ⟨y, hy⟩ := get_of_lt (show j < l.length by omega)
        obtain ⟨pb2, pf2, lA2, lc2, epb, y0, _, _⟩ := ps_at (hP.below HSb.1) hy
        injection epb with epb
        injection epb with e1 e2
        subst e1 e2
        obtain ⟨_, _, _, _, epb, x0, _, _⟩ := ps_at (hP.below HSb.1) hx
        injection epb with epb
        injection epb with e1 e2
        subst e1 e2
        refine wc_skip ?_
        refine wx_next ?_
        refine wc_seq ?_
        refine wc_block ?_
        refine wc_seq ?_
        refine wc_drawn (Dr w5) [(51, .bool (decide (y.id = x.id)))] (by kernel_rfl) (by kernel_rfl) (Dr.one _) ?_ ?_
        · skip
          refine wq_val 39 (by kernel_rfl) (fun w1 c1 => (op_fieldL (m := 18) (k := 18) rfl (by kernel_rfl) rfl)) ?_
          refine wq_val 40 (by kernel_rfl) (fun w1 c1 => (op_load rfl (by kernel_rfl) ((c1.cell _).trans (by assumption)))) ?_
          refine wq_val 41 (by kernel_rfl) (fun w1 c1 => (op_move (v := .int .i64 _) rfl)) ?_
          refine wq_val 42 (by kernel_rfl) (fun w1 c1 => (op_index (sz := 3) rfl rfl (by kernel_rfl) (by omega))) ?_
          refine wq_val 43 (by kernel_rfl) (fun w1 c1 => (op_field0 rfl (by kernel_rfl))) ?_
          refine wq_val 44 (by kernel_rfl) (fun w1 c1 => (op_load rfl (by kernel_rfl) ((c1.cell _).trans (by assumption)))) ?_
          refine wq_val 45 (by kernel_rfl) (fun w1 c1 => (op_fieldL (m := 18) (k := 18) rfl (by kernel_rfl) rfl)) ?_
          refine wq_val 46 (by kernel_rfl) (fun w1 c1 => (op_load rfl (by kernel_rfl) ((c1.cell _).trans (by assumption)))) ?_
          refine wq_val 47 (by kernel_rfl) (fun w1 c1 => (op_move (v := .int .i64 _) rfl)) ?_
          refine wq_val 48 (by kernel_rfl) (fun w1 c1 => (op_index (sz := 3) rfl rfl (by kernel_rfl) (by omega))) ?_
          refine wq_val 49 (by kernel_rfl) (fun w1 c1 => (op_field0 rfl (by kernel_rfl))) ?_
          refine wq_val 50 (by kernel_rfl) (fun w1 c1 => (op_load rfl (by kernel_rfl) ((c1.cell _).trans (by assumption)))) ?_
          refine wq_val 51 (by kernel_rfl) (fun w1 c1 => (op_eql rfl rfl)) ?_
          refine leaf_q (sub_out 13 _ rfl (by kernel_rfl) ?_)
          exact ⟨rfl, trivial⟩
        intro w6 c6
        have HSc := HSb.dr c6
        clear HSb m18 x0 y0
        have HSb := HSc
        clear HSc
        refine wx_next ?_
        refine wc_cond (by kernel_rfl) rfl (fun h6 => ?_) (fun h6 => ?_)
        · skip
          have he := of_decide_eq_true h6
          have hse := sameId_at hsj hy he
          have hsi : sameId l x < k := by omega
          refine wc_seq ?_
          refine wc_region ?_
          refine wl_val 52 (by kernel_rfl) ((op_move (v := _) rfl)) ?_
          refine wl_val 53 (by kernel_rfl) ((op_move (v := .int .i64 _) rfl)) ?_
          refine wl_val 54 (by kernel_rfl) ((op_move (v := .int .i64 _) rfl)) ?_
          refine wl_val 55 (by kernel_rfl) ((op_build (z := [.int .i64 0, .int .i64 0, .int .i64 0]) (tab := [(0, 1), (1, 1), (2, 1)]) (cs := [.int .i64 _, .int .i64 _, .int .i64 _]) [(0, [.int .i64 _]), (1, [.int .i64 _]), (2, [.int .i64 _])] (by kernel_rfl) (by kernel_rfl) (fillOk_cons rfl rfl rfl (fillOk_cons rfl rfl rfl (fillOk_cons rfl rfl rfl fillOk_nil))) rfl)) ?_
          refine wl_new 56 (by kernel_rfl) (op_slice1 (el := 49) (size := 3) (bytes := 24) [.int .i64 _, .int .i64 _, .int .i64 _] (by kernel_rfl) rfl rfl rfl) ?_
          intro w7 hw7
          refine wl_push 57 ⟨16, k, j⟩ (by kernel_rfl) rfl rfl HSb hw7 (by omega) ?_
          intro v5 w8 HS5
          clear hw7
          refine wl_val 4 (by kernel_rfl) ((op_assign (v := _) rfl)) ?_
          refine wl_nil ?_
          refine wx_next ?_
          refine wc_exit ?_
          refine wx_pass (by decide) ?_
          refine wx_thenE ?_
          refine wx_thenE ?_
          refine wx_here ?_
          refine wx_inN ?_
          refine wx_next ?_
          refine wc_region ?_
          refine wl_val 18 (by kernel_rfl) ((op_move (v := .int .i64 _) rfl)) ?_
          refine wl_val 19 (by kernel_rfl) ((op_add rfl rfl (by omega))) ?_
          refine wl_val 5 (by kernel_rfl) ((op_assign (v := .int .i64 _) rfl)) ?_
          refine wl_nil ?_
          refine wx_round (k + 1, _) (sub_cons (by kernel_rfl) rfl (sub_cons (by kernel_rfl) rfl (sub_cons (by kernel_rfl) rfl sub_nil))) ⟨hlt, ?_⟩ (by simp only; omega)
          simp only
          rw [moneyF_in hx]
          unfold moneyStep
          rw [← List.append_assoc]
          first | (rw [if_pos hsi, hse]; exact HS5) | (rw [if_neg hsn, List.append_nil]; exact HSb)
        · skip
          have hne := of_decide_eq_false h6
          refine wc_skip ?_
          refine wx_inN ?_
          refine wx_next ?_
          refine wc_region ?_
          refine wl_val 37 (by kernel_rfl) ((op_move (v := .int .i64 _) rfl)) ?_
          refine wl_val 38 (by kernel_rfl) ((op_add rfl rfl (by omega))) ?_
          refine wl_val 7 (by kernel_rfl) ((op_assign (v := .int .i64 _) rfl)) ?_
          refine wl_nil ?_
          refine wx_round (j + 1) (sub_cons (by kernel_rfl) rfl (sub_cons (by kernel_rfl) rfl (sub_cons (by kernel_rfl) rfl (sub_cons (by kernel_rfl) rfl sub_nil)))) ⟨hjk, sameId_past hsj hy hne, HSb⟩ (by omega)
      · skip
        have hsn : ¬ sameId l x < k := by have := of_decide_eq_false h5; omega
        refine wc_exit ?_
        refine wx_thenE ?_
        refine wx_thenE ?_
        refine wx_here ?_
        refine wx_inN ?_
        refine wx_next ?_
        refine wc_region ?_
        refine wl_val 18 (by kernel_rfl) ((op_move (v := .int .i64 _) rfl)) ?_
        refine wl_val 19 (by kernel_rfl) ((op_add rfl rfl (by omega))) ?_
        refine wl_val 5 (by kernel_rfl) ((op_assign (v := .int .i64 _) rfl)) ?_
        refine wl_nil ?_
        refine wx_round (k + 1, _) (sub_cons (by kernel_rfl) rfl (sub_cons (by kernel_rfl) rfl (sub_cons (by kernel_rfl) rfl sub_nil))) ⟨hlt, ?_⟩ (by simp only; omega)
        simp only
        rw [moneyF_in hx]
        unfold moneyStep
        rw [← List.append_assoc]
        first | (rw [if_pos hsi, hse]; exact HS5) | (rw [if_neg hsn, List.append_nil]; exact HSb)
  · skip
    have hge : k = l.length := by have := of_decide_eq_false h1; omega
    subst hge
    refine wc_exit ?_
    refine wx_thenE ?_
    refine wx_thenE ?_
    refine wx_here ?_
    refine wx_next ?_
    refine wc_seq ?_
    refine wc_region ?_
    refine wl_val 58 (by kernel_rfl) ((op_move (v := _) rfl)) ?_
    refine wl_val 2 (by kernel_rfl) ((op_assign (v := _) rfl)) ?_
    refine wl_val 3 (by kernel_rfl) ((op_assign (v := .int .i64 _) rfl)) ?_
    refine wl_nil ?_
    refine wx_next ?_
    refine wc_ret ?_
    refine wx_ret2 rfl (by kernel_rfl) (show _ = _ from rfl) (by kernel_rfl) (show _ = .int .i64 _ from rfl) ?_
    exact ⟨_, rfl, HS.2.2.2, HS.1⟩
theorem money1_any (cs : List Value) (yid xid : Int) (y1 y2 : Value) (hcs : cs = [.int .i64 yid, y1, y2]) (g : Nat) (w : World) (hc : w.cell? ⟨g, 0, none⟩ = some (.int .i64 xid)) :
    Calls Tryd.prog 41 (.agg cs.toArray :: [.pointer (some ⟨g, 0, none⟩)]).toArray w fun e w' => e = .returned (.bool (decide (yid = xid))) ∧ Below w.heap.size w w' := by
  subst hcs
  refine calls_wc (n := 9) Tryd.func41 rfl rfl (Nat.le_of_ble_eq_true rfl) ?_
  refine wc_seq ?_
  refine wc_region ?_
  refine wl_new 2 (by kernel_rfl) (op_boxA rfl) ?_
  intro w1 hw1
  have hb1 : Below w.heap.size w w1 := by rw [hw1]; exact (Below.refl _ _).alloc (Nat.le_refl _) _
  have c0 : w1.cell? ⟨w.heap.size, 0, none⟩ = some (.int .i64 yid) := by rw [hw1]; exact (Blk.new w _ _).at_ 0 rfl
  have c1 : w1.cell? ⟨g, 0, none⟩ = some (.int .i64 xid) := (hb1.cell (p := ⟨g, 0, none⟩) (World.block_lt_of_cell? _ _ hc)).trans hc
  clear hw1
  refine wl_val 3 (by kernel_rfl) ((op_assign (v := .bool false) rfl)) ?_
  refine wl_nil ?_
  refine wx_next ?_
  refine wc_seq ?_
  refine wc_region ?_
  refine wl_val 4 (by kernel_rfl) ((op_fieldL (m := 0) (k := 0) rfl (by kernel_rfl) rfl)) ?_
  refine wl_val 5 (by kernel_rfl) ((op_load rfl (by kernel_rfl) (by assumption))) ?_
  refine wl_val 6 (by kernel_rfl) ((op_fieldL (m := 0) (k := 0) rfl (by kernel_rfl) rfl)) ?_
  refine wl_val 7 (by kernel_rfl) ((op_load rfl (by kernel_rfl) (by assumption))) ?_
  refine wl_val 8 (by kernel_rfl) ((op_eql rfl rfl)) ?_
  refine wl_val 3 (by kernel_rfl) ((op_assign (v := .bool _) rfl)) ?_
  refine wl_nil ?_
  refine wx_next ?_
  refine wc_ret ?_
  refine wx_ret1 rfl (by kernel_rfl) (show _ = .bool _ from rfl) ?_
  exact ⟨rfl, hb1⟩
set_option maxRecDepth 10000 in
theorem money_any (now hh cc as_ em ta gap tr ins bins ba pr sa cl pa co fe bi : Value) (poA : Option Addr) (poc : Nat) (l : List Pst) (hl : l.length ≤ 512) (w : World) (hP : Rd w w.heap.size 3 (PsR w w.heap.size) poA l) :
    Calls Tryd.prog 23 #[.agg #[now, hh, cc, as_, em, ta, gap, tr, ins, bins, ba, pr, sa, cl, pa, co, fe, bi, .slice poA l.length poc]] w fun e w' => ∃ v, e = .returned (.tuple #[v, .int .i64 0]) ∧ w'.ownsRow w.heap.size 49 3 v (moneyF l l.length).length ((moneyF l l.length).flatMap fnC) ∧ Below w.heap.size w w' := by
  obtain ⟨BK, hBK⟩ : ∃ k, k = [now, hh, cc, as_, em, ta, gap, tr, ins, bins, ba, pr, sa, cl, pa, co, fe, bi, .slice poA l.length poc] := ⟨_, rfl⟩
  have hcell : ∀ wr : World, Blk wr w.heap.size 40 BK → wr.cell? ⟨w.heap.size, 18, none⟩ = some (.slice poA l.length poc) := fun wr h => by
    rw [hBK] at h
    exact h.at_ 18 rfl
  refine calls_wc (n := 44) Tryd.func23 rfl rfl (Nat.le_of_ble_eq_true rfl) ?_
  refine wc_seq ?_
  refine wc_region ?_
  refine wl_new 1 (by kernel_rfl) (op_boxA rfl) ?_
  intro w1 hw1
  have m18 := hcell w1 (by rw [hw1, hBK]; exact Blk.new w _ _)
  refine wl_val 2 (by kernel_rfl) ((op_assign (v := .slice _ _ _) rfl)) ?_
  refine wl_val 3 (by kernel_rfl) ((op_assign (v := .int .i64 _) rfl)) ?_
  refine wl_nil ?_
  refine wx_next ?_
  refine wc_seq ?_
  refine wc_seq ?_
  refine wc_region ?_
  refine wl_val 10 (by kernel_rfl) ((op_fieldL (m := 18) (k := 18) rfl (by kernel_rfl) rfl)) ?_
  refine wl_val 11 (by kernel_rfl) ((op_load rfl (by kernel_rfl) (by assumption))) ?_
  refine wl_val 12 (by kernel_rfl) ((op_len rfl (by kernel_rfl))) ?_
  refine wl_val 13 (by kernel_rfl) (op_f (op_gtr rfl rfl) (by omega)) ?_
  refine wl_nil ?_
  refine wx_next ?_
  refine wc_cond_f (by kernel_rfl) rfl ?_
  refine wc_skip ?_
  refine wx_next ?_
  refine wc_seq ?_
  refine wc_region ?_
  refine wl_new 4 (by kernel_rfl) (op_alloc (v := .slice none 0 0) [.slice none 0 0] (by kernel_rfl) rfl) ?_
  intro w2 hw2
  refine wl_nil ?_
  refine wx_next ?_
  refine wc_seq ?_
  refine wc_region ?_
  refine wl_call 14 (by kernel_rfl) (op_call (by kernel_rfl)) (collector_any _ _) ?_
  rintro e w3 ⟨rfl, hw3⟩
  have HS : APre w w.heap.size BK [] w3 := by
    rw [← hw3, hw2, hw1, hBK, World.size_alloc]; exact apre_start
  have m18b := hcell w3 HS.cellM
  have e1 : w1.heap.size = w.heap.size + 1 := by rw [hw1]; simp
  have e2 : w2.heap.size = w.heap.size + 1 + 1 := by rw [hw2]; simp [e1]
  clear hw1 hw2 hw3 m18
  refine ⟨_, rfl, ?_⟩
  refine wl_val 5 (by kernel_rfl) ((op_assign (v := .func _ _ _) rfl)) ?_
  refine wl_nil ?_
  refine wx_next ?_
  refine wc_seq ?_
  refine wc_seq ?_
  refine wc_region ?_
  refine wl_val 15 (by kernel_rfl) ((op_fieldL (m := 18) (k := 18) rfl (by kernel_rfl) rfl)) ?_
  refine wl_val 16 (by kernel_rfl) ((op_load rfl (by kernel_rfl) (by assumption))) ?_
  refine wl_val 17 (by kernel_rfl) ((op_len rfl (by kernel_rfl))) ?_
  refine wl_val 18 (by kernel_rfl) ((op_move (v := .int .i64 _) rfl)) ?_
  refine wl_nil ?_
  refine wx_next ?_
  refine wc_block ?_
  refine wc_loop (σ := Nat) (fun k => [(1, .pointer (some ⟨w.heap.size, 0, none⟩)), (4, .pointer (some ⟨w.heap.size + 1, 0, none⟩)), (5, .func (.func 45) #[] #[.pointer (some ⟨w.heap.size + 1 + 1, 0, none⟩)]), (16, .slice poA l.length poc), (17, .int .i64 l.length), (18, .int .i64 k)]) (fun k wr => k ≤ l.length ∧ APre w w.heap.size BK (moneyF l k) wr) (fun k => l.length - k) 0 ?_ ?_ ?_
  · exact (sub_cons (by kernel_rfl) rfl (sub_cons (by kernel_rfl) (by rw [← e1]; rfl) (sub_cons (by kernel_rfl) (by rw [← e2]; rfl) (sub_cons (by kernel_rfl) rfl (sub_cons (by kernel_rfl) rfl (sub_cons (by kernel_rfl) rfl sub_nil))))))
  · exact ⟨Nat.zero_le _, HS⟩
  intro k w1 hs
  clear HS m18b
  obtain ⟨hk, HS⟩ := hs
  have hfl := moneyF_le l k
  refine wc_seq ?_
  refine wc_region ?_
  refine wl_val 19 (by kernel_rfl) ((op_lss rfl rfl)) ?_
  refine wl_nil ?_
  refine wx_next ?_
  refine wc_seq ?_
  refine wc_cond (by kernel_rfl) rfl (fun h1 => ?_) (fun h1 => ?_)
  · skip
    have hlt : k < l.length := by simpa using h1
    obtain ⟨x, hx⟩ := get_of_lt hlt
    obtain ⟨pb, pf, lA, lc, rfl, x0, hL, hrow⟩ := ps_at (hP.below HS.1) hx
    refine wc_skip ?_
    refine wx_next ?_
    refine wc_seq ?_
    refine wc_block ?_
    refine wc_seq ?_
    refine wc_region ?_
    refine wl_val 20 (by kernel_rfl) ((op_move (v := .int .i64 _) rfl)) ?_
    refine wl_val 21 (by kernel_rfl) ((op_index (sz := 3) rfl rfl (by kernel_rfl) (by omega))) ?_
    refine wl_val 22 (by kernel_rfl) ((op_loadR [.int .i64 x.id, .int .i64 x.at_, .slice lA x.lines.length lc] rfl (by kernel_rfl) hrow)) ?_
    refine wl_run 7 (by kernel_rfl) (op_alloc (v := .agg #[.int .i64 0, .int .i64 0, .slice none 0 0]) [.int .i64 0, .int .i64 0, .slice none 0 0] (by kernel_rfl) rfl) ?_
    refine wl_val 6 (by kernel_rfl) ((op_assign (v := .int .i64 _) rfl)) ?_
    refine wl_donew (by kernel_rfl) (op_fill _ [.int .i64 x.id, .int .i64 x.at_, .slice lA x.lines.length lc] rfl rfl (by kernel_rfl) rfl rfl) ?_
    intro w3 hw3
    have HS2 : APre w w.heap.size BK (moneyF l k) w3 := by rw [hw3]; exact HS.alloc _
    have hbx : Blk w3 w1.heap.size 97 [.int .i64 x.id, .int .i64 x.at_, .slice lA x.lines.length lc] := by rw [hw3]; exact Blk.new w1 _ _
    clear hw3 x0 hrow
    refine wl_nil ?_
    refine wx_next ?_
    refine wc_seq ?_
    refine wc_seq ?_
    refine wc_region ?_
    refine wl_val 23 (by kernel_rfl) ((op_loadR [.int .i64 x.id, .int .i64 x.at_, .slice lA x.lines.length lc] rfl (by kernel_rfl) (fun j u hu => by simpa using hbx.at_ j hu))) ?_
    refine wl_call 24 (by kernel_rfl) (op_call (by kernel_rfl)) (check_any x lA lc _ ((hL.below HS2.1).more HS2.1.size)) ?_
    rintro e w4 ⟨rfl, hb4⟩
    have HS4 := HS2.later hb4
    have hbx4 := hbx.below hb4 hbx.lt
    clear hb4 HS2 HS hbx
    refine ⟨_, rfl, ?_⟩
    refine wl_val 8 (by kernel_rfl) ((op_assign (v := .int .i64 _) rfl)) ?_
    refine wl_nil ?_
    refine wx_next ?_
    refine wc_seq ?_
    refine wc_region ?_
    refine wl_val 25 (by kernel_rfl) ((op_move (v := .int .i64 _) rfl)) ?_
    refine wl_val 26 (by kernel_rfl) ((op_neq rfl rfl)) ?_
    refine wl_nil ?_
    refine wx_next ?_
    refine wc_cond (by kernel_rfl) rfl (fun h2 => ?_) (fun h2 => ?_)
    · skip
      have hz := of_decide_eq_true h2
      refine wc_region ?_
      refine wl_val 27 (by kernel_rfl) ((op_move (v := .func _ _ _) rfl)) ?_
      refine wl_val 28 (by kernel_rfl) ((op_move (v := .int .i64 _) rfl)) ?_
      refine wl_val 29 (by kernel_rfl) ((op_move (v := .int .i64 _) rfl)) ?_
      refine wl_call 30 (by kernel_rfl) (op_callv rfl (by kernel_rfl)) (found_any _ _ _ w.heap.size (w.heap.size + 1) (w.heap.size + 1 + 1) _ _ HS4.out (by omega)) ?_
      rintro e w5 ⟨rfl, ho, hkp⟩
      have hbx5 := HS4.blk hkp hbx4
      have HS5 : APre w w.heap.size BK (moneyF l k ++ (if checkF x ≠ 0 then [⟨15, k, checkF x⟩] else [])) w5 := by rw [if_pos hz]; exact HS4.found ho hkp
      have m18 := hcell _ HS5.cellM
      clear ho hkp
      refine ⟨_, rfl, ?_⟩
      refine wl_nil ?_
      refine wx_next ?_
      refine wc_seq ?_
      refine wc_region ?_
      refine wl_val 31 (by kernel_rfl) ((op_fieldL (m := 18) (k := 18) rfl (by kernel_rfl) rfl)) ?_
      refine wl_val 32 (by kernel_rfl) ((op_load rfl (by kernel_rfl) (by assumption))) ?_
      refine wl_val 33 (by kernel_rfl) ((op_makeFuncC [.pointer (some ⟨_, _, _⟩)] rfl)) ?_
      refine wl_call 34 (by kernel_rfl) (op_call (by kernel_rfl)) (idxPosting (fun y => decide (y.id = x.id)) 41 [.pointer (some ⟨w1.heap.size, 0, none⟩)] _ poc l _ (by kernel_rfl) ((hP.below HS5.1).more HS5.1.size) (fun y cs w9 _ hR hb9 => by
          obtain ⟨_, _, rfl, _⟩ := hR
          exact money1_any _ y.id x.id _ _ rfl _ _ ((hbx5.below hb9 hbx5.lt).at_ 0 rfl))) ?_
      rintro e w6 ⟨rfl, hb6⟩
      obtain ⟨hix, hik⟩ := idxI_some (p := fun y : Pst => decide (y.id = x.id)) hx (by simp)
      rw [hix, ← sameId_eq]
      rw [← sameId_eq] at hik
      have HS6 := HS5.later hb6
      have hlen6 : (moneyF l k ++ (if checkF x ≠ 0 then [⟨15, k, checkF x⟩] else []) : List Fnd).length ≤ 2 * k + 1 := by rw [List.length_append]; split <;> simp <;> omega
      clear hb6 HS5 m18 hbx5 hbx4
      refine ⟨_, rfl, ?_⟩
      refine wl_val 9 (by kernel_rfl) ((op_assign (v := .int .i64 _) rfl)) ?_
      refine wl_nil ?_
      refine wx_next ?_
      refine wc_seq ?_
      refine wc_region ?_
      refine wl_val 35 (by kernel_rfl) ((op_move (v := .int .i64 _) rfl)) ?_
      refine wl_val 36 (by kernel_rfl) ((op_move (v := .int .i64 _) rfl)) ?_
      refine wl_val 37 (by kernel_rfl) ((op_lss rfl rfl)) ?_
      refine wl_nil ?_
      refine wx_next ?_
      refine wc_cond (by kernel_rfl) rfl (fun h3 => ?_) (fun h3 => ?_)
      · skip
        have hsi : sameId l x < k := by have := of_decide_eq_true h3; omega
        refine wc_region ?_
        refine wl_val 38 (by kernel_rfl) ((op_move (v := .func _ _ _) rfl)) ?_
        refine wl_val 39 (by kernel_rfl) ((op_move (v := .int .i64 _) rfl)) ?_
        refine wl_val 40 (by kernel_rfl) ((op_move (v := .int .i64 _) rfl)) ?_
        refine wl_call 41 (by kernel_rfl) (op_callv rfl (by kernel_rfl)) (found_any _ _ _ w.heap.size (w.heap.size + 1) (w.heap.size + 1 + 1) _ _ HS6.out (by omega)) ?_
        rintro e w7 ⟨rfl, ho, hkp⟩
        have HS7 := HS6.found ho hkp
        clear ho hkp
        refine ⟨_, rfl, ?_⟩
        refine wl_nil ?_
        refine wx_inN ?_
        refine wx_next ?_
        refine wc_region ?_
        refine wl_val 42 (by kernel_rfl) ((op_add rfl rfl (by omega))) ?_
        refine wl_val 18 (by kernel_rfl) ((op_move (v := .int .i64 _) rfl)) ?_
        refine wl_nil ?_
        refine wx_round (k + 1) (sub_cons (by kernel_rfl) rfl (sub_cons (by kernel_rfl) rfl (sub_cons (by kernel_rfl) rfl (sub_cons (by kernel_rfl) rfl (sub_cons (by kernel_rfl) rfl (sub_cons (by kernel_rfl) rfl sub_nil)))))) ⟨hlt, ?_⟩ (by omega)
        rw [moneyF_in hx]
        unfold moneyStep
        rw [← List.append_assoc]
        first | (rw [if_pos hsi]; exact HS7) | (rw [if_neg hsn, List.append_nil]; exact HS6)
      · skip
        have hsn : ¬ sameId l x < k := by have := of_decide_eq_false h3; omega
        refine wc_skip ?_
        refine wx_inN ?_
        refine wx_next ?_
        refine wc_region ?_
        refine wl_val 42 (by kernel_rfl) ((op_add rfl rfl (by omega))) ?_
        refine wl_val 18 (by kernel_rfl) ((op_move (v := .int .i64 _) rfl)) ?_
        refine wl_nil ?_
        refine wx_round (k + 1) (sub_cons (by kernel_rfl) rfl (sub_cons (by kernel_rfl) rfl (sub_cons (by kernel_rfl) rfl (sub_cons (by kernel_rfl) rfl (sub_cons (by kernel_rfl) rfl (sub_cons (by kernel_rfl) rfl sub_nil)))))) ⟨hlt, ?_⟩ (by omega)
        rw [moneyF_in hx]
        unfold moneyStep
        rw [← List.append_assoc]
        first | (rw [if_pos hsi]; exact HS7) | (rw [if_neg hsn, List.append_nil]; exact HS6)
    · skip
      have hz : checkF x = 0 := by have := of_decide_eq_false h2; omega
      have hbx5 := hbx4
      have HS5 : APre w w.heap.size BK (moneyF l k ++ (if checkF x ≠ 0 then [⟨15, k, checkF x⟩] else [])) w4 := by rw [if_neg (by simpa using hz), List.append_nil]; exact HS4
      have m18 := hcell _ HS5.cellM
      refine wc_skip ?_
      refine wx_next ?_
      refine wc_seq ?_
      refine wc_region ?_
      refine wl_val 31 (by kernel_rfl) ((op_fieldL (m := 18) (k := 18) rfl (by kernel_rfl) rfl)) ?_
      refine wl_val 32 (by kernel_rfl) ((op_load rfl (by kernel_rfl) (by assumption))) ?_
      refine wl_val 33 (by kernel_rfl) ((op_makeFuncC [.pointer (some ⟨_, _, _⟩)] rfl)) ?_
      refine wl_call 34 (by kernel_rfl) (op_call (by kernel_rfl)) (idxPosting (fun y => decide (y.id = x.id)) 41 [.pointer (some ⟨w1.heap.size, 0, none⟩)] _ poc l _ (by kernel_rfl) ((hP.below HS5.1).more HS5.1.size) (fun y cs w9 _ hR hb9 => by
          obtain ⟨_, _, rfl, _⟩ := hR
          exact money1_any _ y.id x.id _ _ rfl _ _ ((hbx5.below hb9 hbx5.lt).at_ 0 rfl))) ?_
      rintro e w6 ⟨rfl, hb6⟩
      obtain ⟨hix, hik⟩ := idxI_some (p := fun y : Pst => decide (y.id = x.id)) hx (by simp)
      rw [hix, ← sameId_eq]
      rw [← sameId_eq] at hik
      have HS6 := HS5.later hb6
      have hlen6 : (moneyF l k ++ (if checkF x ≠ 0 then [⟨15, k, checkF x⟩] else []) : List Fnd).length ≤ 2 * k + 1 := by rw [List.length_append]; split <;> simp <;> omega
      clear hb6 HS5 m18 hbx5 hbx4
      refine ⟨_, rfl, ?_⟩
      refine wl_val 9 (by kernel_rfl) ((op_assign (v := .int .i64 _) rfl)) ?_
      refine wl_nil ?_
      refine wx_next ?_
      refine wc_seq ?_
      refine wc_region ?_
      refine wl_val 35 (by kernel_rfl) ((op_move (v := .int .i64 _) rfl)) ?_
      refine wl_val 36 (by kernel_rfl) ((op_move (v := .int .i64 _) rfl)) ?_
      refine wl_val 37 (by kernel_rfl) ((op_lss rfl rfl)) ?_
      refine wl_nil ?_
      refine wx_next ?_
      refine wc_cond (by kernel_rfl) rfl (fun h4 => ?_) (fun h4 => ?_)
      · skip
        have hsi : sameId l x < k := by have := of_decide_eq_true h4; omega
        refine wc_region ?_
        refine wl_val 38 (by kernel_rfl) ((op_move (v := .func _ _ _) rfl)) ?_
        refine wl_val 39 (by kernel_rfl) ((op_move (v := .int .i64 _) rfl)) ?_
        refine wl_val 40 (by kernel_rfl) ((op_move (v := .int .i64 _) rfl)) ?_
        refine wl_call 41 (by kernel_rfl) (op_callv rfl (by kernel_rfl)) (found_any _ _ _ w.heap.size (w.heap.size + 1) (w.heap.size + 1 + 1) _ _ HS6.out (by omega)) ?_
        rintro e w7 ⟨rfl, ho, hkp⟩
        have HS7 := HS6.found ho hkp
        clear ho hkp
        refine ⟨_, rfl, ?_⟩
        refine wl_nil ?_
        refine wx_inN ?_
        refine wx_next ?_
        refine wc_region ?_
        refine wl_val 42 (by kernel_rfl) ((op_add rfl rfl (by omega))) ?_
        refine wl_val 18 (by kernel_rfl) ((op_move (v := .int .i64 _) rfl)) ?_
        refine wl_nil ?_
        refine wx_round (k + 1) (sub_cons (by kernel_rfl) rfl (sub_cons (by kernel_rfl) rfl (sub_cons (by kernel_rfl) rfl (sub_cons (by kernel_rfl) rfl (sub_cons (by kernel_rfl) rfl (sub_cons (by kernel_rfl) rfl sub_nil)))))) ⟨hlt, ?_⟩ (by omega)
        rw [moneyF_in hx]
        unfold moneyStep
        rw [← List.append_assoc]
        first | (rw [if_pos hsi]; exact HS7) | (rw [if_neg hsn, List.append_nil]; exact HS6)
      · skip
        have hsn : ¬ sameId l x < k := by have := of_decide_eq_false h4; omega
        refine wc_skip ?_
        refine wx_inN ?_
        refine wx_next ?_
        refine wc_region ?_
        refine wl_val 42 (by kernel_rfl) ((op_add rfl rfl (by omega))) ?_
        refine wl_val 18 (by kernel_rfl) ((op_move (v := .int .i64 _) rfl)) ?_
        refine wl_nil ?_
        refine wx_round (k + 1) (sub_cons (by kernel_rfl) rfl (sub_cons (by kernel_rfl) rfl (sub_cons (by kernel_rfl) rfl (sub_cons (by kernel_rfl) rfl (sub_cons (by kernel_rfl) rfl (sub_cons (by kernel_rfl) rfl sub_nil)))))) ⟨hlt, ?_⟩ (by omega)
        rw [moneyF_in hx]
        unfold moneyStep
        rw [← List.append_assoc]
        first | (rw [if_pos hsi]; exact HS7) | (rw [if_neg hsn, List.append_nil]; exact HS6)
  · skip
    have hge : k = l.length := by have := of_decide_eq_false h1; omega
    subst hge
    obtain ⟨hb1, hl1, v, ho1, hown⟩ := HS.out
    have cv := ho1.at_ 0 rfl
    refine wc_exit ?_
    refine wx_thenE ?_
    refine wx_thenE ?_
    refine wx_here ?_
    refine wx_next ?_
    refine wc_seq ?_
    refine wc_region ?_
    refine wl_val 43 (by kernel_rfl) ((op_load rfl (by kernel_rfl) (by assumption))) ?_
    refine wl_val 2 (by kernel_rfl) ((op_assign (v := _) rfl)) ?_
    refine wl_val 3 (by kernel_rfl) ((op_assign (v := .int .i64 _) rfl)) ?_
    refine wl_nil ?_
    refine wx_next ?_
    refine wc_ret ?_
    refine wx_ret2 rfl (by kernel_rfl) (show _ = _ from rfl) (by kernel_rfl) (show _ = .int .i64 _ from rfl) ?_
    exact ⟨v, rfl, hown, HS.1⟩
end Go.Proofs.YtahnplemladjeaaDoor
