/- The walk of recyclingref59.Mass. -/
import Derived.Test.YtahnplemladjeaaDoorRefMassSt
namespace Go.Proofs.YtahnplemladjeaaDoor
open Go.RowKit

theorem plantBad_re (ts : List Tr) (ins bins : Int) : plantBad ts ins bins = (decide (ins < 0 ∨ 70368744177664 < ins ∨ bins < 0 ∨ 70368744177664 < bins) || !withinB (stk ts 6) (stk ts 7) (ins + bins)) := by
  unfold plantBad withinB
  rw [Bool.eq_iff_iff]; simp; omega
theorem balesBad_re (ts : List Tr) (bs : List Bale) : balesBad ts bs = (!(baledF bs).2 || !withinB (stk ts 8) (stk ts 9) (baledF bs).1) := by
  unfold balesBad baledF
  cases h : (acc (mixes bs)).2 <;> simp
theorem bal_later {w w' : World} {A : Option Addr} {bs : List Bale} (h : Rd w w.heap.size 4 (BaR w w.heap.size) A bs) (hb : Below w.heap.size w w') : Rd w' w'.heap.size 4 (BaR w' w'.heap.size) A bs :=
  (h.belowR (fun x cs ⟨A, c, e, hr⟩ => ⟨A, c, e, (hr.below hb).more hb.size⟩) hb).more hb.size
theorem massF_parts {ts : List Tr} {ins bins : Int} {bs : List Bale} : massF ts ins bins bs = (outs ts ts.length).2 ++ (if plantBad ts ins bins then [⟨3, 0, 0⟩] else []) ++ (if balesBad ts bs then [⟨4, 0, 0⟩] else []) := rfl
set_option maxRecDepth 10000 in
theorem refMassN_full (now hh cc as_ em ta gap ins bins pr sa cl pa co fe bi po : Value) (trA : Option Addr) (trn trc : Nat) (baA : Option Addr) (ban bac : Nat) (w : World) (hfull : 512 < trn ∨ 64 < ban) :
    Calls Tryd.prog 11 #[.agg #[now, hh, cc, as_, em, ta, gap, .slice trA trn trc, ins, bins, .slice baA ban bac, pr, sa, cl, pa, co, fe, bi, po]] w fun e w' => e = .returned (.tuple #[.slice none 0 0, .int .i64 8]) ∧ Below w.heap.size w w' := by
  by_cases q0 : 512 < trn
  · skip
    refine calls_wc (n := 138) Tryd.func11 rfl rfl (Nat.le_of_ble_eq_true rfl) ?_
    refine wc_seq ?_
    refine wc_region ?_
    refine wl_new 1 (by kernel_rfl) (op_boxA rfl) ?_
    intro w1 hw1
    have hb := Blk.new w 40 [now, hh, cc, as_, em, ta, gap, .slice trA trn trc, ins, bins, .slice baA ban bac, pr, sa, cl, pa, co, fe, bi, po]
    rw [← hw1] at hb
    have c7 := hb.at_ 7 rfl
    have c10 := hb.at_ 10 rfl
    refine wl_val 2 (by kernel_rfl) ((op_assign (v := .slice _ _ _) rfl)) ?_
    refine wl_val 3 (by kernel_rfl) ((op_assign (v := .int .i64 _) rfl)) ?_
    refine wl_nil ?_
    refine wx_next ?_
    refine wc_seq ?_
    refine wc_seq ?_
    refine wc_region ?_
    refine wl_val 11 (by kernel_rfl) ((op_fieldL (m := 7) (k := 7) rfl (by kernel_rfl) rfl)) ?_
    refine wl_val 12 (by kernel_rfl) ((op_load rfl (by kernel_rfl) (by assumption))) ?_
    refine wl_val 13 (by kernel_rfl) ((op_len rfl (by kernel_rfl))) ?_
    refine wl_val 14 (by kernel_rfl) (op_t (op_gtr rfl rfl) (by omega)) ?_
    refine wl_val 15 (by kernel_rfl) ((op_move (v := .bool true) rfl)) ?_
    refine wl_skip 16 (by kernel_rfl) ?_
    refine wl_skip 17 (by kernel_rfl) ?_
    refine wl_skip 18 (by kernel_rfl) ?_
    refine wl_skip 19 (by kernel_rfl) ?_
    refine wl_val 20 (by kernel_rfl) ((op_pick_t (v := .bool true) rfl rfl)) ?_
    refine wl_nil ?_
    refine wx_next ?_
    refine wc_cond_t (by kernel_rfl) rfl ?_
    refine wc_seq ?_
    refine wc_region ?_
    refine wl_val 2 (by kernel_rfl) ((op_assign (v := .slice _ _ _) rfl)) ?_
    refine wl_val 3 (by kernel_rfl) ((op_assign (v := .int .i64 _) rfl)) ?_
    refine wl_nil ?_
    refine wx_next ?_
    refine wc_ret ?_
    refine wx_thenR ?_
    refine wx_ret2 rfl (by kernel_rfl) (show _ = .slice _ _ _ from rfl) (by kernel_rfl) (show _ = .int .i64 _ from rfl) ?_
    exact ⟨rfl, by rw [hw1]; exact (Below.refl _ _).alloc (Nat.le_refl _) _⟩
  refine calls_wc (n := 138) Tryd.func11 rfl rfl (Nat.le_of_ble_eq_true rfl) ?_
  refine wc_seq ?_
  refine wc_region ?_
  refine wl_new 1 (by kernel_rfl) (op_boxA rfl) ?_
  intro w1 hw1
  have hb := Blk.new w 40 [now, hh, cc, as_, em, ta, gap, .slice trA trn trc, ins, bins, .slice baA ban bac, pr, sa, cl, pa, co, fe, bi, po]
  rw [← hw1] at hb
  have c7 := hb.at_ 7 rfl
  have c10 := hb.at_ 10 rfl
  refine wl_val 2 (by kernel_rfl) ((op_assign (v := .slice _ _ _) rfl)) ?_
  refine wl_val 3 (by kernel_rfl) ((op_assign (v := .int .i64 _) rfl)) ?_
  refine wl_nil ?_
  refine wx_next ?_
  refine wc_seq ?_
  refine wc_seq ?_
  refine wc_region ?_
  refine wl_val 11 (by kernel_rfl) ((op_fieldL (m := 7) (k := 7) rfl (by kernel_rfl) rfl)) ?_
  refine wl_val 12 (by kernel_rfl) ((op_load rfl (by kernel_rfl) (by assumption))) ?_
  refine wl_val 13 (by kernel_rfl) ((op_len rfl (by kernel_rfl))) ?_
  refine wl_val 14 (by kernel_rfl) (op_f (op_gtr rfl rfl) (by omega)) ?_
  refine wl_val 15 (by kernel_rfl) ((op_move (v := .bool false) rfl)) ?_
  refine wl_val 16 (by kernel_rfl) ((op_fieldL (m := 10) (k := 10) rfl (by kernel_rfl) rfl)) ?_
  refine wl_val 17 (by kernel_rfl) ((op_load rfl (by kernel_rfl) (by assumption))) ?_
  refine wl_val 18 (by kernel_rfl) ((op_len rfl (by kernel_rfl))) ?_
  refine wl_val 19 (by kernel_rfl) (op_t (op_gtr rfl rfl) (by omega)) ?_
  refine wl_val 20 (by kernel_rfl) ((op_pick_f (v := .bool true) rfl rfl)) ?_
  refine wl_nil ?_
  refine wx_next ?_
  refine wc_cond_t (by kernel_rfl) rfl ?_
  refine wc_seq ?_
  refine wc_region ?_
  refine wl_val 2 (by kernel_rfl) ((op_assign (v := .slice _ _ _) rfl)) ?_
  refine wl_val 3 (by kernel_rfl) ((op_assign (v := .int .i64 _) rfl)) ?_
  refine wl_nil ?_
  refine wx_next ?_
  refine wc_ret ?_
  refine wx_thenR ?_
  refine wx_ret2 rfl (by kernel_rfl) (show _ = .slice _ _ _ from rfl) (by kernel_rfl) (show _ = .int .i64 _ from rfl) ?_
  exact ⟨rfl, by rw [hw1]; exact (Below.refl _ _).alloc (Nat.le_refl _) _⟩
set_option maxRecDepth 10000 in
theorem refMass_any (now hh cc as_ em ta gap pr sa cl pa co fe bi po : Value) (trA : Option Addr) (c : Nat) (ts : List Tr) (hn : ts.length ≤ 512) (baA : Option Addr) (cb : Nat) (bs : List Bale) (hnb : bs.length ≤ 64) (ins bins : Int) (w : World)
    (hT : Rd w w.heap.size 4 TrR trA ts) (hB : Rd w w.heap.size 4 (BaR w w.heap.size) baA bs) :
    Calls Tryd.prog 11 #[.agg #[now, hh, cc, as_, em, ta, gap, .slice trA ts.length c, .int .i64 ins, .int .i64 bins, .slice baA bs.length cb, pr, sa, cl, pa, co, fe, bi, po]] w fun e w' => ∃ v, e = .returned (.tuple #[v, .int .i64 0]) ∧ w'.ownsRow w.heap.size 49 3 v (massF ts ins bins bs).length ((massF ts ins bins bs).flatMap fnC) ∧ Below w.heap.size w w' := by
  obtain ⟨BK, hBK⟩ : ∃ k, k = [now, hh, cc, as_, em, ta, gap, .slice trA ts.length c, .int .i64 ins, .int .i64 bins, .slice baA bs.length cb, pr, sa, cl, pa, co, fe, bi, po] := ⟨_, rfl⟩
  have hcell : ∀ wr : World, Blk wr w.heap.size 40 BK → wr.cell? ⟨w.heap.size, 7, none⟩ = some (.slice trA ts.length c) ∧ wr.cell? ⟨w.heap.size, 8, none⟩ = some (.int .i64 ins) ∧ wr.cell? ⟨w.heap.size, 9, none⟩ = some (.int .i64 bins) ∧ wr.cell? ⟨w.heap.size, 10, none⟩ = some (.slice baA bs.length cb) := fun wr h => by
    rw [hBK] at h
    exact ⟨h.at_ 7 rfl, h.at_ 8 rfl, h.at_ 9 rfl, h.at_ 10 rfl⟩
  refine calls_wc (n := 138) Tryd.func11 rfl rfl (Nat.le_of_ble_eq_true rfl) ?_
  refine wc_seq ?_
  refine wc_region ?_
  refine wl_new 1 (by kernel_rfl) (op_boxA rfl) ?_
  intro w1 hw1
  obtain ⟨m7, m8, m9, m10⟩ := hcell w1 (by rw [hw1, hBK]; exact Blk.new w _ _)
  refine wl_val 2 (by kernel_rfl) ((op_assign (v := .slice _ _ _) rfl)) ?_
  refine wl_val 3 (by kernel_rfl) ((op_assign (v := .int .i64 _) rfl)) ?_
  refine wl_nil ?_
  refine wx_next ?_
  refine wc_seq ?_
  refine wc_seq ?_
  refine wc_region ?_
  refine wl_val 11 (by kernel_rfl) ((op_fieldL (m := 7) (k := 7) rfl (by kernel_rfl) rfl)) ?_
  refine wl_val 12 (by kernel_rfl) ((op_load rfl (by kernel_rfl) (by assumption))) ?_
  refine wl_val 13 (by kernel_rfl) ((op_len rfl (by kernel_rfl))) ?_
  refine wl_val 14 (by kernel_rfl) (op_f (op_gtr rfl rfl) (by omega)) ?_
  refine wl_val 15 (by kernel_rfl) ((op_move (v := .bool false) rfl)) ?_
  refine wl_val 16 (by kernel_rfl) ((op_fieldL (m := 10) (k := 10) rfl (by kernel_rfl) rfl)) ?_
  refine wl_val 17 (by kernel_rfl) ((op_load rfl (by kernel_rfl) (by assumption))) ?_
  refine wl_val 18 (by kernel_rfl) ((op_len rfl (by kernel_rfl))) ?_
  refine wl_val 19 (by kernel_rfl) (op_f (op_gtr rfl rfl) (by omega)) ?_
  refine wl_val 20 (by kernel_rfl) ((op_pick_f (v := .bool false) rfl rfl)) ?_
  refine wl_nil ?_
  refine wx_next ?_
  refine wc_cond_f (by kernel_rfl) rfl ?_
  refine wc_skip ?_
  refine wx_next ?_
  refine wc_seq ?_
  refine wc_region ?_
  refine wl_new 21 (by kernel_rfl) (op_slice0 (el := 49) (size := 3) (bytes := 24) (by kernel_rfl)) ?_
  intro w2 hw2
  refine wl_val 4 (by kernel_rfl) ((op_assign (v := .slice _ _ _) rfl)) ?_
  refine wl_nil ?_
  refine wx_next ?_
  refine wc_seq ?_
  refine wc_region ?_
  refine wl_new 22 (by kernel_rfl) (by show (execOp _ _).run _ _ = _; simp only [execOp, eev]; simp only [Sem.run_bind, mk7b, Result.andThen]; rfl) ?_
  intro w3 hw3
  have e1 : w1.heap.size = w.heap.size + 1 := by rw [hw1]; simp
  have e2 : w2.heap.size = w.heap.size + 1 + 1 := by rw [hw2]; simp [e1]
  have HS : RPre w w.heap.size BK (fun _ => false) [] (.slice (some ⟨w1.heap.size, 0, none⟩) 0 0) w3 := by
    rw [hw3, hw2, e1, hw1, hBK]; exact rpre_start
  clear hw1 hw2 hw3 m7 m8 m9 m10
  refine wl_val 5 (by kernel_rfl) ((op_assign (v := .slice _ _ _) rfl)) ?_
  refine wl_nil ?_
  refine wx_next ?_
  refine wc_seq ?_
  refine wc_seq ?_
  refine wc_region ?_
  refine wl_val 6 (by kernel_rfl) ((op_assign (v := .int .i64 _) rfl)) ?_
  refine wl_nil ?_
  refine wx_next ?_
  refine wc_block ?_
  refine wc_loop (σ := Nat × Value) (fun s => [(1, .pointer (some ⟨w.heap.size, 0, none⟩)), (4, s.2), (5, .slice (some ⟨w.heap.size + 1 + 1, 0, none⟩) 7 7), (6, .int .i64 s.1)]) (fun s wr => s.1 ≤ ts.length ∧ RPre w w.heap.size BK (outs ts s.1).1 (outs ts s.1).2 s.2 wr) (fun s => ts.length - s.1) (0, .slice (some ⟨w1.heap.size, 0, none⟩) 0 0) ?_ ?_ ?_
  · exact (sub_cons (by kernel_rfl) rfl (sub_cons (by kernel_rfl) rfl (sub_cons (by kernel_rfl) (by rw [← e2]; rfl) (sub_cons (by kernel_rfl) rfl sub_nil))))
  · exact ⟨Nat.zero_le _, HS⟩
  intro s w1 hs
  clear HS
  obtain ⟨k, v⟩ := s
  obtain ⟨hk, HS⟩ := hs
  simp only at hk HS
  obtain ⟨m7, m8, m9, m10⟩ := hcell w1 HS.2.2.1
  have hfl := outs_le ts k
  refine wc_seq ?_
  refine wc_seq ?_
  refine wc_region ?_
  refine wl_val 23 (by kernel_rfl) ((op_move (v := .int .i64 _) rfl)) ?_
  refine wl_val 24 (by kernel_rfl) ((op_fieldL (m := 7) (k := 7) rfl (by kernel_rfl) rfl)) ?_
  refine wl_val 25 (by kernel_rfl) ((op_load rfl (by kernel_rfl) (by assumption))) ?_
  refine wl_val 26 (by kernel_rfl) ((op_len rfl (by kernel_rfl))) ?_
  refine wl_val 27 (by kernel_rfl) ((op_lss rfl rfl)) ?_
  refine wl_nil ?_
  refine wx_next ?_
  refine wc_cond (by kernel_rfl) rfl (fun h1 => ?_) (fun h1 => ?_)
  · skip
    have hlt : k < ts.length := by simpa using h1
    obtain ⟨x, hx⟩ := get_of_lt hlt
    obtain ⟨tb, tf, rfl, _, _⟩ := tr_cells (hT.below HS.1) hx
    have hrow := (hT.below HS.1).row (enc := trC) hx
    refine wc_skip ?_
    refine wx_next ?_
    refine wc_seq ?_
    refine wc_block ?_
    refine wc_seq ?_
    refine wc_region ?_
    refine wl_val 30 (by kernel_rfl) ((op_fieldL (m := 7) (k := 7) rfl (by kernel_rfl) rfl)) ?_
    refine wl_val 31 (by kernel_rfl) ((op_load rfl (by kernel_rfl) (by assumption))) ?_
    refine wl_val 32 (by kernel_rfl) ((op_move (v := .int .i64 _) rfl)) ?_
    refine wl_val 33 (by kernel_rfl) ((op_index (sz := 4) rfl rfl (by kernel_rfl) (by omega))) ?_
    refine wl_val 34 (by kernel_rfl) ((op_loadR (trC x) rfl (by kernel_rfl) hrow)) ?_
    refine wl_run 7 (by kernel_rfl) (op_alloc (v := .agg #[.int .i64 0, .int .i64 0, .int .i64 0, .int .i64 0]) [.int .i64 0, .int .i64 0, .int .i64 0, .int .i64 0] (by kernel_rfl) rfl) ?_
    refine wl_donew (by kernel_rfl) (op_fill _ (trC x) rfl rfl (by kernel_rfl) rfl rfl) ?_
    intro w2 hw2
    have HS2 : RPre w w.heap.size BK (outs ts k).1 (outs ts k).2 v w2 := by rw [hw2]; exact HS.alloc _
    have hbx : Blk w2 w1.heap.size 67 (trC x) := by rw [hw2]; exact Blk.new w1 _ _
    clear hw2 HS m7 m8 m9 m10 hrow
    refine wl_nil ?_
    refine wx_next ?_
    refine wc_seq ?_
    refine wc_seq ?_
    refine wc_region ?_
    refine wl_val 35 (by kernel_rfl) ((op_loadR (trC x) rfl (by kernel_rfl) (fun j u hu => by simpa using hbx.at_ j hu))) ?_
    refine wl_call 36 (by kernel_rfl) (op_call (by kernel_rfl)) (invalid_any _ _ _ _ _) ?_
    rintro e w3 ⟨rfl, hb3⟩
    have HS3 := HS2.later hb3
    have hbx3 := hbx.below hb3 hbx.lt
    clear hb3 HS2 hbx
    obtain ⟨gx, hgx⟩ : ∃ gx, gx = w1.heap.size := ⟨_, rfl⟩
    rw [← hgx] at hbx3 ⊢
    clear hgx
    refine ⟨_, rfl, ?_⟩
    refine wl_nil ?_
    refine wx_next ?_
    refine wc_cond (by kernel_rfl) rfl (fun h2 => ?_) (fun h2 => ?_)
    · skip
      have hbad : x.bad = true := h2
      refine wc_seq ?_
      refine wc_region ?_
      refine wl_val 37 (by kernel_rfl) ((op_move (v := _) rfl)) ?_
      refine wl_val 38 (by kernel_rfl) ((op_move (v := .int .i64 _) rfl)) ?_
      refine wl_val 39 (by kernel_rfl) ((op_build (z := [.int .i64 0, .int .i64 0, .int .i64 0]) (tab := [(0, 1), (1, 1), (2, 1)]) (cs := [.int .i64 _, .int .i64 _, .int .i64 _]) [(0, [.int .i64 _]), (1, [.int .i64 _])] (by kernel_rfl) (by kernel_rfl) (fillOk_cons rfl rfl rfl (fillOk_cons rfl rfl rfl fillOk_nil)) rfl)) ?_
      refine wl_new 40 (by kernel_rfl) (op_slice1 (el := 49) (size := 3) (bytes := 24) [.int .i64 _, .int .i64 _, .int .i64 _] (by kernel_rfl) rfl rfl rfl) ?_
      intro w4 hw4
      refine wl_pushO 41 ⟨1, k, 0⟩ (by kernel_rfl) rfl rfl HS3.2.2.2.2 (by have := HS3.2.1; omega) hw4 (by omega) ?_
      intro v5 w5 ho hg
      have HS5 := HS3.push ho hg
      clear ho hg hw4
      refine wl_val 4 (by kernel_rfl) ((op_assign (v := _) rfl)) ?_
      refine wl_nil ?_
      refine wx_next ?_
      refine wc_exit ?_
      refine wx_thenE ?_
      refine wx_here ?_
      refine wx_next ?_
      refine wc_region ?_
      refine wl_val 28 (by kernel_rfl) ((op_move (v := .int .i64 _) rfl)) ?_
      refine wl_val 29 (by kernel_rfl) ((op_add rfl rfl (by omega))) ?_
      refine wl_val 6 (by kernel_rfl) ((op_assign (v := .int .i64 _) rfl)) ?_
      refine wl_nil ?_
      refine wx_round (k + 1, _) (sub_cons (by kernel_rfl) rfl (sub_cons (by kernel_rfl) rfl (sub_cons (by kernel_rfl) rfl (sub_cons (by kernel_rfl) rfl sub_nil)))) ⟨hlt, ?_⟩ (by simp only; omega)
      simp only
      first | (rw [outs_bad hx hbad]; exact HS5) | (rw [outs_succ hx, stepO_neg hbad hneg]; exact HS6) | (rw [outs_succ hx, stepO_not hbad hneg]; exact HS4)
    · skip
      have hbad : ¬ x.bad = true := by have h0 : x.bad = false := h2; rw [h0]; decide
      have hgd := good_of (x := x) h2
      obtain ⟨xf, xt, xlo, xhi⟩ := x
      simp only at hgd
      obtain ⟨fn, hfn⟩ := Int.eq_ofNat_of_zero_le hgd.1
      subst hfn
      have y0 := hbx3.at_ 0 rfl
      have y1 := HS3.2.2.2.1.at_ fn (toC_get _ (by omega))
      obtain ⟨m7, m8, m9, m10⟩ := hcell w3 HS3.2.2.1
      refine wc_skip ?_
      refine wx_next ?_
      refine wc_seq ?_
      refine wc_held (fun w' => w'.cell? ⟨gx, 0, none⟩ = some (.int .i64 fn) ∧ w'.cell? ⟨w.heap.size + 1 + 1, fn, none⟩ = some (.bool ((outs ts k).1 fn)) ∧ w'.cell? ⟨w.heap.size, 7, none⟩ = some (.slice (some ⟨tb, tf, none⟩) ts.length c)) (σ := Unit) (fun _ => [(65, .bool (decide ((fn : Int) ≠ 0 ∧ stk (ts.take (k + 1)) (fn * 2 + 1) < 0 ∧ (outs ts k).1 fn = false)))]) (fun _ wr => RPre w w.heap.size BK (outs ts k).1 (outs ts k).2 v wr ∧ Blk wr gx 67 (trC ⟨fn, xt, xlo, xhi⟩)) 24 (by kernel_rfl) rfl ⟨y0, y1, m7⟩ ?_ ?_
      · skip
        refine wh_take 0 42 rfl (by kernel_rfl) (by kernel_rfl) (fun w1 c1 => (op_fieldL (m := 0) (k := 0) rfl (by kernel_rfl) rfl)) (by exact ⟨y0, y1, m7⟩) ?_
        refine wh_take 1 43 rfl (by kernel_rfl) (by kernel_rfl) (fun w1 c1 => (op_load rfl (by kernel_rfl) c1.1)) (by exact ⟨y0, y1, m7⟩) ?_
        refine wh_dec 2 44 rfl (by kernel_rfl) (by kernel_rfl) (fun w1 c1 => (op_neq rfl rfl)) (by exact ⟨y0, y1, m7⟩) (fun h3 => ?_) (fun h3 => ?_)
        · skip
          refine wh_take 3 45 rfl (by kernel_rfl) (by kernel_rfl) (fun w1 c1 => (op_move (v := .bool true) rfl)) (by exact ⟨y0, y1, m7⟩) ?_
          refine wh_take 4 46 rfl (by kernel_rfl) (by kernel_rfl) (fun w1 c1 => (op_move (v := .slice _ _ _) rfl)) (by exact ⟨y0, y1, m7⟩) ?_
          refine wh_take 5 47 rfl (by kernel_rfl) (by kernel_rfl) (fun w1 c1 => (op_fieldL (m := 0) (k := 0) rfl (by kernel_rfl) rfl)) (by exact ⟨y0, y1, m7⟩) ?_
          refine wh_take 6 48 rfl (by kernel_rfl) (by kernel_rfl) (fun w1 c1 => (op_load rfl (by kernel_rfl) c1.1)) (by exact ⟨y0, y1, m7⟩) ?_
          refine wh_take 7 49 rfl (by kernel_rfl) (by kernel_rfl) (fun w1 c1 => (op_index1z rfl rfl (by kernel_rfl) (by omega))) (by exact ⟨y0, y1, m7⟩) ?_
          refine wh_bool 8 50 rfl (by kernel_rfl) (by kernel_rfl) (fun w1 c1 => (op_load rfl (by kernel_rfl) c1.2.1)) (by exact ⟨y0, y1, m7⟩) (fun h4 => ?_) (fun h4 => ?_)
          · skip
            refine wh_take 9 51 rfl (by kernel_rfl) (by kernel_rfl) (fun w1 c1 => (op_nott rfl)) (by exact ⟨y0, y1, m7⟩) ?_
            refine wh_take 10 52 rfl (by kernel_rfl) (by kernel_rfl) (fun w1 c1 => (op_pick_t (v := .bool false) rfl rfl)) (by exact ⟨y0, y1, m7⟩) ?_
            refine wh_take 11 53 rfl (by kernel_rfl) (by kernel_rfl) (fun w1 c1 => (op_move (v := .bool false) rfl)) (by exact ⟨y0, y1, m7⟩) ?_
            refine wh_skip 12 54 rfl (by kernel_rfl) (by kernel_rfl) (by exact ⟨y0, y1, m7⟩) ?_
            refine wh_skip 13 55 rfl (by kernel_rfl) (by kernel_rfl) (by exact ⟨y0, y1, m7⟩) ?_
            refine wh_skip 14 56 rfl (by kernel_rfl) (by kernel_rfl) (by exact ⟨y0, y1, m7⟩) ?_
            refine wh_skip 15 57 rfl (by kernel_rfl) (by kernel_rfl) (by exact ⟨y0, y1, m7⟩) ?_
            refine wh_skip 17 59 rfl (by kernel_rfl) (by kernel_rfl) (by exact ⟨y0, y1, m7⟩) ?_
            refine wh_skip 18 60 rfl (by kernel_rfl) (by kernel_rfl) (by exact ⟨y0, y1, m7⟩) ?_
            refine wh_skip 16 58 rfl (by kernel_rfl) (by kernel_rfl) (by exact ⟨y0, y1, m7⟩) ?_
            refine wh_skip 19 61 rfl (by kernel_rfl) (by kernel_rfl) (by exact ⟨y0, y1, m7⟩) ?_
            refine wh_skip 20 62 rfl (by kernel_rfl) (by kernel_rfl) (by exact ⟨y0, y1, m7⟩) ?_
            refine wh_skip 21 63 rfl (by kernel_rfl) (by kernel_rfl) (by exact ⟨y0, y1, m7⟩) ?_
            refine wh_skip 22 64 rfl (by kernel_rfl) (by kernel_rfl) (by exact ⟨y0, y1, m7⟩) ?_
            refine wh_take 23 65 rfl (by kernel_rfl) (by kernel_rfl) (fun w1 c1 => (op_pick_f (v := .bool false) rfl rfl)) (by exact ⟨y0, y1, m7⟩) ?_
            refine wh_done () (by kernel_rfl) (sub_out 24 _ rfl (by kernel_rfl) ?_) ?_
            · refine ⟨congrArg Value.bool ?_, trivial⟩
              rw [Bool.eq_iff_iff]; simp_all
            · first | exact ⟨(HS3.drewN 1).later hb6, Blk.below (w := w3.drew) hbx3 hb6 hbx3.lt⟩ | exact ⟨HS3.drewN 1, hbx3⟩
          · skip
            refine wh_take 9 51 rfl (by kernel_rfl) (by kernel_rfl) (fun w1 c1 => (op_notf rfl)) (by exact ⟨y0, y1, m7⟩) ?_
            refine wh_take 10 52 rfl (by kernel_rfl) (by kernel_rfl) (fun w1 c1 => (op_pick_t (v := .bool true) rfl rfl)) (by exact ⟨y0, y1, m7⟩) ?_
            refine wh_take 11 53 rfl (by kernel_rfl) (by kernel_rfl) (fun w1 c1 => (op_move (v := .bool true) rfl)) (by exact ⟨y0, y1, m7⟩) ?_
            refine wh_take 12 54 rfl (by kernel_rfl) (by kernel_rfl) (fun w1 c1 => (op_fieldL (m := 7) (k := 7) rfl (by kernel_rfl) rfl)) (by exact ⟨y0, y1, m7⟩) ?_
            refine wh_take 13 55 rfl (by kernel_rfl) (by kernel_rfl) (fun w1 c1 => (op_load rfl (by kernel_rfl) c1.2.2)) (by exact ⟨y0, y1, m7⟩) ?_
            refine wh_take 14 56 rfl (by kernel_rfl) (by kernel_rfl) (fun w1 c1 => (op_move (v := .int .i64 _) rfl)) (by exact ⟨y0, y1, m7⟩) ?_
            refine wh_take 15 57 rfl (by kernel_rfl) (by kernel_rfl) (fun w1 c1 => (op_add rfl rfl (by omega))) (by exact ⟨y0, y1, m7⟩) ?_
            refine wh_take 17 59 rfl (by kernel_rfl) (by kernel_rfl) (fun w1 c1 => (op_fieldL (m := 0) (k := 0) rfl (by kernel_rfl) rfl)) (by exact ⟨y0, y1, m7⟩) ?_
            refine wh_take 18 60 rfl (by kernel_rfl) (by kernel_rfl) (fun w1 c1 => (op_load rfl (by kernel_rfl) c1.1)) (by exact ⟨y0, y1, m7⟩) ?_
            refine wh_call 16 58 rfl (by kernel_rfl) (by kernel_rfl) (op_call (by kernel_rfl)) (stocks_at (some ⟨tb, tf, none⟩) c ts (k + 1) (by omega) (by omega) (by omega) _ (((hT.below HS3.1).drewN 1).more (by simp; have := HS3.2.1; omega))) ?_
            rintro e w6 ⟨g, rfl, hg0, hbg, hb6⟩
            have k0 := (hb6.cell (p := ⟨gx, 0, none⟩) hbx3.lt).trans y0
            have k1 := (hb6.cell (p := ⟨w.heap.size + 1 + 1, fn, none⟩) HS3.2.2.2.1.lt).trans y1
            have k2 := (hb6.cell (p := ⟨w.heap.size, 7, none⟩) HS3.2.2.1.lt).trans m7
            have cg := hbg.at_ (fn * 2 + 1) (stC_get _ (by omega))
            rw [show ((k : Int) + 1).toNat = k + 1 from by omega] at cg
            refine ⟨_, rfl, ⟨k0, k1, k2⟩, ?_⟩
            refine wh_strong (fun w' => (fun w' => w'.cell? ⟨gx, 0, none⟩ = some (.int .i64 fn) ∧ w'.cell? ⟨w.heap.size + 1 + 1, fn, none⟩ = some (.bool ((outs ts k).1 fn)) ∧ w'.cell? ⟨w.heap.size, 7, none⟩ = some (.slice (some ⟨tb, tf, none⟩) ts.length c)) w' ∧ w'.cell? ⟨g, fn * 2 + 1, none⟩ = some (.int .i64 (stk (ts.take (k + 1)) (fn * 2 + 1)))) (fun _ h => h.1) ?_
            refine wh_take 19 61 rfl (by kernel_rfl) (by kernel_rfl) (fun w1 c1 => (op_indexz (sz := 2) rfl rfl (by kernel_rfl) (by omega))) (by exact ⟨⟨k0, k1, k2⟩, cg⟩) ?_
            refine wh_take 20 62 rfl (by kernel_rfl) (by kernel_rfl) (fun w1 c1 => (op_field (m := 1) rfl (by kernel_rfl))) (by exact ⟨⟨k0, k1, k2⟩, cg⟩) ?_
            refine wh_take 21 63 rfl (by kernel_rfl) (by kernel_rfl) (fun w1 c1 => (op_load rfl (by kernel_rfl) c1.2)) (by exact ⟨⟨k0, k1, k2⟩, cg⟩) ?_
            refine wh_take 22 64 rfl (by kernel_rfl) (by kernel_rfl) (fun w1 c1 => (op_lss rfl rfl)) (by exact ⟨⟨k0, k1, k2⟩, cg⟩) ?_
            refine wh_take 23 65 rfl (by kernel_rfl) (by kernel_rfl) (fun w1 c1 => (op_pick_t (v := .bool _) rfl rfl)) (by exact ⟨⟨k0, k1, k2⟩, cg⟩) ?_
            refine wh_done () (by kernel_rfl) (sub_out 24 _ rfl (by kernel_rfl) ?_) ?_
            · refine ⟨congrArg Value.bool ?_, trivial⟩
              rw [Bool.eq_iff_iff]; simp_all
            · first | exact ⟨(HS3.drewN 1).later hb6, Blk.below (w := w3.drew) hbx3 hb6 hbx3.lt⟩ | exact ⟨HS3.drewN 1, hbx3⟩
        · skip
          refine wh_take 3 45 rfl (by kernel_rfl) (by kernel_rfl) (fun w1 c1 => (op_move (v := .bool false) rfl)) (by exact ⟨y0, y1, m7⟩) ?_
          refine wh_skip 4 46 rfl (by kernel_rfl) (by kernel_rfl) (by exact ⟨y0, y1, m7⟩) ?_
          refine wh_skip 5 47 rfl (by kernel_rfl) (by kernel_rfl) (by exact ⟨y0, y1, m7⟩) ?_
          refine wh_skip 6 48 rfl (by kernel_rfl) (by kernel_rfl) (by exact ⟨y0, y1, m7⟩) ?_
          refine wh_skip 7 49 rfl (by kernel_rfl) (by kernel_rfl) (by exact ⟨y0, y1, m7⟩) ?_
          refine wh_skip 8 50 rfl (by kernel_rfl) (by kernel_rfl) (by exact ⟨y0, y1, m7⟩) ?_
          refine wh_skip 9 51 rfl (by kernel_rfl) (by kernel_rfl) (by exact ⟨y0, y1, m7⟩) ?_
          refine wh_take 10 52 rfl (by kernel_rfl) (by kernel_rfl) (fun w1 c1 => (op_pick_f (v := .bool false) rfl rfl)) (by exact ⟨y0, y1, m7⟩) ?_
          refine wh_take 11 53 rfl (by kernel_rfl) (by kernel_rfl) (fun w1 c1 => (op_move (v := .bool false) rfl)) (by exact ⟨y0, y1, m7⟩) ?_
          refine wh_skip 12 54 rfl (by kernel_rfl) (by kernel_rfl) (by exact ⟨y0, y1, m7⟩) ?_
          refine wh_skip 13 55 rfl (by kernel_rfl) (by kernel_rfl) (by exact ⟨y0, y1, m7⟩) ?_
          refine wh_skip 14 56 rfl (by kernel_rfl) (by kernel_rfl) (by exact ⟨y0, y1, m7⟩) ?_
          refine wh_skip 15 57 rfl (by kernel_rfl) (by kernel_rfl) (by exact ⟨y0, y1, m7⟩) ?_
          refine wh_skip 17 59 rfl (by kernel_rfl) (by kernel_rfl) (by exact ⟨y0, y1, m7⟩) ?_
          refine wh_skip 18 60 rfl (by kernel_rfl) (by kernel_rfl) (by exact ⟨y0, y1, m7⟩) ?_
          refine wh_skip 16 58 rfl (by kernel_rfl) (by kernel_rfl) (by exact ⟨y0, y1, m7⟩) ?_
          refine wh_skip 19 61 rfl (by kernel_rfl) (by kernel_rfl) (by exact ⟨y0, y1, m7⟩) ?_
          refine wh_skip 20 62 rfl (by kernel_rfl) (by kernel_rfl) (by exact ⟨y0, y1, m7⟩) ?_
          refine wh_skip 21 63 rfl (by kernel_rfl) (by kernel_rfl) (by exact ⟨y0, y1, m7⟩) ?_
          refine wh_skip 22 64 rfl (by kernel_rfl) (by kernel_rfl) (by exact ⟨y0, y1, m7⟩) ?_
          refine wh_take 23 65 rfl (by kernel_rfl) (by kernel_rfl) (fun w1 c1 => (op_pick_f (v := .bool false) rfl rfl)) (by exact ⟨y0, y1, m7⟩) ?_
          refine wh_done () (by kernel_rfl) (sub_out 24 _ rfl (by kernel_rfl) ?_) ?_
          · refine ⟨congrArg Value.bool ?_, trivial⟩
            rw [Bool.eq_iff_iff]; simp_all
          · first | exact ⟨(HS3.drewN 1).later hb6, Blk.below (w := w3.drew) hbx3 hb6 hbx3.lt⟩ | exact ⟨HS3.drewN 1, hbx3⟩
      rintro _ w4 ⟨HS4, hbx4⟩
      have z0 := hbx4.at_ 0 rfl
      clear y0 y1 m7 m8 m9 m10 HS3 hbx3
      refine wx_next ?_
      refine wc_cond (by kernel_rfl) rfl (fun h5 => ?_) (fun h5 => ?_)
      · skip
        have hneg := of_decide_eq_true h5
        refine wc_seq ?_
        refine wc_region ?_
        refine wl_val 66 (by kernel_rfl) ((op_move (v := _) rfl)) ?_
        refine wl_val 67 (by kernel_rfl) ((op_fieldL (m := 0) (k := 0) rfl (by kernel_rfl) rfl)) ?_
        refine wl_val 68 (by kernel_rfl) ((op_load rfl (by kernel_rfl) (by assumption))) ?_
        refine wl_val 69 (by kernel_rfl) ((op_move (v := .int .i64 _) rfl)) ?_
        refine wl_val 70 (by kernel_rfl) ((op_build (z := [.int .i64 0, .int .i64 0, .int .i64 0]) (tab := [(0, 1), (1, 1), (2, 1)]) (cs := [.int .i64 _, .int .i64 _, .int .i64 _]) [(0, [.int .i64 _]), (1, [.int .i64 _]), (2, [.int .i64 _])] (by kernel_rfl) (by kernel_rfl) (fillOk_cons rfl rfl rfl (fillOk_cons rfl rfl rfl (fillOk_cons rfl rfl rfl fillOk_nil))) rfl)) ?_
        refine wl_new 71 (by kernel_rfl) (op_slice1 (el := 49) (size := 3) (bytes := 24) [.int .i64 _, .int .i64 _, .int .i64 _] (by kernel_rfl) rfl rfl rfl) ?_
        intro w5 hw5
        refine wl_pushO 72 ⟨2, fn, k⟩ (by kernel_rfl) rfl rfl HS4.2.2.2.2 (by have := HS4.2.1; omega) hw5 (by omega) ?_
        intro v6 w6 ho hg
        have HS5a := HS4.push ho hg
        have hbx6 := (hbx4.alloc _).grown hg (own_blk_ne HS4.2.2.2.2 hbx4 (by decide))
        have z6 := hbx6.at_ 0 rfl
        have z7 := HS5a.2.2.2.1.at_ fn (toC_get _ (by omega))
        have z8 := HS5a.2.2.2.1.free fn
        clear ho hg hw5 z0
        refine wl_val 4 (by kernel_rfl) ((op_assign (v := _) rfl)) ?_
        refine wl_nil ?_
        refine wx_next ?_
        refine wc_region ?_
        refine wl_val 73 (by kernel_rfl) ((op_move (v := .slice _ _ _) rfl)) ?_
        refine wl_val 74 (by kernel_rfl) ((op_fieldL (m := 0) (k := 0) rfl (by kernel_rfl) rfl)) ?_
        refine wl_val 75 (by kernel_rfl) ((op_load rfl (by kernel_rfl) (by assumption))) ?_
        refine wl_val 76 (by kernel_rfl) ((op_index1z rfl rfl (by kernel_rfl) (by omega))) ?_
        refine wl_donew (by kernel_rfl) (op_store rfl rfl (by kernel_rfl) rfl z7 z8) ?_
        intro w7 hw7
        have HS6 : RPre w w.heap.size BK (upd (outs ts k).1 fn true) ((outs ts k).2 ++ [⟨2, fn, k⟩]) v6 w7 := by rw [hw7]; exact HS5a.told fn true
        clear hw7
        refine wl_nil ?_
        refine wx_inN ?_
        refine wx_next ?_
        refine wc_region ?_
        refine wl_val 28 (by kernel_rfl) ((op_move (v := .int .i64 _) rfl)) ?_
        refine wl_val 29 (by kernel_rfl) ((op_add rfl rfl (by omega))) ?_
        refine wl_val 6 (by kernel_rfl) ((op_assign (v := .int .i64 _) rfl)) ?_
        refine wl_nil ?_
        refine wx_round (k + 1, _) (sub_cons (by kernel_rfl) rfl (sub_cons (by kernel_rfl) rfl (sub_cons (by kernel_rfl) rfl (sub_cons (by kernel_rfl) rfl sub_nil)))) ⟨hlt, ?_⟩ (by simp only; omega)
        simp only
        first | (rw [outs_bad hx hbad]; exact HS5) | (rw [outs_succ hx, stepO_neg hbad hneg]; exact HS6) | (rw [outs_succ hx, stepO_not hbad hneg]; exact HS4)
      · skip
        have hneg := of_decide_eq_false h5
        refine wc_skip ?_
        refine wx_inN ?_
        refine wx_next ?_
        refine wc_region ?_
        refine wl_val 28 (by kernel_rfl) ((op_move (v := .int .i64 _) rfl)) ?_
        refine wl_val 29 (by kernel_rfl) ((op_add rfl rfl (by omega))) ?_
        refine wl_val 6 (by kernel_rfl) ((op_assign (v := .int .i64 _) rfl)) ?_
        refine wl_nil ?_
        refine wx_round (k + 1, _) (sub_cons (by kernel_rfl) rfl (sub_cons (by kernel_rfl) rfl (sub_cons (by kernel_rfl) rfl (sub_cons (by kernel_rfl) rfl sub_nil)))) ⟨hlt, ?_⟩ (by simp only; omega)
        simp only
        first | (rw [outs_bad hx hbad]; exact HS5) | (rw [outs_succ hx, stepO_neg hbad hneg]; exact HS6) | (rw [outs_succ hx, stepO_not hbad hneg]; exact HS4)
  · skip
    have hge : k = ts.length := by have := of_decide_eq_false h1; omega
    subst hge
    refine wc_exit ?_
    refine wx_thenE ?_
    refine wx_thenE ?_
    refine wx_here ?_
    refine wx_next ?_
    refine wc_seq ?_
    refine wc_region ?_
    refine wl_val 77 (by kernel_rfl) ((op_fieldL (m := 7) (k := 7) rfl (by kernel_rfl) rfl)) ?_
    refine wl_val 78 (by kernel_rfl) ((op_load rfl (by kernel_rfl) (by assumption))) ?_
    refine wl_val 79 (by kernel_rfl) ((op_fieldL (m := 7) (k := 7) rfl (by kernel_rfl) rfl)) ?_
    refine wl_val 80 (by kernel_rfl) ((op_load rfl (by kernel_rfl) (by assumption))) ?_
    refine wl_val 81 (by kernel_rfl) ((op_len rfl (by kernel_rfl))) ?_
    refine wl_call 82 (by kernel_rfl) (op_call (by kernel_rfl)) (stocks_any trA c ts ts.length (Nat.le_refl _) (by omega) _ ((hT.below HS.1).more HS.1.size)) ?_
    rintro e w2 ⟨g, rfl, hg0, hbg, hb2⟩
    have HS2 := HS.later hb2
    rw [List.take_length] at hbg
    obtain ⟨m7b, m8b, m9b, m10b⟩ := hcell w2 HS2.2.2.1
    clear hb2 HS m7 m8 m9 m10
    refine ⟨_, rfl, ?_⟩
    refine wl_val 8 (by kernel_rfl) ((op_assign (v := .slice _ _ _) rfl)) ?_
    refine wl_nil ?_
    refine wx_next ?_
    refine wc_seq ?_
    refine wc_seq ?_
    refine wc_drawn (fun wr => RPre w w.heap.size BK (outs ts ts.length).1 (outs ts ts.length).2 v wr ∧ Blk wr g 56 (stC (stk ts))) [(112, .bool (plantBad ts ins bins))] (by kernel_rfl) (by kernel_rfl) ⟨HS2.drewN 1, hbg⟩ ?_ ?_
    · skip
      refine wq_val 83 (by kernel_rfl) (fun w1 c1 => (op_fieldL (m := 8) (k := 8) rfl (by kernel_rfl) rfl)) ?_
      refine wq_val 84 (by kernel_rfl) (fun w1 c1 => (op_load rfl (by kernel_rfl) (hcell w1 c1.1.2.2.1).2.1)) ?_
      refine wq_dec 85 (by kernel_rfl) (fun w1 c1 => (op_lss rfl rfl)) (fun h6 => ?_) (fun h6 => ?_)
      · skip
        refine wq_val 86 (by kernel_rfl) (fun w1 c1 => (op_move (v := .bool true) rfl)) ?_
        refine wq_skip 87 (by kernel_rfl) ?_
        refine wq_skip 88 (by kernel_rfl) ?_
        refine wq_skip 89 (by kernel_rfl) ?_
        refine wq_val 90 (by kernel_rfl) (fun w1 c1 => (op_pick_t (v := .bool true) rfl rfl)) ?_
        refine wq_val 91 (by kernel_rfl) (fun w1 c1 => (op_move (v := .bool true) rfl)) ?_
        refine wq_skip 92 (by kernel_rfl) ?_
        refine wq_skip 93 (by kernel_rfl) ?_
        refine wq_skip 94 (by kernel_rfl) ?_
        refine wq_val 95 (by kernel_rfl) (fun w1 c1 => (op_pick_t (v := .bool true) rfl rfl)) ?_
        refine wq_val 96 (by kernel_rfl) (fun w1 c1 => (op_move (v := .bool true) rfl)) ?_
        refine wq_skip 97 (by kernel_rfl) ?_
        refine wq_skip 98 (by kernel_rfl) ?_
        refine wq_skip 99 (by kernel_rfl) ?_
        refine wq_val 100 (by kernel_rfl) (fun w1 c1 => (op_pick_t (v := .bool true) rfl rfl)) ?_
        refine wq_val 101 (by kernel_rfl) (fun w1 c1 => (op_move (v := .bool true) rfl)) ?_
        refine wq_skip 102 (by kernel_rfl) ?_
        refine wq_skip 103 (by kernel_rfl) ?_
        refine wq_skip 104 (by kernel_rfl) ?_
        refine wq_skip 105 (by kernel_rfl) ?_
        refine wq_skip 106 (by kernel_rfl) ?_
        refine wq_skip 107 (by kernel_rfl) ?_
        refine wq_skip 108 (by kernel_rfl) ?_
        refine wq_skip 109 (by kernel_rfl) ?_
        refine wq_skip 110 (by kernel_rfl) ?_
        refine wq_skip 111 (by kernel_rfl) ?_
        refine wq_val 112 (by kernel_rfl) (fun w1 c1 => (op_pick_t (v := .bool true) rfl rfl)) ?_
        refine leaf_q (sub_out 30 _ rfl (by kernel_rfl) ?_)
        refine ⟨congrArg Value.bool ?_, trivial⟩; rw [plantBad_re]; rw [Bool.eq_iff_iff]; simp_all <;> omega
      · skip
        refine wq_val 86 (by kernel_rfl) (fun w1 c1 => (op_move (v := .bool false) rfl)) ?_
        refine wq_val 87 (by kernel_rfl) (fun w1 c1 => (op_fieldL (m := 8) (k := 8) rfl (by kernel_rfl) rfl)) ?_
        refine wq_val 88 (by kernel_rfl) (fun w1 c1 => (op_load rfl (by kernel_rfl) (hcell w1 c1.1.2.2.1).2.1)) ?_
        refine wq_dec 89 (by kernel_rfl) (fun w1 c1 => (op_gtr rfl rfl)) (fun h7 => ?_) (fun h7 => ?_)
        · skip
          refine wq_val 90 (by kernel_rfl) (fun w1 c1 => (op_pick_f (v := .bool true) rfl rfl)) ?_
          refine wq_val 91 (by kernel_rfl) (fun w1 c1 => (op_move (v := .bool true) rfl)) ?_
          refine wq_skip 92 (by kernel_rfl) ?_
          refine wq_skip 93 (by kernel_rfl) ?_
          refine wq_skip 94 (by kernel_rfl) ?_
          refine wq_val 95 (by kernel_rfl) (fun w1 c1 => (op_pick_t (v := .bool true) rfl rfl)) ?_
          refine wq_val 96 (by kernel_rfl) (fun w1 c1 => (op_move (v := .bool true) rfl)) ?_
          refine wq_skip 97 (by kernel_rfl) ?_
          refine wq_skip 98 (by kernel_rfl) ?_
          refine wq_skip 99 (by kernel_rfl) ?_
          refine wq_val 100 (by kernel_rfl) (fun w1 c1 => (op_pick_t (v := .bool true) rfl rfl)) ?_
          refine wq_val 101 (by kernel_rfl) (fun w1 c1 => (op_move (v := .bool true) rfl)) ?_
          refine wq_skip 102 (by kernel_rfl) ?_
          refine wq_skip 103 (by kernel_rfl) ?_
          refine wq_skip 104 (by kernel_rfl) ?_
          refine wq_skip 105 (by kernel_rfl) ?_
          refine wq_skip 106 (by kernel_rfl) ?_
          refine wq_skip 107 (by kernel_rfl) ?_
          refine wq_skip 108 (by kernel_rfl) ?_
          refine wq_skip 109 (by kernel_rfl) ?_
          refine wq_skip 110 (by kernel_rfl) ?_
          refine wq_skip 111 (by kernel_rfl) ?_
          refine wq_val 112 (by kernel_rfl) (fun w1 c1 => (op_pick_t (v := .bool true) rfl rfl)) ?_
          refine leaf_q (sub_out 30 _ rfl (by kernel_rfl) ?_)
          refine ⟨congrArg Value.bool ?_, trivial⟩; rw [plantBad_re]; rw [Bool.eq_iff_iff]; simp_all <;> omega
        · skip
          refine wq_val 90 (by kernel_rfl) (fun w1 c1 => (op_pick_f (v := .bool false) rfl rfl)) ?_
          refine wq_val 91 (by kernel_rfl) (fun w1 c1 => (op_move (v := .bool false) rfl)) ?_
          refine wq_val 92 (by kernel_rfl) (fun w1 c1 => (op_fieldL (m := 9) (k := 9) rfl (by kernel_rfl) rfl)) ?_
          refine wq_val 93 (by kernel_rfl) (fun w1 c1 => (op_load rfl (by kernel_rfl) (hcell w1 c1.1.2.2.1).2.2.1)) ?_
          refine wq_dec 94 (by kernel_rfl) (fun w1 c1 => (op_lss rfl rfl)) (fun h8 => ?_) (fun h8 => ?_)
          · skip
            refine wq_val 95 (by kernel_rfl) (fun w1 c1 => (op_pick_f (v := .bool true) rfl rfl)) ?_
            refine wq_val 96 (by kernel_rfl) (fun w1 c1 => (op_move (v := .bool true) rfl)) ?_
            refine wq_skip 97 (by kernel_rfl) ?_
            refine wq_skip 98 (by kernel_rfl) ?_
            refine wq_skip 99 (by kernel_rfl) ?_
            refine wq_val 100 (by kernel_rfl) (fun w1 c1 => (op_pick_t (v := .bool true) rfl rfl)) ?_
            refine wq_val 101 (by kernel_rfl) (fun w1 c1 => (op_move (v := .bool true) rfl)) ?_
            refine wq_skip 102 (by kernel_rfl) ?_
            refine wq_skip 103 (by kernel_rfl) ?_
            refine wq_skip 104 (by kernel_rfl) ?_
            refine wq_skip 105 (by kernel_rfl) ?_
            refine wq_skip 106 (by kernel_rfl) ?_
            refine wq_skip 107 (by kernel_rfl) ?_
            refine wq_skip 108 (by kernel_rfl) ?_
            refine wq_skip 109 (by kernel_rfl) ?_
            refine wq_skip 110 (by kernel_rfl) ?_
            refine wq_skip 111 (by kernel_rfl) ?_
            refine wq_val 112 (by kernel_rfl) (fun w1 c1 => (op_pick_t (v := .bool true) rfl rfl)) ?_
            refine leaf_q (sub_out 30 _ rfl (by kernel_rfl) ?_)
            refine ⟨congrArg Value.bool ?_, trivial⟩; rw [plantBad_re]; rw [Bool.eq_iff_iff]; simp_all <;> omega
          · skip
            refine wq_val 95 (by kernel_rfl) (fun w1 c1 => (op_pick_f (v := .bool false) rfl rfl)) ?_
            refine wq_val 96 (by kernel_rfl) (fun w1 c1 => (op_move (v := .bool false) rfl)) ?_
            refine wq_val 97 (by kernel_rfl) (fun w1 c1 => (op_fieldL (m := 9) (k := 9) rfl (by kernel_rfl) rfl)) ?_
            refine wq_val 98 (by kernel_rfl) (fun w1 c1 => (op_load rfl (by kernel_rfl) (hcell w1 c1.1.2.2.1).2.2.1)) ?_
            refine wq_dec 99 (by kernel_rfl) (fun w1 c1 => (op_gtr rfl rfl)) (fun h9 => ?_) (fun h9 => ?_)
            · skip
              refine wq_val 100 (by kernel_rfl) (fun w1 c1 => (op_pick_f (v := .bool true) rfl rfl)) ?_
              refine wq_val 101 (by kernel_rfl) (fun w1 c1 => (op_move (v := .bool true) rfl)) ?_
              refine wq_skip 102 (by kernel_rfl) ?_
              refine wq_skip 103 (by kernel_rfl) ?_
              refine wq_skip 104 (by kernel_rfl) ?_
              refine wq_skip 105 (by kernel_rfl) ?_
              refine wq_skip 106 (by kernel_rfl) ?_
              refine wq_skip 107 (by kernel_rfl) ?_
              refine wq_skip 108 (by kernel_rfl) ?_
              refine wq_skip 109 (by kernel_rfl) ?_
              refine wq_skip 110 (by kernel_rfl) ?_
              refine wq_skip 111 (by kernel_rfl) ?_
              refine wq_val 112 (by kernel_rfl) (fun w1 c1 => (op_pick_t (v := .bool true) rfl rfl)) ?_
              refine leaf_q (sub_out 30 _ rfl (by kernel_rfl) ?_)
              refine ⟨congrArg Value.bool ?_, trivial⟩; rw [plantBad_re]; rw [Bool.eq_iff_iff]; simp_all <;> omega
            · skip
              refine wq_val 100 (by kernel_rfl) (fun w1 c1 => (op_pick_f (v := .bool false) rfl rfl)) ?_
              refine wq_val 101 (by kernel_rfl) (fun w1 c1 => (op_move (v := .bool false) rfl)) ?_
              refine wq_val 102 (by kernel_rfl) (fun w1 c1 => (op_move (v := .slice _ _ _) rfl)) ?_
              refine wq_val 103 (by kernel_rfl) (fun w1 c1 => (op_indexK (sz := 2) 3 (r := 6) rfl rfl rfl (by kernel_rfl) (by omega) rfl)) ?_
              refine wq_val 104 (by kernel_rfl) (fun w1 c1 => op_loadR [.int .i64 (stk ts 6), .int .i64 (stk ts 7)] rfl (by kernel_rfl) (fun j u hu => by
                match j, hu with
                | 0, hu => exact c1.2.at_ 6 hu
                | 1, hu => exact c1.2.at_ 7 hu)) ?_
              refine wq_val 105 (by kernel_rfl) (fun w1 c1 => (op_fieldL (m := 8) (k := 8) rfl (by kernel_rfl) rfl)) ?_
              refine wq_val 106 (by kernel_rfl) (fun w1 c1 => (op_load rfl (by kernel_rfl) (hcell w1 c1.1.2.2.1).2.1)) ?_
              refine wq_val 107 (by kernel_rfl) (fun w1 c1 => (op_fieldL (m := 9) (k := 9) rfl (by kernel_rfl) rfl)) ?_
              refine wq_val 108 (by kernel_rfl) (fun w1 c1 => (op_load rfl (by kernel_rfl) (hcell w1 c1.1.2.2.1).2.2.1)) ?_
              refine wq_val 109 (by kernel_rfl) (fun w1 c1 => (op_add rfl rfl (by omega))) ?_
              refine wq_call 110 (by kernel_rfl) (fun w1 c1 => op_call (by kernel_rfl)) (fun w1 c1 => (within_any _ _ _ _).mono fun _ _ ⟨h1, h2⟩ => ⟨h1, by subst h2; exact ⟨c1.1.alloc _, c1.2.alloc _⟩⟩) ?_
              refine wq_val 111 (by kernel_rfl) (fun w1 c1 => (op_not rfl)) ?_
              refine wq_val 112 (by kernel_rfl) (fun w1 c1 => (op_pick_f (v := .bool _) rfl rfl)) ?_
              refine leaf_q (sub_out 30 _ rfl (by kernel_rfl) ?_)
              refine ⟨congrArg Value.bool ?_, trivial⟩; rw [plantBad_re]; rw [Bool.eq_iff_iff]; simp_all <;> omega
    rintro w3 ⟨HS3, hbg3⟩
    obtain ⟨m7c, m8c, m9c, m10c⟩ := hcell w3 HS3.2.2.1
    clear HS2 hbg m7b m8b m9b m10b
    refine wx_next ?_
    refine wc_cond (by kernel_rfl) rfl (fun h10 => ?_) (fun h10 => ?_)
    · skip
      have hpb := h10
      refine wc_region ?_
      refine wl_val 113 (by kernel_rfl) ((op_move (v := _) rfl)) ?_
      refine wl_val 114 (by kernel_rfl) ((op_build (z := [.int .i64 0, .int .i64 0, .int .i64 0]) (tab := [(0, 1), (1, 1), (2, 1)]) (cs := [.int .i64 _, .int .i64 _, .int .i64 _]) [(0, [.int .i64 _])] (by kernel_rfl) (by kernel_rfl) (fillOk_cons rfl rfl rfl fillOk_nil) rfl)) ?_
      refine wl_new 115 (by kernel_rfl) (op_slice1 (el := 49) (size := 3) (bytes := 24) [.int .i64 _, .int .i64 _, .int .i64 _] (by kernel_rfl) rfl rfl rfl) ?_
      intro w4 hw4
      refine wl_pushO 116 ⟨3, 0, 0⟩ (by kernel_rfl) rfl rfl HS3.2.2.2.2 (by have := HS3.2.1; omega) hw4 (by have := outs_le ts ts.length; omega) ?_
      intro vv w5 ho hg
      have HSa : RPre w w.heap.size BK (outs ts ts.length).1 ((outs ts ts.length).2 ++ (if plantBad ts ins bins then [⟨3, 0, 0⟩] else [])) vv w5 := by rw [hpb]; exact HS3.push ho hg
      have hbga := (hbg3.alloc _).grown hg (own_blk_ne HS3.2.2.2.2 hbg3 (by decide))
      obtain ⟨m7d, m8d, m9d, m10d⟩ := hcell _ HSa.2.2.1
      clear ho hg hw4 m7c m8c m9c m10c
      refine wl_val 4 (by kernel_rfl) ((op_assign (v := _) rfl)) ?_
      refine wl_nil ?_
      refine wx_next ?_
      refine wc_seq ?_
      refine wc_region ?_
      refine wl_val 118 (by kernel_rfl) ((op_fieldL (m := 10) (k := 10) rfl (by kernel_rfl) rfl)) ?_
      refine wl_val 119 (by kernel_rfl) ((op_load rfl (by kernel_rfl) (by assumption))) ?_
      refine wl_call 120 (by kernel_rfl) (op_call (by kernel_rfl)) (baled_any baA cb bs _ (bal_later hB HSa.1)) ?_
      rintro e w6 ⟨rfl, hw6⟩
      subst hw6
      refine ⟨_, rfl, ?_⟩
      refine wl_val 117 (by kernel_rfl) ((op_move (v := .tuple _) rfl)) ?_
      refine wl_val 121 (by kernel_rfl) ((op_extract rfl rfl)) ?_
      refine wl_val 122 (by kernel_rfl) ((op_extract rfl rfl)) ?_
      refine wl_val 9 (by kernel_rfl) ((op_assign (v := .int .i64 _) rfl)) ?_
      refine wl_val 10 (by kernel_rfl) ((op_assign (v := .bool _) rfl)) ?_
      refine wl_nil ?_
      refine wx_next ?_
      refine wc_seq ?_
      refine wc_seq ?_
      refine wc_cutS (σ := Unit) (fun _ => [(132, .bool (balesBad ts bs))]) (fun _ wr => RPre w w.heap.size BK (outs ts ts.length).1 ((outs ts ts.length).2 ++ (if plantBad ts ins bins then [⟨3, 0, 0⟩] else [])) vv wr) ?_ ?_
      · skip
        refine wl_bool 123 (by kernel_rfl) ((op_move (v := .bool _) rfl)) (fun h11 => ?_) (fun h11 => ?_)
        · skip
          refine wl_val 124 (by kernel_rfl) ((op_nott rfl)) ?_
          refine wl_val 125 (by kernel_rfl) ((op_move (v := .bool false) rfl)) ?_
          refine wl_val 126 (by kernel_rfl) ((op_move (v := .slice _ _ _) rfl)) ?_
          refine wl_val 127 (by kernel_rfl) ((op_indexK (sz := 2) 4 (r := 8) rfl rfl rfl (by kernel_rfl) (by omega) rfl)) ?_
          refine wl_val 128 (by kernel_rfl) ((op_loadR [.int .i64 (stk ts 8), .int .i64 (stk ts 9)] rfl (by kernel_rfl) (fun j u hu => by
            match j, hu with
            | 0, hu => exact hbga.at_ 8 hu
            | 1, hu => exact hbga.at_ 9 hu))) ?_
          refine wl_val 129 (by kernel_rfl) ((op_move (v := .int .i64 _) rfl)) ?_
          refine wl_call 130 (by kernel_rfl) (op_call (by kernel_rfl)) (within_any _ _ _ _) ?_
          rintro e w8 ⟨rfl, hw8⟩
          have HSc : RPre w w.heap.size BK (outs ts ts.length).1 ((outs ts ts.length).2 ++ (if plantBad ts ins bins then [⟨3, 0, 0⟩] else [])) vv w8 := by rw [← hw8]; exact HSa.alloc _
          clear hw8
          refine ⟨_, rfl, ?_⟩
          refine wl_val 131 (by kernel_rfl) ((op_not rfl)) ?_
          refine wl_val 132 (by kernel_rfl) ((op_pick_f (v := .bool _) rfl rfl)) ?_
          refine leaf_s () (sub_out 10 _ rfl (by kernel_rfl) ?_) ?_
          · refine ⟨congrArg Value.bool ?_, trivial⟩
            rw [balesBad_re]; simp_all
          · first | exact HSc | exact HSa
        · skip
          refine wl_val 124 (by kernel_rfl) ((op_notf rfl)) ?_
          refine wl_val 125 (by kernel_rfl) ((op_move (v := .bool true) rfl)) ?_
          refine wl_skip 126 (by kernel_rfl) ?_
          refine wl_skip 127 (by kernel_rfl) ?_
          refine wl_skip 128 (by kernel_rfl) ?_
          refine wl_skip 129 (by kernel_rfl) ?_
          refine wl_skip 130 (by kernel_rfl) ?_
          refine wl_skip 131 (by kernel_rfl) ?_
          refine wl_val 132 (by kernel_rfl) ((op_pick_t (v := .bool true) rfl rfl)) ?_
          refine leaf_s () (sub_out 10 _ rfl (by kernel_rfl) ?_) ?_
          · refine ⟨congrArg Value.bool ?_, trivial⟩
            rw [balesBad_re]; simp_all
          · first | exact HSc | exact HSa
      rintro _ w7 HS7
      refine wx_next ?_
      refine wc_cond (by kernel_rfl) rfl (fun h12 => ?_) (fun h12 => ?_)
      · skip
        have hbb := h12
        refine wc_region ?_
        refine wl_val 133 (by kernel_rfl) ((op_move (v := _) rfl)) ?_
        refine wl_val 134 (by kernel_rfl) ((op_build (z := [.int .i64 0, .int .i64 0, .int .i64 0]) (tab := [(0, 1), (1, 1), (2, 1)]) (cs := [.int .i64 _, .int .i64 _, .int .i64 _]) [(0, [.int .i64 _])] (by kernel_rfl) (by kernel_rfl) (fillOk_cons rfl rfl rfl fillOk_nil) rfl)) ?_
        refine wl_new 135 (by kernel_rfl) (op_slice1 (el := 49) (size := 3) (bytes := 24) [.int .i64 _, .int .i64 _, .int .i64 _] (by kernel_rfl) rfl rfl rfl) ?_
        intro w9 hw9
        refine wl_pushO 136 ⟨4, 0, 0⟩ (by kernel_rfl) rfl rfl HS7.2.2.2.2 (by have := HS7.2.1; omega) hw9 (by have := outs_le ts ts.length; rw [List.length_append]; split <;> simp <;> omega) ?_
        intro v9 w10 ho hg
        have HS8 : RPre w w.heap.size BK (outs ts ts.length).1 ((outs ts ts.length).2 ++ (if plantBad ts ins bins then [⟨3, 0, 0⟩] else []) ++ (if balesBad ts bs then [⟨4, 0, 0⟩] else [])) v9 w10 := by rw [hbb]; exact HS7.push ho hg
        clear ho hg hw9
        refine wl_val 4 (by kernel_rfl) ((op_assign (v := _) rfl)) ?_
        refine wl_nil ?_
        refine wx_next ?_
        refine wc_seq ?_
        refine wc_region ?_
        refine wl_val 137 (by kernel_rfl) ((op_move (v := _) rfl)) ?_
        refine wl_val 2 (by kernel_rfl) ((op_assign (v := _) rfl)) ?_
        refine wl_val 3 (by kernel_rfl) ((op_assign (v := .int .i64 _) rfl)) ?_
        refine wl_nil ?_
        refine wx_next ?_
        refine wc_ret ?_
        refine wx_ret2 rfl (by kernel_rfl) (show _ = _ from rfl) (by kernel_rfl) (show _ = .int .i64 _ from rfl) ?_
        rw [massF_parts]
        exact ⟨_, rfl, HS8.2.2.2.2, HS8.1⟩
      · skip
        have hbb := h12
        have HS8 : RPre w w.heap.size BK (outs ts ts.length).1 ((outs ts ts.length).2 ++ (if plantBad ts ins bins then [⟨3, 0, 0⟩] else []) ++ (if balesBad ts bs then [⟨4, 0, 0⟩] else [])) vv w7 := by rw [hbb]; simpa using HS7
        refine wc_skip ?_
        refine wx_next ?_
        refine wc_seq ?_
        refine wc_region ?_
        refine wl_val 137 (by kernel_rfl) ((op_move (v := _) rfl)) ?_
        refine wl_val 2 (by kernel_rfl) ((op_assign (v := _) rfl)) ?_
        refine wl_val 3 (by kernel_rfl) ((op_assign (v := .int .i64 _) rfl)) ?_
        refine wl_nil ?_
        refine wx_next ?_
        refine wc_ret ?_
        refine wx_ret2 rfl (by kernel_rfl) (show _ = _ from rfl) (by kernel_rfl) (show _ = .int .i64 _ from rfl) ?_
        rw [massF_parts]
        exact ⟨_, rfl, HS8.2.2.2.2, HS8.1⟩
    · skip
      have hpb := h10
      obtain ⟨vv, rfl⟩ : ∃ vv, vv = v := ⟨v, rfl⟩
      have HSa : RPre w w.heap.size BK (outs ts ts.length).1 ((outs ts ts.length).2 ++ (if plantBad ts ins bins then [⟨3, 0, 0⟩] else [])) vv w3 := by rw [hpb]; simpa using HS3
      have hbga := hbg3
      obtain ⟨m7d, m8d, m9d, m10d⟩ := hcell _ HSa.2.2.1
      refine wc_skip ?_
      refine wx_next ?_
      refine wc_seq ?_
      refine wc_region ?_
      refine wl_val 118 (by kernel_rfl) ((op_fieldL (m := 10) (k := 10) rfl (by kernel_rfl) rfl)) ?_
      refine wl_val 119 (by kernel_rfl) ((op_load rfl (by kernel_rfl) (by assumption))) ?_
      refine wl_call 120 (by kernel_rfl) (op_call (by kernel_rfl)) (baled_any baA cb bs _ (bal_later hB HSa.1)) ?_
      rintro e w6 ⟨rfl, hw6⟩
      subst hw6
      refine ⟨_, rfl, ?_⟩
      refine wl_val 117 (by kernel_rfl) ((op_move (v := .tuple _) rfl)) ?_
      refine wl_val 121 (by kernel_rfl) ((op_extract rfl rfl)) ?_
      refine wl_val 122 (by kernel_rfl) ((op_extract rfl rfl)) ?_
      refine wl_val 9 (by kernel_rfl) ((op_assign (v := .int .i64 _) rfl)) ?_
      refine wl_val 10 (by kernel_rfl) ((op_assign (v := .bool _) rfl)) ?_
      refine wl_nil ?_
      refine wx_next ?_
      refine wc_seq ?_
      refine wc_seq ?_
      refine wc_cutS (σ := Unit) (fun _ => [(132, .bool (balesBad ts bs))]) (fun _ wr => RPre w w.heap.size BK (outs ts ts.length).1 ((outs ts ts.length).2 ++ (if plantBad ts ins bins then [⟨3, 0, 0⟩] else [])) vv wr) ?_ ?_
      · skip
        refine wl_bool 123 (by kernel_rfl) ((op_move (v := .bool _) rfl)) (fun h13 => ?_) (fun h13 => ?_)
        · skip
          refine wl_val 124 (by kernel_rfl) ((op_nott rfl)) ?_
          refine wl_val 125 (by kernel_rfl) ((op_move (v := .bool false) rfl)) ?_
          refine wl_val 126 (by kernel_rfl) ((op_move (v := .slice _ _ _) rfl)) ?_
          refine wl_val 127 (by kernel_rfl) ((op_indexK (sz := 2) 4 (r := 8) rfl rfl rfl (by kernel_rfl) (by omega) rfl)) ?_
          refine wl_val 128 (by kernel_rfl) ((op_loadR [.int .i64 (stk ts 8), .int .i64 (stk ts 9)] rfl (by kernel_rfl) (fun j u hu => by
            match j, hu with
            | 0, hu => exact hbga.at_ 8 hu
            | 1, hu => exact hbga.at_ 9 hu))) ?_
          refine wl_val 129 (by kernel_rfl) ((op_move (v := .int .i64 _) rfl)) ?_
          refine wl_call 130 (by kernel_rfl) (op_call (by kernel_rfl)) (within_any _ _ _ _) ?_
          rintro e w8 ⟨rfl, hw8⟩
          have HSc : RPre w w.heap.size BK (outs ts ts.length).1 ((outs ts ts.length).2 ++ (if plantBad ts ins bins then [⟨3, 0, 0⟩] else [])) vv w8 := by rw [← hw8]; exact HSa.alloc _
          clear hw8
          refine ⟨_, rfl, ?_⟩
          refine wl_val 131 (by kernel_rfl) ((op_not rfl)) ?_
          refine wl_val 132 (by kernel_rfl) ((op_pick_f (v := .bool _) rfl rfl)) ?_
          refine leaf_s () (sub_out 10 _ rfl (by kernel_rfl) ?_) ?_
          · refine ⟨congrArg Value.bool ?_, trivial⟩
            rw [balesBad_re]; simp_all
          · first | exact HSc | exact HSa
        · skip
          refine wl_val 124 (by kernel_rfl) ((op_notf rfl)) ?_
          refine wl_val 125 (by kernel_rfl) ((op_move (v := .bool true) rfl)) ?_
          refine wl_skip 126 (by kernel_rfl) ?_
          refine wl_skip 127 (by kernel_rfl) ?_
          refine wl_skip 128 (by kernel_rfl) ?_
          refine wl_skip 129 (by kernel_rfl) ?_
          refine wl_skip 130 (by kernel_rfl) ?_
          refine wl_skip 131 (by kernel_rfl) ?_
          refine wl_val 132 (by kernel_rfl) ((op_pick_t (v := .bool true) rfl rfl)) ?_
          refine leaf_s () (sub_out 10 _ rfl (by kernel_rfl) ?_) ?_
          · refine ⟨congrArg Value.bool ?_, trivial⟩
            rw [balesBad_re]; simp_all
          · first | exact HSc | exact HSa
      rintro _ w7 HS7
      refine wx_next ?_
      refine wc_cond (by kernel_rfl) rfl (fun h14 => ?_) (fun h14 => ?_)
      · skip
        have hbb := h14
        refine wc_region ?_
        refine wl_val 133 (by kernel_rfl) ((op_move (v := _) rfl)) ?_
        refine wl_val 134 (by kernel_rfl) ((op_build (z := [.int .i64 0, .int .i64 0, .int .i64 0]) (tab := [(0, 1), (1, 1), (2, 1)]) (cs := [.int .i64 _, .int .i64 _, .int .i64 _]) [(0, [.int .i64 _])] (by kernel_rfl) (by kernel_rfl) (fillOk_cons rfl rfl rfl fillOk_nil) rfl)) ?_
        refine wl_new 135 (by kernel_rfl) (op_slice1 (el := 49) (size := 3) (bytes := 24) [.int .i64 _, .int .i64 _, .int .i64 _] (by kernel_rfl) rfl rfl rfl) ?_
        intro w9 hw9
        refine wl_pushO 136 ⟨4, 0, 0⟩ (by kernel_rfl) rfl rfl HS7.2.2.2.2 (by have := HS7.2.1; omega) hw9 (by have := outs_le ts ts.length; rw [List.length_append]; split <;> simp <;> omega) ?_
        intro v9 w10 ho hg
        have HS8 : RPre w w.heap.size BK (outs ts ts.length).1 ((outs ts ts.length).2 ++ (if plantBad ts ins bins then [⟨3, 0, 0⟩] else []) ++ (if balesBad ts bs then [⟨4, 0, 0⟩] else [])) v9 w10 := by rw [hbb]; exact HS7.push ho hg
        clear ho hg hw9
        refine wl_val 4 (by kernel_rfl) ((op_assign (v := _) rfl)) ?_
        refine wl_nil ?_
        refine wx_next ?_
        refine wc_seq ?_
        refine wc_region ?_
        refine wl_val 137 (by kernel_rfl) ((op_move (v := _) rfl)) ?_
        refine wl_val 2 (by kernel_rfl) ((op_assign (v := _) rfl)) ?_
        refine wl_val 3 (by kernel_rfl) ((op_assign (v := .int .i64 _) rfl)) ?_
        refine wl_nil ?_
        refine wx_next ?_
        refine wc_ret ?_
        refine wx_ret2 rfl (by kernel_rfl) (show _ = _ from rfl) (by kernel_rfl) (show _ = .int .i64 _ from rfl) ?_
        rw [massF_parts]
        exact ⟨_, rfl, HS8.2.2.2.2, HS8.1⟩
      · skip
        have hbb := h14
        have HS8 : RPre w w.heap.size BK (outs ts ts.length).1 ((outs ts ts.length).2 ++ (if plantBad ts ins bins then [⟨3, 0, 0⟩] else []) ++ (if balesBad ts bs then [⟨4, 0, 0⟩] else [])) vv w7 := by rw [hbb]; simpa using HS7
        refine wc_skip ?_
        refine wx_next ?_
        refine wc_seq ?_
        refine wc_region ?_
        refine wl_val 137 (by kernel_rfl) ((op_move (v := _) rfl)) ?_
        refine wl_val 2 (by kernel_rfl) ((op_assign (v := _) rfl)) ?_
        refine wl_val 3 (by kernel_rfl) ((op_assign (v := .int .i64 _) rfl)) ?_
        refine wl_nil ?_
        refine wx_next ?_
        refine wc_ret ?_
        refine wx_ret2 rfl (by kernel_rfl) (show _ = _ from rfl) (by kernel_rfl) (show _ = .int .i64 _ from rfl) ?_
        rw [massF_parts]
        exact ⟨_, rfl, HS8.2.2.2.2, HS8.1⟩
end Go.Proofs.YtahnplemladjeaaDoor
