/- The walks of the two functions Deposits. -/
import Derived.Test.YtahnplemladjeaaDoorDep2
namespace Go.Proofs.YtahnplemladjeaaDoor
open Go.RowKit

theorem flat_one (fs : List Fnd) : ∀ u ∈ fs.flatMap fnC, u.oneCell' = true := fun u hu => by
  obtain ⟨f, _, hf⟩ := List.mem_flatMap.1 hu
  exact fnC_one f u hf
theorem flat3 (fs : List Fnd) : (fs.flatMap fnC).length = fs.length * 3 := flat_len fnC_len fs
theorem own_some {w : World} {base : Nat} {e : TypeId} {k n : Nat} {v : Value} {xs : List Value} (h : w.ownsRow base e k v n xs) (hv : v ≠ .slice none 0 0) : ∃ g c, v = .slice (some ⟨g, 0, none⟩) n c ∧ ∀ j u, xs[j]? = some u → w.cell? ((⟨g, 0, none⟩ : Addr).add j) = some u := by
  rcases h.2 with ⟨h1, _⟩ | ⟨g, cap, cur, rfl, _⟩
  · exact absurd h1 hv
  · exact ⟨g, cap, rfl, fun j u hu => h.cells (g := g) rfl j u hu⟩
theorem RSt.more {w wr w' : World} {N : Nat} {bk : List Value} {fs gs : List Fnd} {v v' : Value} (h : RSt w N bk fs v wr) (hown : w'.ownsRow N 49 3 v' (fs.length + gs.length) (fs.flatMap fnC ++ gs.flatMap fnC)) (hg : wr.grownBy w' v.ownBlock) : RSt w N bk (fs ++ gs) v' w' := by
  obtain ⟨a, b, c, e⟩ := h
  refine ⟨a.grown hg (Nat.le_of_lt b) (fun k hk => (e.lt k hk).1), Nat.lt_of_lt_of_le b hg.size, c.grown hg (own_blk_ne e c (by decide)), by simpa using hown⟩
set_option maxRecDepth 10000 in
theorem refDeposits_full (now hh cc as_ em ta gap tr ins bins ba co fe bi po : Value) (prA : Option Addr) (prn prc : Nat) (saA : Option Addr) (san sac : Nat) (clA : Option Addr) (cln clc : Nat) (paA : Option Addr) (pan pac : Nat) (w : World) (hfull : 64 < prn ∨ 512 < san ∨ 512 < cln ∨ 512 < pan) :
    Calls Tryd.prog 20 #[.agg #[now, hh, cc, as_, em, ta, gap, tr, ins, bins, ba, .slice prA prn prc, .slice saA san sac, .slice clA cln clc, .slice paA pan pac, co, fe, bi, po]] w fun e w' => e = .returned (.tuple #[.slice none 0 0, .int .i64 8]) ∧ Below w.heap.size w w' := by
  by_cases q0 : 64 < prn
  · skip
    refine calls_wc (n := 42) Tryd.func20 rfl rfl (Nat.le_of_ble_eq_true rfl) ?_
    refine wc_seq ?_
    refine wc_region ?_
    refine wl_new 1 (by kernel_rfl) (op_boxA rfl) ?_
    intro w1 hw1
    have hb := Blk.new w 40 [now, hh, cc, as_, em, ta, gap, tr, ins, bins, ba, .slice prA prn prc, .slice saA san sac, .slice clA cln clc, .slice paA pan pac, co, fe, bi, po]
    rw [← hw1] at hb
    have c11 := hb.at_ 11 rfl
    have c12 := hb.at_ 12 rfl
    have c13 := hb.at_ 13 rfl
    have c14 := hb.at_ 14 rfl
    refine wl_val 2 (by kernel_rfl) ((op_assign (v := .slice _ _ _) rfl)) ?_
    refine wl_val 3 (by kernel_rfl) ((op_assign (v := .int .i64 _) rfl)) ?_
    refine wl_nil ?_
    refine wx_next ?_
    refine wc_seq ?_
    refine wc_seq ?_
    refine wc_region ?_
    refine wl_val 6 (by kernel_rfl) ((op_fieldL (m := 11) (k := 11) rfl (by kernel_rfl) rfl)) ?_
    refine wl_val 7 (by kernel_rfl) ((op_load rfl (by kernel_rfl) (by assumption))) ?_
    refine wl_val 8 (by kernel_rfl) ((op_len rfl (by kernel_rfl))) ?_
    refine wl_val 9 (by kernel_rfl) (op_t (op_gtr rfl rfl) (by omega)) ?_
    refine wl_val 10 (by kernel_rfl) ((op_move (v := .bool true) rfl)) ?_
    refine wl_skip 11 (by kernel_rfl) ?_
    refine wl_skip 12 (by kernel_rfl) ?_
    refine wl_skip 13 (by kernel_rfl) ?_
    refine wl_skip 14 (by kernel_rfl) ?_
    refine wl_val 15 (by kernel_rfl) ((op_pick_t (v := .bool true) rfl rfl)) ?_
    refine wl_val 16 (by kernel_rfl) ((op_move (v := .bool true) rfl)) ?_
    refine wl_skip 17 (by kernel_rfl) ?_
    refine wl_skip 18 (by kernel_rfl) ?_
    refine wl_skip 19 (by kernel_rfl) ?_
    refine wl_skip 20 (by kernel_rfl) ?_
    refine wl_val 21 (by kernel_rfl) ((op_pick_t (v := .bool true) rfl rfl)) ?_
    refine wl_val 22 (by kernel_rfl) ((op_move (v := .bool true) rfl)) ?_
    refine wl_skip 23 (by kernel_rfl) ?_
    refine wl_skip 24 (by kernel_rfl) ?_
    refine wl_skip 25 (by kernel_rfl) ?_
    refine wl_skip 26 (by kernel_rfl) ?_
    refine wl_val 27 (by kernel_rfl) ((op_pick_t (v := .bool true) rfl rfl)) ?_
    refine wl_nil ?_
    refine wx_next ?_
    refine wc_cond_t (by kernel_rfl) rfl ?_
    refine wc_seq ?_
    refine wc_region ?_
    refine wl_val 2 (by kernel_rfl) ((op_assign (v := .slice _ _ _) rfl)) ?_
    refine wl_val 3 (by kernel_rfl) ((op_assign (v := .int .i64 _) rfl)) ?_
    refine wl_nil ?_
    refine wx_next ?_
    refine wc_ret ?_
    refine wx_thenR ?_
    refine wx_ret2 rfl (by kernel_rfl) (show _ = .slice _ _ _ from rfl) (by kernel_rfl) (show _ = .int .i64 _ from rfl) ?_
    exact ⟨rfl, by rw [hw1]; exact (Below.refl _ _).alloc (Nat.le_refl _) _⟩
  by_cases q1 : 512 < san
  · skip
    refine calls_wc (n := 42) Tryd.func20 rfl rfl (Nat.le_of_ble_eq_true rfl) ?_
    refine wc_seq ?_
    refine wc_region ?_
    refine wl_new 1 (by kernel_rfl) (op_boxA rfl) ?_
    intro w1 hw1
    have hb := Blk.new w 40 [now, hh, cc, as_, em, ta, gap, tr, ins, bins, ba, .slice prA prn prc, .slice saA san sac, .slice clA cln clc, .slice paA pan pac, co, fe, bi, po]
    rw [← hw1] at hb
    have c11 := hb.at_ 11 rfl
    have c12 := hb.at_ 12 rfl
    have c13 := hb.at_ 13 rfl
    have c14 := hb.at_ 14 rfl
    refine wl_val 2 (by kernel_rfl) ((op_assign (v := .slice _ _ _) rfl)) ?_
    refine wl_val 3 (by kernel_rfl) ((op_assign (v := .int .i64 _) rfl)) ?_
    refine wl_nil ?_
    refine wx_next ?_
    refine wc_seq ?_
    refine wc_seq ?_
    refine wc_region ?_
    refine wl_val 6 (by kernel_rfl) ((op_fieldL (m := 11) (k := 11) rfl (by kernel_rfl) rfl)) ?_
    refine wl_val 7 (by kernel_rfl) ((op_load rfl (by kernel_rfl) (by assumption))) ?_
    refine wl_val 8 (by kernel_rfl) ((op_len rfl (by kernel_rfl))) ?_
    refine wl_val 9 (by kernel_rfl) (op_f (op_gtr rfl rfl) (by omega)) ?_
    refine wl_val 10 (by kernel_rfl) ((op_move (v := .bool false) rfl)) ?_
    refine wl_val 11 (by kernel_rfl) ((op_fieldL (m := 12) (k := 12) rfl (by kernel_rfl) rfl)) ?_
    refine wl_val 12 (by kernel_rfl) ((op_load rfl (by kernel_rfl) (by assumption))) ?_
    refine wl_val 13 (by kernel_rfl) ((op_len rfl (by kernel_rfl))) ?_
    refine wl_val 14 (by kernel_rfl) (op_t (op_gtr rfl rfl) (by omega)) ?_
    refine wl_val 15 (by kernel_rfl) ((op_pick_f (v := .bool true) rfl rfl)) ?_
    refine wl_val 16 (by kernel_rfl) ((op_move (v := .bool true) rfl)) ?_
    refine wl_skip 17 (by kernel_rfl) ?_
    refine wl_skip 18 (by kernel_rfl) ?_
    refine wl_skip 19 (by kernel_rfl) ?_
    refine wl_skip 20 (by kernel_rfl) ?_
    refine wl_val 21 (by kernel_rfl) ((op_pick_t (v := .bool true) rfl rfl)) ?_
    refine wl_val 22 (by kernel_rfl) ((op_move (v := .bool true) rfl)) ?_
    refine wl_skip 23 (by kernel_rfl) ?_
    refine wl_skip 24 (by kernel_rfl) ?_
    refine wl_skip 25 (by kernel_rfl) ?_
    refine wl_skip 26 (by kernel_rfl) ?_
    refine wl_val 27 (by kernel_rfl) ((op_pick_t (v := .bool true) rfl rfl)) ?_
    refine wl_nil ?_
    refine wx_next ?_
    refine wc_cond_t (by kernel_rfl) rfl ?_
    refine wc_seq ?_
    refine wc_region ?_
    refine wl_val 2 (by kernel_rfl) ((op_assign (v := .slice _ _ _) rfl)) ?_
    refine wl_val 3 (by kernel_rfl) ((op_assign (v := .int .i64 _) rfl)) ?_
    refine wl_nil ?_
    refine wx_next ?_
    refine wc_ret ?_
    refine wx_thenR ?_
    refine wx_ret2 rfl (by kernel_rfl) (show _ = .slice _ _ _ from rfl) (by kernel_rfl) (show _ = .int .i64 _ from rfl) ?_
    exact ⟨rfl, by rw [hw1]; exact (Below.refl _ _).alloc (Nat.le_refl _) _⟩
  by_cases q2 : 512 < cln
  · skip
    refine calls_wc (n := 42) Tryd.func20 rfl rfl (Nat.le_of_ble_eq_true rfl) ?_
    refine wc_seq ?_
    refine wc_region ?_
    refine wl_new 1 (by kernel_rfl) (op_boxA rfl) ?_
    intro w1 hw1
    have hb := Blk.new w 40 [now, hh, cc, as_, em, ta, gap, tr, ins, bins, ba, .slice prA prn prc, .slice saA san sac, .slice clA cln clc, .slice paA pan pac, co, fe, bi, po]
    rw [← hw1] at hb
    have c11 := hb.at_ 11 rfl
    have c12 := hb.at_ 12 rfl
    have c13 := hb.at_ 13 rfl
    have c14 := hb.at_ 14 rfl
    refine wl_val 2 (by kernel_rfl) ((op_assign (v := .slice _ _ _) rfl)) ?_
    refine wl_val 3 (by kernel_rfl) ((op_assign (v := .int .i64 _) rfl)) ?_
    refine wl_nil ?_
    refine wx_next ?_
    refine wc_seq ?_
    refine wc_seq ?_
    refine wc_region ?_
    refine wl_val 6 (by kernel_rfl) ((op_fieldL (m := 11) (k := 11) rfl (by kernel_rfl) rfl)) ?_
    refine wl_val 7 (by kernel_rfl) ((op_load rfl (by kernel_rfl) (by assumption))) ?_
    refine wl_val 8 (by kernel_rfl) ((op_len rfl (by kernel_rfl))) ?_
    refine wl_val 9 (by kernel_rfl) (op_f (op_gtr rfl rfl) (by omega)) ?_
    refine wl_val 10 (by kernel_rfl) ((op_move (v := .bool false) rfl)) ?_
    refine wl_val 11 (by kernel_rfl) ((op_fieldL (m := 12) (k := 12) rfl (by kernel_rfl) rfl)) ?_
    refine wl_val 12 (by kernel_rfl) ((op_load rfl (by kernel_rfl) (by assumption))) ?_
    refine wl_val 13 (by kernel_rfl) ((op_len rfl (by kernel_rfl))) ?_
    refine wl_val 14 (by kernel_rfl) (op_f (op_gtr rfl rfl) (by omega)) ?_
    refine wl_val 15 (by kernel_rfl) ((op_pick_f (v := .bool false) rfl rfl)) ?_
    refine wl_val 16 (by kernel_rfl) ((op_move (v := .bool false) rfl)) ?_
    refine wl_val 17 (by kernel_rfl) ((op_fieldL (m := 13) (k := 13) rfl (by kernel_rfl) rfl)) ?_
    refine wl_val 18 (by kernel_rfl) ((op_load rfl (by kernel_rfl) (by assumption))) ?_
    refine wl_val 19 (by kernel_rfl) ((op_len rfl (by kernel_rfl))) ?_
    refine wl_val 20 (by kernel_rfl) (op_t (op_gtr rfl rfl) (by omega)) ?_
    refine wl_val 21 (by kernel_rfl) ((op_pick_f (v := .bool true) rfl rfl)) ?_
    refine wl_val 22 (by kernel_rfl) ((op_move (v := .bool true) rfl)) ?_
    refine wl_skip 23 (by kernel_rfl) ?_
    refine wl_skip 24 (by kernel_rfl) ?_
    refine wl_skip 25 (by kernel_rfl) ?_
    refine wl_skip 26 (by kernel_rfl) ?_
    refine wl_val 27 (by kernel_rfl) ((op_pick_t (v := .bool true) rfl rfl)) ?_
    refine wl_nil ?_
    refine wx_next ?_
    refine wc_cond_t (by kernel_rfl) rfl ?_
    refine wc_seq ?_
    refine wc_region ?_
    refine wl_val 2 (by kernel_rfl) ((op_assign (v := .slice _ _ _) rfl)) ?_
    refine wl_val 3 (by kernel_rfl) ((op_assign (v := .int .i64 _) rfl)) ?_
    refine wl_nil ?_
    refine wx_next ?_
    refine wc_ret ?_
    refine wx_thenR ?_
    refine wx_ret2 rfl (by kernel_rfl) (show _ = .slice _ _ _ from rfl) (by kernel_rfl) (show _ = .int .i64 _ from rfl) ?_
    exact ⟨rfl, by rw [hw1]; exact (Below.refl _ _).alloc (Nat.le_refl _) _⟩
  refine calls_wc (n := 42) Tryd.func20 rfl rfl (Nat.le_of_ble_eq_true rfl) ?_
  refine wc_seq ?_
  refine wc_region ?_
  refine wl_new 1 (by kernel_rfl) (op_boxA rfl) ?_
  intro w1 hw1
  have hb := Blk.new w 40 [now, hh, cc, as_, em, ta, gap, tr, ins, bins, ba, .slice prA prn prc, .slice saA san sac, .slice clA cln clc, .slice paA pan pac, co, fe, bi, po]
  rw [← hw1] at hb
  have c11 := hb.at_ 11 rfl
  have c12 := hb.at_ 12 rfl
  have c13 := hb.at_ 13 rfl
  have c14 := hb.at_ 14 rfl
  refine wl_val 2 (by kernel_rfl) ((op_assign (v := .slice _ _ _) rfl)) ?_
  refine wl_val 3 (by kernel_rfl) ((op_assign (v := .int .i64 _) rfl)) ?_
  refine wl_nil ?_
  refine wx_next ?_
  refine wc_seq ?_
  refine wc_seq ?_
  refine wc_region ?_
  refine wl_val 6 (by kernel_rfl) ((op_fieldL (m := 11) (k := 11) rfl (by kernel_rfl) rfl)) ?_
  refine wl_val 7 (by kernel_rfl) ((op_load rfl (by kernel_rfl) (by assumption))) ?_
  refine wl_val 8 (by kernel_rfl) ((op_len rfl (by kernel_rfl))) ?_
  refine wl_val 9 (by kernel_rfl) (op_f (op_gtr rfl rfl) (by omega)) ?_
  refine wl_val 10 (by kernel_rfl) ((op_move (v := .bool false) rfl)) ?_
  refine wl_val 11 (by kernel_rfl) ((op_fieldL (m := 12) (k := 12) rfl (by kernel_rfl) rfl)) ?_
  refine wl_val 12 (by kernel_rfl) ((op_load rfl (by kernel_rfl) (by assumption))) ?_
  refine wl_val 13 (by kernel_rfl) ((op_len rfl (by kernel_rfl))) ?_
  refine wl_val 14 (by kernel_rfl) (op_f (op_gtr rfl rfl) (by omega)) ?_
  refine wl_val 15 (by kernel_rfl) ((op_pick_f (v := .bool false) rfl rfl)) ?_
  refine wl_val 16 (by kernel_rfl) ((op_move (v := .bool false) rfl)) ?_
  refine wl_val 17 (by kernel_rfl) ((op_fieldL (m := 13) (k := 13) rfl (by kernel_rfl) rfl)) ?_
  refine wl_val 18 (by kernel_rfl) ((op_load rfl (by kernel_rfl) (by assumption))) ?_
  refine wl_val 19 (by kernel_rfl) ((op_len rfl (by kernel_rfl))) ?_
  refine wl_val 20 (by kernel_rfl) (op_f (op_gtr rfl rfl) (by omega)) ?_
  refine wl_val 21 (by kernel_rfl) ((op_pick_f (v := .bool false) rfl rfl)) ?_
  refine wl_val 22 (by kernel_rfl) ((op_move (v := .bool false) rfl)) ?_
  refine wl_val 23 (by kernel_rfl) ((op_fieldL (m := 14) (k := 14) rfl (by kernel_rfl) rfl)) ?_
  refine wl_val 24 (by kernel_rfl) ((op_load rfl (by kernel_rfl) (by assumption))) ?_
  refine wl_val 25 (by kernel_rfl) ((op_len rfl (by kernel_rfl))) ?_
  refine wl_val 26 (by kernel_rfl) (op_t (op_gtr rfl rfl) (by omega)) ?_
  refine wl_val 27 (by kernel_rfl) ((op_pick_f (v := .bool true) rfl rfl)) ?_
  refine wl_nil ?_
  refine wx_next ?_
  refine wc_cond_t (by kernel_rfl) rfl ?_
  refine wc_seq ?_
  refine wc_region ?_
  refine wl_val 2 (by kernel_rfl) ((op_assign (v := .slice _ _ _) rfl)) ?_
  refine wl_val 3 (by kernel_rfl) ((op_assign (v := .int .i64 _) rfl)) ?_
  refine wl_nil ?_
  refine wx_next ?_
  refine wc_ret ?_
  refine wx_thenR ?_
  refine wx_ret2 rfl (by kernel_rfl) (show _ = .slice _ _ _ from rfl) (by kernel_rfl) (show _ = .int .i64 _ from rfl) ?_
  exact ⟨rfl, by rw [hw1]; exact (Below.refl _ _).alloc (Nat.le_refl _) _⟩
set_option maxRecDepth 10000 in
theorem deposits_full (now hh cc as_ em ta gap tr ins bins ba co fe bi po : Value) (prA : Option Addr) (prn prc : Nat) (saA : Option Addr) (san sac : Nat) (clA : Option Addr) (cln clc : Nat) (paA : Option Addr) (pan pac : Nat) (w : World) (hfull : 64 < prn ∨ 512 < san ∨ 512 < cln ∨ 512 < pan) :
    Calls Tryd.prog 21 #[.agg #[now, hh, cc, as_, em, ta, gap, tr, ins, bins, ba, .slice prA prn prc, .slice saA san sac, .slice clA cln clc, .slice paA pan pac, co, fe, bi, po]] w fun e w' => e = .returned (.tuple #[.slice none 0 0, .int .i64 8]) ∧ Below w.heap.size w w' := by
  by_cases q0 : 64 < prn
  · skip
    refine calls_wc (n := 111) Tryd.func21 rfl rfl (Nat.le_of_ble_eq_true rfl) ?_
    refine wc_seq ?_
    refine wc_region ?_
    refine wl_new 1 (by kernel_rfl) (op_boxA rfl) ?_
    intro w1 hw1
    have hb := Blk.new w 40 [now, hh, cc, as_, em, ta, gap, tr, ins, bins, ba, .slice prA prn prc, .slice saA san sac, .slice clA cln clc, .slice paA pan pac, co, fe, bi, po]
    rw [← hw1] at hb
    have c11 := hb.at_ 11 rfl
    have c12 := hb.at_ 12 rfl
    have c13 := hb.at_ 13 rfl
    have c14 := hb.at_ 14 rfl
    refine wl_val 2 (by kernel_rfl) ((op_assign (v := .slice _ _ _) rfl)) ?_
    refine wl_val 3 (by kernel_rfl) ((op_assign (v := .int .i64 _) rfl)) ?_
    refine wl_nil ?_
    refine wx_next ?_
    refine wc_seq ?_
    refine wc_seq ?_
    refine wc_region ?_
    refine wl_val 11 (by kernel_rfl) ((op_fieldL (m := 11) (k := 11) rfl (by kernel_rfl) rfl)) ?_
    refine wl_val 12 (by kernel_rfl) ((op_load rfl (by kernel_rfl) (by assumption))) ?_
    refine wl_val 13 (by kernel_rfl) ((op_len rfl (by kernel_rfl))) ?_
    refine wl_val 14 (by kernel_rfl) (op_t (op_gtr rfl rfl) (by omega)) ?_
    refine wl_val 15 (by kernel_rfl) ((op_move (v := .bool true) rfl)) ?_
    refine wl_skip 16 (by kernel_rfl) ?_
    refine wl_skip 17 (by kernel_rfl) ?_
    refine wl_skip 18 (by kernel_rfl) ?_
    refine wl_skip 19 (by kernel_rfl) ?_
    refine wl_val 20 (by kernel_rfl) ((op_pick_t (v := .bool true) rfl rfl)) ?_
    refine wl_val 21 (by kernel_rfl) ((op_move (v := .bool true) rfl)) ?_
    refine wl_skip 22 (by kernel_rfl) ?_
    refine wl_skip 23 (by kernel_rfl) ?_
    refine wl_skip 24 (by kernel_rfl) ?_
    refine wl_skip 25 (by kernel_rfl) ?_
    refine wl_val 26 (by kernel_rfl) ((op_pick_t (v := .bool true) rfl rfl)) ?_
    refine wl_val 27 (by kernel_rfl) ((op_move (v := .bool true) rfl)) ?_
    refine wl_skip 28 (by kernel_rfl) ?_
    refine wl_skip 29 (by kernel_rfl) ?_
    refine wl_skip 30 (by kernel_rfl) ?_
    refine wl_skip 31 (by kernel_rfl) ?_
    refine wl_val 32 (by kernel_rfl) ((op_pick_t (v := .bool true) rfl rfl)) ?_
    refine wl_nil ?_
    refine wx_next ?_
    refine wc_cond_t (by kernel_rfl) rfl ?_
    refine wc_seq ?_
    refine wc_region ?_
    refine wl_val 2 (by kernel_rfl) ((op_assign (v := .slice _ _ _) rfl)) ?_
    refine wl_val 3 (by kernel_rfl) ((op_assign (v := .int .i64 _) rfl)) ?_
    refine wl_nil ?_
    refine wx_next ?_
    refine wc_ret ?_
    refine wx_thenR ?_
    refine wx_ret2 rfl (by kernel_rfl) (show _ = .slice _ _ _ from rfl) (by kernel_rfl) (show _ = .int .i64 _ from rfl) ?_
    exact ⟨rfl, by rw [hw1]; exact (Below.refl _ _).alloc (Nat.le_refl _) _⟩
  by_cases q1 : 512 < san
  · skip
    refine calls_wc (n := 111) Tryd.func21 rfl rfl (Nat.le_of_ble_eq_true rfl) ?_
    refine wc_seq ?_
    refine wc_region ?_
    refine wl_new 1 (by kernel_rfl) (op_boxA rfl) ?_
    intro w1 hw1
    have hb := Blk.new w 40 [now, hh, cc, as_, em, ta, gap, tr, ins, bins, ba, .slice prA prn prc, .slice saA san sac, .slice clA cln clc, .slice paA pan pac, co, fe, bi, po]
    rw [← hw1] at hb
    have c11 := hb.at_ 11 rfl
    have c12 := hb.at_ 12 rfl
    have c13 := hb.at_ 13 rfl
    have c14 := hb.at_ 14 rfl
    refine wl_val 2 (by kernel_rfl) ((op_assign (v := .slice _ _ _) rfl)) ?_
    refine wl_val 3 (by kernel_rfl) ((op_assign (v := .int .i64 _) rfl)) ?_
    refine wl_nil ?_
    refine wx_next ?_
    refine wc_seq ?_
    refine wc_seq ?_
    refine wc_region ?_
    refine wl_val 11 (by kernel_rfl) ((op_fieldL (m := 11) (k := 11) rfl (by kernel_rfl) rfl)) ?_
    refine wl_val 12 (by kernel_rfl) ((op_load rfl (by kernel_rfl) (by assumption))) ?_
    refine wl_val 13 (by kernel_rfl) ((op_len rfl (by kernel_rfl))) ?_
    refine wl_val 14 (by kernel_rfl) (op_f (op_gtr rfl rfl) (by omega)) ?_
    refine wl_val 15 (by kernel_rfl) ((op_move (v := .bool false) rfl)) ?_
    refine wl_val 16 (by kernel_rfl) ((op_fieldL (m := 12) (k := 12) rfl (by kernel_rfl) rfl)) ?_
    refine wl_val 17 (by kernel_rfl) ((op_load rfl (by kernel_rfl) (by assumption))) ?_
    refine wl_val 18 (by kernel_rfl) ((op_len rfl (by kernel_rfl))) ?_
    refine wl_val 19 (by kernel_rfl) (op_t (op_gtr rfl rfl) (by omega)) ?_
    refine wl_val 20 (by kernel_rfl) ((op_pick_f (v := .bool true) rfl rfl)) ?_
    refine wl_val 21 (by kernel_rfl) ((op_move (v := .bool true) rfl)) ?_
    refine wl_skip 22 (by kernel_rfl) ?_
    refine wl_skip 23 (by kernel_rfl) ?_
    refine wl_skip 24 (by kernel_rfl) ?_
    refine wl_skip 25 (by kernel_rfl) ?_
    refine wl_val 26 (by kernel_rfl) ((op_pick_t (v := .bool true) rfl rfl)) ?_
    refine wl_val 27 (by kernel_rfl) ((op_move (v := .bool true) rfl)) ?_
    refine wl_skip 28 (by kernel_rfl) ?_
    refine wl_skip 29 (by kernel_rfl) ?_
    refine wl_skip 30 (by kernel_rfl) ?_
    refine wl_skip 31 (by kernel_rfl) ?_
    refine wl_val 32 (by kernel_rfl) ((op_pick_t (v := .bool true) rfl rfl)) ?_
    refine wl_nil ?_
    refine wx_next ?_
    refine wc_cond_t (by kernel_rfl) rfl ?_
    refine wc_seq ?_
    refine wc_region ?_
    refine wl_val 2 (by kernel_rfl) ((op_assign (v := .slice _ _ _) rfl)) ?_
    refine wl_val 3 (by kernel_rfl) ((op_assign (v := .int .i64 _) rfl)) ?_
    refine wl_nil ?_
    refine wx_next ?_
    refine wc_ret ?_
    refine wx_thenR ?_
    refine wx_ret2 rfl (by kernel_rfl) (show _ = .slice _ _ _ from rfl) (by kernel_rfl) (show _ = .int .i64 _ from rfl) ?_
    exact ⟨rfl, by rw [hw1]; exact (Below.refl _ _).alloc (Nat.le_refl _) _⟩
  by_cases q2 : 512 < cln
  · skip
    refine calls_wc (n := 111) Tryd.func21 rfl rfl (Nat.le_of_ble_eq_true rfl) ?_
    refine wc_seq ?_
    refine wc_region ?_
    refine wl_new 1 (by kernel_rfl) (op_boxA rfl) ?_
    intro w1 hw1
    have hb := Blk.new w 40 [now, hh, cc, as_, em, ta, gap, tr, ins, bins, ba, .slice prA prn prc, .slice saA san sac, .slice clA cln clc, .slice paA pan pac, co, fe, bi, po]
    rw [← hw1] at hb
    have c11 := hb.at_ 11 rfl
    have c12 := hb.at_ 12 rfl
    have c13 := hb.at_ 13 rfl
    have c14 := hb.at_ 14 rfl
    refine wl_val 2 (by kernel_rfl) ((op_assign (v := .slice _ _ _) rfl)) ?_
    refine wl_val 3 (by kernel_rfl) ((op_assign (v := .int .i64 _) rfl)) ?_
    refine wl_nil ?_
    refine wx_next ?_
    refine wc_seq ?_
    refine wc_seq ?_
    refine wc_region ?_
    refine wl_val 11 (by kernel_rfl) ((op_fieldL (m := 11) (k := 11) rfl (by kernel_rfl) rfl)) ?_
    refine wl_val 12 (by kernel_rfl) ((op_load rfl (by kernel_rfl) (by assumption))) ?_
    refine wl_val 13 (by kernel_rfl) ((op_len rfl (by kernel_rfl))) ?_
    refine wl_val 14 (by kernel_rfl) (op_f (op_gtr rfl rfl) (by omega)) ?_
    refine wl_val 15 (by kernel_rfl) ((op_move (v := .bool false) rfl)) ?_
    refine wl_val 16 (by kernel_rfl) ((op_fieldL (m := 12) (k := 12) rfl (by kernel_rfl) rfl)) ?_
    refine wl_val 17 (by kernel_rfl) ((op_load rfl (by kernel_rfl) (by assumption))) ?_
    refine wl_val 18 (by kernel_rfl) ((op_len rfl (by kernel_rfl))) ?_
    refine wl_val 19 (by kernel_rfl) (op_f (op_gtr rfl rfl) (by omega)) ?_
    refine wl_val 20 (by kernel_rfl) ((op_pick_f (v := .bool false) rfl rfl)) ?_
    refine wl_val 21 (by kernel_rfl) ((op_move (v := .bool false) rfl)) ?_
    refine wl_val 22 (by kernel_rfl) ((op_fieldL (m := 13) (k := 13) rfl (by kernel_rfl) rfl)) ?_
    refine wl_val 23 (by kernel_rfl) ((op_load rfl (by kernel_rfl) (by assumption))) ?_
    refine wl_val 24 (by kernel_rfl) ((op_len rfl (by kernel_rfl))) ?_
    refine wl_val 25 (by kernel_rfl) (op_t (op_gtr rfl rfl) (by omega)) ?_
    refine wl_val 26 (by kernel_rfl) ((op_pick_f (v := .bool true) rfl rfl)) ?_
    refine wl_val 27 (by kernel_rfl) ((op_move (v := .bool true) rfl)) ?_
    refine wl_skip 28 (by kernel_rfl) ?_
    refine wl_skip 29 (by kernel_rfl) ?_
    refine wl_skip 30 (by kernel_rfl) ?_
    refine wl_skip 31 (by kernel_rfl) ?_
    refine wl_val 32 (by kernel_rfl) ((op_pick_t (v := .bool true) rfl rfl)) ?_
    refine wl_nil ?_
    refine wx_next ?_
    refine wc_cond_t (by kernel_rfl) rfl ?_
    refine wc_seq ?_
    refine wc_region ?_
    refine wl_val 2 (by kernel_rfl) ((op_assign (v := .slice _ _ _) rfl)) ?_
    refine wl_val 3 (by kernel_rfl) ((op_assign (v := .int .i64 _) rfl)) ?_
    refine wl_nil ?_
    refine wx_next ?_
    refine wc_ret ?_
    refine wx_thenR ?_
    refine wx_ret2 rfl (by kernel_rfl) (show _ = .slice _ _ _ from rfl) (by kernel_rfl) (show _ = .int .i64 _ from rfl) ?_
    exact ⟨rfl, by rw [hw1]; exact (Below.refl _ _).alloc (Nat.le_refl _) _⟩
  refine calls_wc (n := 111) Tryd.func21 rfl rfl (Nat.le_of_ble_eq_true rfl) ?_
  refine wc_seq ?_
  refine wc_region ?_
  refine wl_new 1 (by kernel_rfl) (op_boxA rfl) ?_
  intro w1 hw1
  have hb := Blk.new w 40 [now, hh, cc, as_, em, ta, gap, tr, ins, bins, ba, .slice prA prn prc, .slice saA san sac, .slice clA cln clc, .slice paA pan pac, co, fe, bi, po]
  rw [← hw1] at hb
  have c11 := hb.at_ 11 rfl
  have c12 := hb.at_ 12 rfl
  have c13 := hb.at_ 13 rfl
  have c14 := hb.at_ 14 rfl
  refine wl_val 2 (by kernel_rfl) ((op_assign (v := .slice _ _ _) rfl)) ?_
  refine wl_val 3 (by kernel_rfl) ((op_assign (v := .int .i64 _) rfl)) ?_
  refine wl_nil ?_
  refine wx_next ?_
  refine wc_seq ?_
  refine wc_seq ?_
  refine wc_region ?_
  refine wl_val 11 (by kernel_rfl) ((op_fieldL (m := 11) (k := 11) rfl (by kernel_rfl) rfl)) ?_
  refine wl_val 12 (by kernel_rfl) ((op_load rfl (by kernel_rfl) (by assumption))) ?_
  refine wl_val 13 (by kernel_rfl) ((op_len rfl (by kernel_rfl))) ?_
  refine wl_val 14 (by kernel_rfl) (op_f (op_gtr rfl rfl) (by omega)) ?_
  refine wl_val 15 (by kernel_rfl) ((op_move (v := .bool false) rfl)) ?_
  refine wl_val 16 (by kernel_rfl) ((op_fieldL (m := 12) (k := 12) rfl (by kernel_rfl) rfl)) ?_
  refine wl_val 17 (by kernel_rfl) ((op_load rfl (by kernel_rfl) (by assumption))) ?_
  refine wl_val 18 (by kernel_rfl) ((op_len rfl (by kernel_rfl))) ?_
  refine wl_val 19 (by kernel_rfl) (op_f (op_gtr rfl rfl) (by omega)) ?_
  refine wl_val 20 (by kernel_rfl) ((op_pick_f (v := .bool false) rfl rfl)) ?_
  refine wl_val 21 (by kernel_rfl) ((op_move (v := .bool false) rfl)) ?_
  refine wl_val 22 (by kernel_rfl) ((op_fieldL (m := 13) (k := 13) rfl (by kernel_rfl) rfl)) ?_
  refine wl_val 23 (by kernel_rfl) ((op_load rfl (by kernel_rfl) (by assumption))) ?_
  refine wl_val 24 (by kernel_rfl) ((op_len rfl (by kernel_rfl))) ?_
  refine wl_val 25 (by kernel_rfl) (op_f (op_gtr rfl rfl) (by omega)) ?_
  refine wl_val 26 (by kernel_rfl) ((op_pick_f (v := .bool false) rfl rfl)) ?_
  refine wl_val 27 (by kernel_rfl) ((op_move (v := .bool false) rfl)) ?_
  refine wl_val 28 (by kernel_rfl) ((op_fieldL (m := 14) (k := 14) rfl (by kernel_rfl) rfl)) ?_
  refine wl_val 29 (by kernel_rfl) ((op_load rfl (by kernel_rfl) (by assumption))) ?_
  refine wl_val 30 (by kernel_rfl) ((op_len rfl (by kernel_rfl))) ?_
  refine wl_val 31 (by kernel_rfl) (op_t (op_gtr rfl rfl) (by omega)) ?_
  refine wl_val 32 (by kernel_rfl) ((op_pick_f (v := .bool true) rfl rfl)) ?_
  refine wl_nil ?_
  refine wx_next ?_
  refine wc_cond_t (by kernel_rfl) rfl ?_
  refine wc_seq ?_
  refine wc_region ?_
  refine wl_val 2 (by kernel_rfl) ((op_assign (v := .slice _ _ _) rfl)) ?_
  refine wl_val 3 (by kernel_rfl) ((op_assign (v := .int .i64 _) rfl)) ?_
  refine wl_nil ?_
  refine wx_next ?_
  refine wc_ret ?_
  refine wx_thenR ?_
  refine wx_ret2 rfl (by kernel_rfl) (show _ = .slice _ _ _ from rfl) (by kernel_rfl) (show _ = .int .i64 _ from rfl) ?_
  exact ⟨rfl, by rw [hw1]; exact (Below.refl _ _).alloc (Nat.le_refl _) _⟩
theorem rd_up {α : Type} {w w' : World} {k : Nat} {R : α → List Value → Prop} {A : Option Addr} {xs : List α} (h : Rd w w.heap.size k R A xs) (hb : Below w.heap.size w w') : Rd w' w'.heap.size k R A xs := (h.below hb).more hb.size
set_option maxRecDepth 10000 in
theorem refDeposits_any (now hh cc as_ em ta gap tr ins bins ba co fe bi po : Value) (prA : Option Addr) (prc : Nat) (pl : List Prd) (saA : Option Addr) (sac : Nat) (sl : List Sal) (clA : Option Addr) (clc : Nat) (cl : List Clm) (paA : Option Addr) (pac : Nat) (l : List Pay) (hpl : pl.length ≤ 64) (hsl : sl.length ≤ 512) (hcl : cl.length ≤ 512) (hll : l.length ≤ 512) (w : World)
    (hPr : Rd w w.heap.size 5 PrR prA pl) (hSa : Rd w w.heap.size 5 SaR saA sl) (hCl : Rd w w.heap.size 5 ClR clA cl) (hPa : Rd w w.heap.size 7 PaR paA l) :
    Calls Tryd.prog 20 #[.agg #[now, hh, cc, as_, em, ta, gap, tr, ins, bins, ba, .slice prA pl.length prc, .slice saA sl.length sac, .slice clA cl.length clc, .slice paA l.length pac, co, fe, bi, po]] w fun e w' => ∃ v, e = .returned (.tuple #[v, .int .i64 0]) ∧ w'.ownsRow w.heap.size 49 3 v (depF sl pl cl l l.length).length ((depF sl pl cl l l.length).flatMap fnC) ∧ Below w.heap.size w w' := by
  obtain ⟨BK, hBK⟩ : ∃ k, k = [now, hh, cc, as_, em, ta, gap, tr, ins, bins, ba, .slice prA pl.length prc, .slice saA sl.length sac, .slice clA cl.length clc, .slice paA l.length pac, co, fe, bi, po] := ⟨_, rfl⟩
  have hcell : ∀ wr : World, Blk wr w.heap.size 40 BK → wr.cell? ⟨w.heap.size, 11, none⟩ = some (.slice prA pl.length prc) ∧ wr.cell? ⟨w.heap.size, 12, none⟩ = some (.slice saA sl.length sac) ∧ wr.cell? ⟨w.heap.size, 13, none⟩ = some (.slice clA cl.length clc) ∧ wr.cell? ⟨w.heap.size, 14, none⟩ = some (.slice paA l.length pac) := fun wr h => by
    rw [hBK] at h
    exact ⟨h.at_ 11 rfl, h.at_ 12 rfl, h.at_ 13 rfl, h.at_ 14 rfl⟩
  refine calls_wc (n := 42) Tryd.func20 rfl rfl (Nat.le_of_ble_eq_true rfl) ?_
  refine wc_seq ?_
  refine wc_region ?_
  refine wl_new 1 (by kernel_rfl) (op_boxA rfl) ?_
  intro w1 hw1
  obtain ⟨m11, m12, m13, m14⟩ := hcell w1 (by rw [hw1, hBK]; exact Blk.new w _ _)
  refine wl_val 2 (by kernel_rfl) ((op_assign (v := .slice _ _ _) rfl)) ?_
  refine wl_val 3 (by kernel_rfl) ((op_assign (v := .int .i64 _) rfl)) ?_
  refine wl_nil ?_
  refine wx_next ?_
  refine wc_seq ?_
  refine wc_seq ?_
  refine wc_region ?_
  refine wl_val 6 (by kernel_rfl) ((op_fieldL (m := 11) (k := 11) rfl (by kernel_rfl) rfl)) ?_
  refine wl_val 7 (by kernel_rfl) ((op_load rfl (by kernel_rfl) (by assumption))) ?_
  refine wl_val 8 (by kernel_rfl) ((op_len rfl (by kernel_rfl))) ?_
  refine wl_val 9 (by kernel_rfl) (op_f (op_gtr rfl rfl) (by omega)) ?_
  refine wl_val 10 (by kernel_rfl) ((op_move (v := .bool false) rfl)) ?_
  refine wl_val 11 (by kernel_rfl) ((op_fieldL (m := 12) (k := 12) rfl (by kernel_rfl) rfl)) ?_
  refine wl_val 12 (by kernel_rfl) ((op_load rfl (by kernel_rfl) (by assumption))) ?_
  refine wl_val 13 (by kernel_rfl) ((op_len rfl (by kernel_rfl))) ?_
  refine wl_val 14 (by kernel_rfl) (op_f (op_gtr rfl rfl) (by omega)) ?_
  refine wl_val 15 (by kernel_rfl) ((op_pick_f (v := .bool false) rfl rfl)) ?_
  refine wl_val 16 (by kernel_rfl) ((op_move (v := .bool false) rfl)) ?_
  refine wl_val 17 (by kernel_rfl) ((op_fieldL (m := 13) (k := 13) rfl (by kernel_rfl) rfl)) ?_
  refine wl_val 18 (by kernel_rfl) ((op_load rfl (by kernel_rfl) (by assumption))) ?_
  refine wl_val 19 (by kernel_rfl) ((op_len rfl (by kernel_rfl))) ?_
  refine wl_val 20 (by kernel_rfl) (op_f (op_gtr rfl rfl) (by omega)) ?_
  refine wl_val 21 (by kernel_rfl) ((op_pick_f (v := .bool false) rfl rfl)) ?_
  refine wl_val 22 (by kernel_rfl) ((op_move (v := .bool false) rfl)) ?_
  refine wl_val 23 (by kernel_rfl) ((op_fieldL (m := 14) (k := 14) rfl (by kernel_rfl) rfl)) ?_
  refine wl_val 24 (by kernel_rfl) ((op_load rfl (by kernel_rfl) (by assumption))) ?_
  refine wl_val 25 (by kernel_rfl) ((op_len rfl (by kernel_rfl))) ?_
  refine wl_val 26 (by kernel_rfl) (op_f (op_gtr rfl rfl) (by omega)) ?_
  refine wl_val 27 (by kernel_rfl) ((op_pick_f (v := .bool false) rfl rfl)) ?_
  refine wl_nil ?_
  refine wx_next ?_
  refine wc_cond_f (by kernel_rfl) rfl ?_
  refine wc_skip ?_
  refine wx_next ?_
  refine wc_seq ?_
  refine wc_region ?_
  refine wl_new 28 (by kernel_rfl) (op_slice0 (el := 49) (size := 3) (bytes := 24) (by kernel_rfl)) ?_
  intro w2 hw2
  have HS : RSt w w.heap.size BK [] (.slice (some ⟨w1.heap.size, 0, none⟩) 0 0) w2 := by
    rw [hw2, hw1, hBK, World.size_alloc]; exact rst_start
  clear hw1 hw2 m11 m12 m13 m14
  refine wl_val 4 (by kernel_rfl) ((op_assign (v := .slice _ _ _) rfl)) ?_
  refine wl_nil ?_
  refine wx_next ?_
  refine wc_seq ?_
  refine wc_seq ?_
  refine wc_region ?_
  refine wl_val 5 (by kernel_rfl) ((op_assign (v := .int .i64 _) rfl)) ?_
  refine wl_nil ?_
  refine wx_next ?_
  refine wc_block ?_
  refine wc_loop (σ := Nat × Value) (fun s => [(1, .pointer (some ⟨w.heap.size, 0, none⟩)), (4, s.2), (5, .int .i64 s.1)]) (fun s wr => s.1 ≤ l.length ∧ RSt w w.heap.size BK (depF sl pl cl l s.1) s.2 wr) (fun s => l.length - s.1) (0, .slice (some ⟨w1.heap.size, 0, none⟩) 0 0) ?_ ?_ ?_
  · exact (sub_cons (by kernel_rfl) rfl (sub_cons (by kernel_rfl) rfl (sub_cons (by kernel_rfl) rfl sub_nil)))
  · exact ⟨Nat.zero_le _, HS⟩
  intro s w1 hs
  clear HS
  obtain ⟨k, v⟩ := s
  obtain ⟨hk, HS⟩ := hs
  simp only at hk HS
  obtain ⟨m11, m12, m13, m14⟩ := hcell w1 HS.2.2.1
  have hfl := depF_le sl pl cl l k
  refine wc_seq ?_
  refine wc_seq ?_
  refine wc_region ?_
  refine wl_val 29 (by kernel_rfl) ((op_move (v := .int .i64 _) rfl)) ?_
  refine wl_val 30 (by kernel_rfl) ((op_fieldL (m := 14) (k := 14) rfl (by kernel_rfl) rfl)) ?_
  refine wl_val 31 (by kernel_rfl) ((op_load rfl (by kernel_rfl) (by assumption))) ?_
  refine wl_val 32 (by kernel_rfl) ((op_len rfl (by kernel_rfl))) ?_
  refine wl_val 33 (by kernel_rfl) ((op_lss rfl rfl)) ?_
  refine wl_nil ?_
  refine wx_next ?_
  refine wc_cond (by kernel_rfl) rfl (fun h1 => ?_) (fun h1 => ?_)
  · skip
    have hlt : k < l.length := by simpa using h1
    obtain ⟨x, hx⟩ := get_of_lt hlt
    refine wc_skip ?_
    refine wx_next ?_
    refine wc_seq ?_
    refine wc_block ?_
    refine wc_region ?_
    refine wl_val 36 (by kernel_rfl) ((op_move (v := _) rfl)) ?_
    refine wl_val 37 (by kernel_rfl) ((op_loadR BK rfl (by rw [hBK]; kernel_rfl) (fun j u hu => by simpa using HS.2.2.1.at_ j hu))) ?_
    refine wl_val 38 (by kernel_rfl) ((op_move (v := .int .i64 _) rfl)) ?_
    refine wl_call 39 (by kernel_rfl) (op_call (by kernel_rfl)) (by rw [hBK]; exact payout_any _ _ _ _ _ _ _ _ _ _ _ _ _ _ _ prA prc pl saA sac sl clA clc cl paA pac l k x hx hll hcl _ (rd_up hPr HS.1) (rd_up hSa HS.1) (rd_up hCl HS.1) (rd_up hPa HS.1)) ?_
    rintro e w2 ⟨v2, rfl, hne, hown, hb2⟩
    obtain ⟨g2, c2, rfl, hcs⟩ := own_some hown hne
    have HS2 := HS.later hb2
    have hst := payStep_le (sl := sl) (pl := pl) (cl := cl) (l := l) (k := k) (x := x)
    clear hb2 hne m11 m12 m13 m14
    refine ⟨_, rfl, ?_⟩
    refine wl_append (el := 49) (size := 3) (bytes := 24) (base := w.heap.size) (k := (depF sl pl cl l k).length) (xs := (depF sl pl cl l k).flatMap fnC) (news := (payStep sl pl cl l k x).flatMap fnC) 40 (by kernel_rfl) (by kernel_rfl) rfl HS2.2.2.2 rfl (flat3 _) hcs (flat_one _) (by unfold maxLen; omega) (by omega) (Nat.le_of_lt HS2.2.1) ?_
    intro v3 w3 ho hg
    have HS3 := HS2.more ho hg
    clear ho hg
    refine wl_val 4 (by kernel_rfl) ((op_assign (v := _) rfl)) ?_
    refine wl_nil ?_
    refine wx_inN ?_
    refine wx_next ?_
    refine wc_region ?_
    refine wl_val 34 (by kernel_rfl) ((op_move (v := .int .i64 _) rfl)) ?_
    refine wl_val 35 (by kernel_rfl) ((op_add rfl rfl (by omega))) ?_
    refine wl_val 5 (by kernel_rfl) ((op_assign (v := .int .i64 _) rfl)) ?_
    refine wl_nil ?_
    refine wx_round (k + 1, _) (sub_cons (by kernel_rfl) rfl (sub_cons (by kernel_rfl) rfl (sub_cons (by kernel_rfl) rfl sub_nil))) ⟨hlt, ?_⟩ (by simp only; omega)
    simp only
    rw [depF_in hx]
    exact HS3
  · skip
    have hge : k = l.length := by have := of_decide_eq_false h1; omega
    subst hge
    refine wc_exit ?_
    refine wx_thenE ?_
    refine wx_thenE ?_
    refine wx_here ?_
    refine wx_next ?_
    refine wc_seq ?_
    refine wc_region ?_
    refine wl_val 41 (by kernel_rfl) ((op_move (v := _) rfl)) ?_
    refine wl_val 2 (by kernel_rfl) ((op_assign (v := _) rfl)) ?_
    refine wl_val 3 (by kernel_rfl) ((op_assign (v := .int .i64 _) rfl)) ?_
    refine wl_nil ?_
    refine wx_next ?_
    refine wc_ret ?_
    refine wx_ret2 rfl (by kernel_rfl) (show _ = _ from rfl) (by kernel_rfl) (show _ = .int .i64 _ from rfl) ?_
    exact ⟨_, rfl, HS.2.2.2, HS.1⟩
/-- The collector's state, and the payout's own block. -/
def DSt (w : World) (N : Nat) (bk : List Value) (fs : List Fnd) (g : Nat) (x : Pay) (wr : World) : Prop := APre w N bk fs wr ∧ Blk wr g 61 (paC x)
section
variable {w wr w' : World} {N : Nat} {bk : List Value} {fs fs' : List Fnd} {g : Nat} {x : Pay}
theorem DSt.later (h : DSt w N bk fs g x wr) (hb : Below wr.heap.size wr w') : DSt w N bk fs g x w' := ⟨h.1.later hb, h.2.below hb h.2.lt⟩
theorem DSt.alloc (h : DSt w N bk fs g x wr) (o : Obj) : DSt w N bk fs g x (wr.alloc o) := h.later ((Below.refl _ _).alloc (Nat.le_refl _) _)
theorem DSt.dr (h : DSt w N bk fs g x wr) (hd : Dr wr w') : DSt w N bk fs g x w' := by
  obtain ⟨m, rfl⟩ := hd
  obtain ⟨⟨a, b, c, d⟩, e⟩ := h
  exact ⟨⟨below_drewN a m, b, c, d⟩, e⟩
theorem DSt.found (h : DSt w N bk fs g x wr) (ho : Out w' N (N + 1) (N + 1 + 1) fs') (hk : Kp [41, 49] N wr w') : DSt w N bk fs' g x w' := ⟨h.1.found ho hk, hk.blk _ _ _ (by decide) h.2⟩
end
theorem payA_un {sl : List Sal} {pl : List Prd} {k : Nat} {x : Pay} (h : unsoldB sl pl.length x = true) : payA sl pl k x = [⟨5, k, 0⟩] := by unfold payA; rw [if_pos h]
theorem payA_amt {sl : List Sal} {pl : List Prd} {k : Nat} {x : Pay} (h : unsoldB sl pl.length x = false) (ha : x.amt ≠ depOf pl x.prod) : payA sl pl k x = [⟨6, k, 0⟩] := by unfold payA; rw [if_neg (by rw [h]; decide), if_pos ha]
theorem payA_ok {sl : List Sal} {pl : List Prd} {k : Nat} {x : Pay} (h : unsoldB sl pl.length x = false) (ha : x.amt = depOf pl x.prod) : payA sl pl k x = [] := by unfold payA; rw [if_neg (by rw [h]; decide), if_neg (by rw [ha]; simp)]
theorem unsold_eq (sl : List Sal) (np : Nat) (x : Pay) : unsoldB sl np x = (!(saleOf sl x.serial).isSome || decide (x.prod ≠ ((saleOf sl x.serial).getD ⟨0, 0, 0, 0, 0⟩).prod ∨ x.prod < 0 ∨ (np : Int) ≤ x.prod)) := by
  unfold unsoldB
  cases saleOf sl x.serial <;> simp
theorem firstSer_self {l : List Pay} {k : Nat} {x : Pay} (hx : l[k]? = some x) : idxI (fun y : Pay => decide (y.serial = x.serial)) l = (firstSer l x : Nat) ∧ firstSer l x ≤ k := idxI_some hx (by simp)
set_option maxRecDepth 10000 in
theorem deposits_any (now hh cc as_ em ta gap tr ins bins ba co fe bi po : Value) (prA : Option Addr) (prc : Nat) (pl : List Prd) (saA : Option Addr) (sac : Nat) (sl : List Sal) (clA : Option Addr) (clc : Nat) (cl : List Clm) (paA : Option Addr) (pac : Nat) (l : List Pay) (hpl : pl.length ≤ 64) (hsl : sl.length ≤ 512) (hcl : cl.length ≤ 512) (hll : l.length ≤ 512) (w : World)
    (hPr : Rd w w.heap.size 5 PrR prA pl) (hSa : Rd w w.heap.size 5 SaR saA sl) (hCl : Rd w w.heap.size 5 ClR clA cl) (hPa : Rd w w.heap.size 7 PaR paA l) :
    Calls Tryd.prog 21 #[.agg #[now, hh, cc, as_, em, ta, gap, tr, ins, bins, ba, .slice prA pl.length prc, .slice saA sl.length sac, .slice clA cl.length clc, .slice paA l.length pac, co, fe, bi, po]] w fun e w' => ∃ v, e = .returned (.tuple #[v, .int .i64 0]) ∧ w'.ownsRow w.heap.size 49 3 v (depF sl pl cl l l.length).length ((depF sl pl cl l l.length).flatMap fnC) ∧ Below w.heap.size w w' := by
  obtain ⟨BK, hBK⟩ : ∃ k, k = [now, hh, cc, as_, em, ta, gap, tr, ins, bins, ba, .slice prA pl.length prc, .slice saA sl.length sac, .slice clA cl.length clc, .slice paA l.length pac, co, fe, bi, po] := ⟨_, rfl⟩
  have hcell : ∀ wr : World, Blk wr w.heap.size 40 BK → wr.cell? ⟨w.heap.size, 11, none⟩ = some (.slice prA pl.length prc) ∧ wr.cell? ⟨w.heap.size, 12, none⟩ = some (.slice saA sl.length sac) ∧ wr.cell? ⟨w.heap.size, 13, none⟩ = some (.slice clA cl.length clc) ∧ wr.cell? ⟨w.heap.size, 14, none⟩ = some (.slice paA l.length pac) := fun wr h => by
    rw [hBK] at h
    exact ⟨h.at_ 11 rfl, h.at_ 12 rfl, h.at_ 13 rfl, h.at_ 14 rfl⟩
  refine calls_wc (n := 111) Tryd.func21 rfl rfl (Nat.le_of_ble_eq_true rfl) ?_
  refine wc_seq ?_
  refine wc_region ?_
  refine wl_new 1 (by kernel_rfl) (op_boxA rfl) ?_
  intro w1 hw1
  obtain ⟨m11, m12, m13, m14⟩ := hcell w1 (by rw [hw1, hBK]; exact Blk.new w _ _)
  refine wl_val 2 (by kernel_rfl) ((op_assign (v := .slice _ _ _) rfl)) ?_
  refine wl_val 3 (by kernel_rfl) ((op_assign (v := .int .i64 _) rfl)) ?_
  refine wl_nil ?_
  refine wx_next ?_
  refine wc_seq ?_
  refine wc_seq ?_
  refine wc_region ?_
  refine wl_val 11 (by kernel_rfl) ((op_fieldL (m := 11) (k := 11) rfl (by kernel_rfl) rfl)) ?_
  refine wl_val 12 (by kernel_rfl) ((op_load rfl (by kernel_rfl) (by assumption))) ?_
  refine wl_val 13 (by kernel_rfl) ((op_len rfl (by kernel_rfl))) ?_
  refine wl_val 14 (by kernel_rfl) (op_f (op_gtr rfl rfl) (by omega)) ?_
  refine wl_val 15 (by kernel_rfl) ((op_move (v := .bool false) rfl)) ?_
  refine wl_val 16 (by kernel_rfl) ((op_fieldL (m := 12) (k := 12) rfl (by kernel_rfl) rfl)) ?_
  refine wl_val 17 (by kernel_rfl) ((op_load rfl (by kernel_rfl) (by assumption))) ?_
  refine wl_val 18 (by kernel_rfl) ((op_len rfl (by kernel_rfl))) ?_
  refine wl_val 19 (by kernel_rfl) (op_f (op_gtr rfl rfl) (by omega)) ?_
  refine wl_val 20 (by kernel_rfl) ((op_pick_f (v := .bool false) rfl rfl)) ?_
  refine wl_val 21 (by kernel_rfl) ((op_move (v := .bool false) rfl)) ?_
  refine wl_val 22 (by kernel_rfl) ((op_fieldL (m := 13) (k := 13) rfl (by kernel_rfl) rfl)) ?_
  refine wl_val 23 (by kernel_rfl) ((op_load rfl (by kernel_rfl) (by assumption))) ?_
  refine wl_val 24 (by kernel_rfl) ((op_len rfl (by kernel_rfl))) ?_
  refine wl_val 25 (by kernel_rfl) (op_f (op_gtr rfl rfl) (by omega)) ?_
  refine wl_val 26 (by kernel_rfl) ((op_pick_f (v := .bool false) rfl rfl)) ?_
  refine wl_val 27 (by kernel_rfl) ((op_move (v := .bool false) rfl)) ?_
  refine wl_val 28 (by kernel_rfl) ((op_fieldL (m := 14) (k := 14) rfl (by kernel_rfl) rfl)) ?_
  refine wl_val 29 (by kernel_rfl) ((op_load rfl (by kernel_rfl) (by assumption))) ?_
  refine wl_val 30 (by kernel_rfl) ((op_len rfl (by kernel_rfl))) ?_
  refine wl_val 31 (by kernel_rfl) (op_f (op_gtr rfl rfl) (by omega)) ?_
  refine wl_val 32 (by kernel_rfl) ((op_pick_f (v := .bool false) rfl rfl)) ?_
  refine wl_nil ?_
  refine wx_next ?_
  refine wc_cond_f (by kernel_rfl) rfl ?_
  refine wc_skip ?_
  refine wx_next ?_
  refine wc_seq ?_
  refine wc_region ?_
  refine wl_new 4 (by kernel_rfl) (op_alloc (v := .slice none 0 0) [.slice none 0 0] (by kernel_rfl) rfl) ?_
  intro w2 hw2
  refine wl_nil ?_
  refine wx_next ?_
  refine wc_seq ?_
  refine wc_region ?_
  refine wl_call 33 (by kernel_rfl) (op_call (by kernel_rfl)) (collector_any _ _) ?_
  rintro e w3 ⟨rfl, hw3⟩
  have HS : APre w w.heap.size BK [] w3 := by
    rw [← hw3, hw2, hw1, hBK, World.size_alloc]; exact apre_start
  obtain ⟨m11b, m12b, m13b, m14b⟩ := hcell w3 HS.2.2.1
  have e1 : w1.heap.size = w.heap.size + 1 := by rw [hw1]; simp
  have e2 : w2.heap.size = w.heap.size + 1 + 1 := by rw [hw2]; simp [e1]
  clear hw1 hw2 hw3 m11 m12 m13 m14
  refine ⟨_, rfl, ?_⟩
  refine wl_val 5 (by kernel_rfl) ((op_assign (v := .func _ _ _) rfl)) ?_
  refine wl_nil ?_
  refine wx_next ?_
  refine wc_seq ?_
  refine wc_seq ?_
  refine wc_region ?_
  refine wl_val 34 (by kernel_rfl) ((op_fieldL (m := 14) (k := 14) rfl (by kernel_rfl) rfl)) ?_
  refine wl_val 35 (by kernel_rfl) ((op_load rfl (by kernel_rfl) (by assumption))) ?_
  refine wl_val 36 (by kernel_rfl) ((op_len rfl (by kernel_rfl))) ?_
  refine wl_val 37 (by kernel_rfl) ((op_move (v := .int .i64 _) rfl)) ?_
  refine wl_nil ?_
  refine wx_next ?_
  refine wc_block ?_
  refine wc_loop (σ := Nat) (fun k => [(1, .pointer (some ⟨w.heap.size, 0, none⟩)), (4, .pointer (some ⟨w.heap.size + 1, 0, none⟩)), (5, .func (.func 45) #[] #[.pointer (some ⟨w.heap.size + 1 + 1, 0, none⟩)]), (35, .slice paA l.length pac), (36, .int .i64 l.length), (37, .int .i64 k)]) (fun k wr => k ≤ l.length ∧ APre w w.heap.size BK (depF sl pl cl l k) wr) (fun k => l.length - k) 0 ?_ ?_ ?_
  · exact (sub_cons (by kernel_rfl) rfl (sub_cons (by kernel_rfl) (by rw [← e1]; rfl) (sub_cons (by kernel_rfl) (by rw [← e2]; rfl) (sub_cons (by kernel_rfl) rfl (sub_cons (by kernel_rfl) rfl (sub_cons (by kernel_rfl) rfl sub_nil))))))
  · exact ⟨Nat.zero_le _, HS⟩
  intro k w1 hs
  clear HS m11b m12b m13b m14b
  obtain ⟨hk, HS⟩ := hs
  have hfl := depF_le sl pl cl l k
  refine wc_seq ?_
  refine wc_region ?_
  refine wl_val 38 (by kernel_rfl) ((op_lss rfl rfl)) ?_
  refine wl_nil ?_
  refine wx_next ?_
  refine wc_seq ?_
  refine wc_cond (by kernel_rfl) rfl (fun h1 => ?_) (fun h1 => ?_)
  · skip
    have hlt : k < l.length := by simpa using h1
    obtain ⟨x, hx⟩ := get_of_lt hlt
    obtain ⟨hI, pb, pf, rfl, _, hrow⟩ := pa_at (hPa.below HS.1) hx
    have hA1 := payA_le (sl := sl) (pl := pl) (k := k) (x := x)
    have hB1 := payB_le (l := l) (k := k) (x := x)
    refine wc_skip ?_
    refine wx_next ?_
    refine wc_seq ?_
    refine wc_block ?_
    refine wc_seq ?_
    refine wc_region ?_
    refine wl_val 39 (by kernel_rfl) ((op_move (v := .int .i64 _) rfl)) ?_
    refine wl_val 40 (by kernel_rfl) ((op_index (sz := 7) rfl rfl (by kernel_rfl) (by omega))) ?_
    refine wl_val 41 (by kernel_rfl) ((op_loadR (paC x) rfl (by kernel_rfl) hrow)) ?_
    refine wl_run 7 (by kernel_rfl) (op_alloc (v := .agg #[.int .i64 0, .int .i64 0, .int .i64 0, .int .i64 0, .bool false, .int .i64 0, .int .i64 0]) [.int .i64 0, .int .i64 0, .int .i64 0, .int .i64 0, .bool false, .int .i64 0, .int .i64 0] (by kernel_rfl) rfl) ?_
    refine wl_val 6 (by kernel_rfl) ((op_assign (v := .int .i64 _) rfl)) ?_
    refine wl_donew (by kernel_rfl) (op_fill _ (paC x) rfl rfl (by kernel_rfl) rfl rfl) ?_
    intro w3 hw3
    obtain ⟨g, hg⟩ : ∃ g, g = w1.heap.size := ⟨_, rfl⟩
    rw [← hg]
    have HD3 : DSt w w.heap.size BK (depF sl pl cl l k) g x w3 := by rw [hw3, hg]; exact ⟨HS.alloc _, Blk.new w1 _ _⟩
    clear hw3 hg HS hrow
    obtain ⟨m11, m12, m13, m14⟩ := hcell w3 HD3.1.2.2.1
    have p0 := HD3.2.at_ 0 rfl
    have p5 := HD3.2.at_ 5 rfl
    have p6 := HD3.2.at_ 6 rfl
    refine wl_nil ?_
    refine wx_next ?_
    refine wc_seq ?_
    refine wc_region ?_
    refine wl_val 43 (by kernel_rfl) ((op_fieldL (m := 12) (k := 12) rfl (by kernel_rfl) rfl)) ?_
    refine wl_val 44 (by kernel_rfl) ((op_load rfl (by kernel_rfl) (by assumption))) ?_
    refine wl_val 45 (by kernel_rfl) ((op_fieldL (m := 0) (k := 0) rfl (by kernel_rfl) rfl)) ?_
    refine wl_val 46 (by kernel_rfl) ((op_fieldL (m := 0) (k := 0) rfl (by kernel_rfl) rfl)) ?_
    refine wl_val 47 (by kernel_rfl) ((op_load rfl (by kernel_rfl) (by assumption))) ?_
    refine wl_call 48 (by kernel_rfl) (op_call (by kernel_rfl)) (sold_any saA sac sl x.serial hI _ (rd_up hSa HD3.1.1)) ?_
    rintro e w4 ⟨rfl, hb4⟩
    have HD4 := HD3.later hb4
    clear m11 m12 m13 m14 p0 p5 p6
    clear HD3 hb4
    refine ⟨_, rfl, ?_⟩
    refine wl_val 42 (by kernel_rfl) ((op_move (v := .tuple _) rfl)) ?_
    refine wl_val 49 (by kernel_rfl) ((op_extract rfl rfl)) ?_
    refine wl_val 50 (by kernel_rfl) ((op_extract rfl rfl)) ?_
    refine wl_run 8 (by kernel_rfl) (op_alloc (v := .agg #[.int .i64 0, .int .i64 0, .int .i64 0, .int .i64 0, .int .i64 0]) [.int .i64 0, .int .i64 0, .int .i64 0, .int .i64 0, .int .i64 0] (by kernel_rfl) rfl) ?_
    refine wl_donew (by kernel_rfl) (op_fill _ (saC ((saleOf sl x.serial).getD ⟨0, 0, 0, 0, 0⟩)) rfl rfl (by kernel_rfl) rfl rfl) ?_
    intro w5 hw5
    have HD5 : DSt w w.heap.size BK (depF sl pl cl l k) g x w5 := by rw [hw5]; exact HD4.alloc _
    have hbs : Blk w5 w4.heap.size 88 (saC ((saleOf sl x.serial).getD ⟨0, 0, 0, 0, 0⟩)) := by rw [hw5]; exact Blk.new w4 _ _
    have s0 := hbs.at_ 0 rfl
    clear hw5 HD4
    obtain ⟨m11, m12, m13, m14⟩ := hcell w5 HD5.1.2.2.1
    have p0 := HD5.2.at_ 0 rfl
    have p5 := HD5.2.at_ 5 rfl
    have p6 := HD5.2.at_ 6 rfl
    refine wl_val 9 (by kernel_rfl) ((op_assign (v := .bool _) rfl)) ?_
    refine wl_nil ?_
    refine wx_next ?_
    refine wc_seqJ (σ := Unit) (fun _ => [(1, .pointer (some ⟨w.heap.size, 0, none⟩)), (4, .pointer (some ⟨w.heap.size + 1, 0, none⟩)), (5, .func (.func 45) #[] #[.pointer (some ⟨w.heap.size + 1 + 1, 0, none⟩)]), (35, .slice (some ⟨pb, pf, none⟩) l.length pac), (36, .int .i64 l.length), (37, .int .i64 k), (6, .int .i64 k), (7, .pointer (some ⟨g, 0, none⟩))]) (fun _ wr => DSt w w.heap.size BK (depF sl pl cl l k ++ payA sl pl k x) g x wr) ?_ ?_
    · skip
      refine wc_seq ?_
      refine wc_cutE [(72, .bool (unsoldB sl pl.length x))] ?_ ?_
      · skip
        refine wl_bool 51 (by kernel_rfl) ((op_move (v := .bool _) rfl)) (fun h2 => ?_) (fun h2 => ?_)
        · skip
          refine wl_val 52 (by kernel_rfl) ((op_nott rfl)) ?_
          refine wl_val 53 (by kernel_rfl) ((op_move (v := .bool false) rfl)) ?_
          refine wl_val 54 (by kernel_rfl) ((op_fieldL (m := 5) (k := 5) rfl (by kernel_rfl) rfl)) ?_
          refine wl_val 55 (by kernel_rfl) ((op_load rfl (by kernel_rfl) (by assumption))) ?_
          refine wl_val 56 (by kernel_rfl) ((op_fieldL (m := 0) (k := 0) rfl (by kernel_rfl) rfl)) ?_
          refine wl_val 57 (by kernel_rfl) ((op_load rfl (by kernel_rfl) (by assumption))) ?_
          refine wl_dec 58 (by kernel_rfl) ((op_neq rfl rfl)) (fun h3 => ?_) (fun h3 => ?_)
          · skip
            refine wl_val 59 (by kernel_rfl) ((op_pick_f (v := .bool true) rfl rfl)) ?_
            refine wl_val 60 (by kernel_rfl) ((op_move (v := .bool true) rfl)) ?_
            refine wl_skip 61 (by kernel_rfl) ?_
            refine wl_skip 62 (by kernel_rfl) ?_
            refine wl_skip 63 (by kernel_rfl) ?_
            refine wl_val 64 (by kernel_rfl) ((op_pick_t (v := .bool true) rfl rfl)) ?_
            refine wl_val 65 (by kernel_rfl) ((op_move (v := .bool true) rfl)) ?_
            refine wl_skip 66 (by kernel_rfl) ?_
            refine wl_skip 67 (by kernel_rfl) ?_
            refine wl_skip 68 (by kernel_rfl) ?_
            refine wl_skip 69 (by kernel_rfl) ?_
            refine wl_skip 70 (by kernel_rfl) ?_
            refine wl_skip 71 (by kernel_rfl) ?_
            refine wl_val 72 (by kernel_rfl) ((op_pick_t (v := .bool true) rfl rfl)) ?_
            refine leaf_e (sub_out 22 _ rfl (by kernel_rfl) ?_)
            refine ⟨congrArg Value.bool ?_, trivial⟩; rw [unsold_eq]; rw [Bool.eq_iff_iff]; simp_all <;> omega
          · skip
            refine wl_val 59 (by kernel_rfl) ((op_pick_f (v := .bool false) rfl rfl)) ?_
            refine wl_val 60 (by kernel_rfl) ((op_move (v := .bool false) rfl)) ?_
            refine wl_val 61 (by kernel_rfl) ((op_fieldL (m := 5) (k := 5) rfl (by kernel_rfl) rfl)) ?_
            refine wl_val 62 (by kernel_rfl) ((op_load rfl (by kernel_rfl) (by assumption))) ?_
            refine wl_dec 63 (by kernel_rfl) ((op_lss rfl rfl)) (fun h4 => ?_) (fun h4 => ?_)
            · skip
              refine wl_val 64 (by kernel_rfl) ((op_pick_f (v := .bool true) rfl rfl)) ?_
              refine wl_val 65 (by kernel_rfl) ((op_move (v := .bool true) rfl)) ?_
              refine wl_skip 66 (by kernel_rfl) ?_
              refine wl_skip 67 (by kernel_rfl) ?_
              refine wl_skip 68 (by kernel_rfl) ?_
              refine wl_skip 69 (by kernel_rfl) ?_
              refine wl_skip 70 (by kernel_rfl) ?_
              refine wl_skip 71 (by kernel_rfl) ?_
              refine wl_val 72 (by kernel_rfl) ((op_pick_t (v := .bool true) rfl rfl)) ?_
              refine leaf_e (sub_out 22 _ rfl (by kernel_rfl) ?_)
              refine ⟨congrArg Value.bool ?_, trivial⟩; rw [unsold_eq]; rw [Bool.eq_iff_iff]; simp_all <;> omega
            · skip
              refine wl_val 64 (by kernel_rfl) ((op_pick_f (v := .bool false) rfl rfl)) ?_
              refine wl_val 65 (by kernel_rfl) ((op_move (v := .bool false) rfl)) ?_
              refine wl_val 66 (by kernel_rfl) ((op_fieldL (m := 5) (k := 5) rfl (by kernel_rfl) rfl)) ?_
              refine wl_val 67 (by kernel_rfl) ((op_load rfl (by kernel_rfl) (by assumption))) ?_
              refine wl_val 68 (by kernel_rfl) ((op_fieldL (m := 11) (k := 11) rfl (by kernel_rfl) rfl)) ?_
              refine wl_val 69 (by kernel_rfl) ((op_load rfl (by kernel_rfl) (by assumption))) ?_
              refine wl_val 70 (by kernel_rfl) ((op_len rfl (by kernel_rfl))) ?_
              refine wl_val 71 (by kernel_rfl) ((op_geq rfl rfl)) ?_
              refine wl_val 72 (by kernel_rfl) ((op_pick_f (v := .bool _) rfl rfl)) ?_
              refine leaf_e (sub_out 22 _ rfl (by kernel_rfl) ?_)
              refine ⟨congrArg Value.bool ?_, trivial⟩; rw [unsold_eq]; rw [Bool.eq_iff_iff]; simp_all <;> omega
        · skip
          refine wl_val 52 (by kernel_rfl) ((op_notf rfl)) ?_
          refine wl_val 53 (by kernel_rfl) ((op_move (v := .bool true) rfl)) ?_
          refine wl_skip 54 (by kernel_rfl) ?_
          refine wl_skip 55 (by kernel_rfl) ?_
          refine wl_skip 56 (by kernel_rfl) ?_
          refine wl_skip 57 (by kernel_rfl) ?_
          refine wl_skip 58 (by kernel_rfl) ?_
          refine wl_val 59 (by kernel_rfl) ((op_pick_t (v := .bool true) rfl rfl)) ?_
          refine wl_val 60 (by kernel_rfl) ((op_move (v := .bool true) rfl)) ?_
          refine wl_skip 61 (by kernel_rfl) ?_
          refine wl_skip 62 (by kernel_rfl) ?_
          refine wl_skip 63 (by kernel_rfl) ?_
          refine wl_val 64 (by kernel_rfl) ((op_pick_t (v := .bool true) rfl rfl)) ?_
          refine wl_val 65 (by kernel_rfl) ((op_move (v := .bool true) rfl)) ?_
          refine wl_skip 66 (by kernel_rfl) ?_
          refine wl_skip 67 (by kernel_rfl) ?_
          refine wl_skip 68 (by kernel_rfl) ?_
          refine wl_skip 69 (by kernel_rfl) ?_
          refine wl_skip 70 (by kernel_rfl) ?_
          refine wl_skip 71 (by kernel_rfl) ?_
          refine wl_val 72 (by kernel_rfl) ((op_pick_t (v := .bool true) rfl rfl)) ?_
          refine leaf_e (sub_out 22 _ rfl (by kernel_rfl) ?_)
          refine ⟨congrArg Value.bool ?_, trivial⟩; rw [unsold_eq]; rw [Bool.eq_iff_iff]; simp_all <;> omega
      refine wx_next ?_
      refine wc_cond (by kernel_rfl) rfl (fun h5 => ?_) (fun h5 => ?_)
      · skip
        have hun := h5
        refine wc_region ?_
        refine wl_val 73 (by kernel_rfl) ((op_move (v := .func _ _ _) rfl)) ?_
        refine wl_val 74 (by kernel_rfl) ((op_move (v := .int .i64 _) rfl)) ?_
        refine wl_call 75 (by kernel_rfl) (op_callv rfl (by kernel_rfl)) (found_any _ _ _ w.heap.size (w.heap.size + 1) (w.heap.size + 1 + 1) _ _ HD5.1.out (by (try simp only [List.length_append]); omega)) ?_
        rintro e w7 ⟨rfl, ho, hkp⟩
        have HDa := HD5.found ho hkp
        clear ho hkp
        refine ⟨_, rfl, ?_⟩
        refine wl_nil ?_
        first | exact wx_join () (sub_cons (by kernel_rfl) rfl (sub_cons (by kernel_rfl) rfl (sub_cons (by kernel_rfl) rfl (sub_cons (by kernel_rfl) rfl (sub_cons (by kernel_rfl) rfl (sub_cons (by kernel_rfl) rfl (sub_cons (by kernel_rfl) rfl (sub_cons (by kernel_rfl) rfl sub_nil)))))))) (by rw [payA_un hun]; exact HDa) | exact wx_join () (sub_cons (by kernel_rfl) rfl (sub_cons (by kernel_rfl) rfl (sub_cons (by kernel_rfl) rfl (sub_cons (by kernel_rfl) rfl (sub_cons (by kernel_rfl) rfl (sub_cons (by kernel_rfl) rfl (sub_cons (by kernel_rfl) rfl (sub_cons (by kernel_rfl) rfl sub_nil)))))))) (by rw [payA_amt hun hamt]; exact HDb) | exact wx_join () (sub_cons (by kernel_rfl) rfl (sub_cons (by kernel_rfl) rfl (sub_cons (by kernel_rfl) rfl (sub_cons (by kernel_rfl) rfl (sub_cons (by kernel_rfl) rfl (sub_cons (by kernel_rfl) rfl (sub_cons (by kernel_rfl) rfl (sub_cons (by kernel_rfl) rfl sub_nil)))))))) (by rw [payA_ok hun hamt, List.append_nil]; exact HDc)
      · skip
        have hun := h5
        obtain ⟨hp1, hp2⟩ := sold_prod hun
        obtain ⟨p, hp⟩ := get_of_lt (show x.prod.toNat < pl.length by omega)
        obtain ⟨qb, qf, rfl, q2⟩ := pr_at (hPr.below HD5.1.1) hp
        have hdep := depOf_at hp
        refine wc_seq ?_
        refine wc_drawn (Dr w5) [(85, .bool (decide (x.amt ≠ p.dep)))] (by kernel_rfl) (by kernel_rfl) (Dr.one _) ?_ ?_
        · skip
          refine wq_val 76 (by kernel_rfl) (fun w1 c1 => (op_fieldL (m := 6) (k := 6) rfl (by kernel_rfl) rfl)) ?_
          refine wq_val 77 (by kernel_rfl) (fun w1 c1 => (op_load rfl (by kernel_rfl) ((c1.cell _).trans (by assumption)))) ?_
          refine wq_val 78 (by kernel_rfl) (fun w1 c1 => (op_fieldL (m := 11) (k := 11) rfl (by kernel_rfl) rfl)) ?_
          refine wq_val 79 (by kernel_rfl) (fun w1 c1 => (op_load rfl (by kernel_rfl) ((c1.cell _).trans (by assumption)))) ?_
          refine wq_val 80 (by kernel_rfl) (fun w1 c1 => (op_fieldL (m := 5) (k := 5) rfl (by kernel_rfl) rfl)) ?_
          refine wq_val 81 (by kernel_rfl) (fun w1 c1 => (op_load rfl (by kernel_rfl) ((c1.cell _).trans (by assumption)))) ?_
          refine wq_val 82 (by kernel_rfl) (fun w1 c1 => (op_indexI (sz := 5) rfl rfl (by kernel_rfl) hp1 hp2)) ?_
          refine wq_val 83 (by kernel_rfl) (fun w1 c1 => (op_field (m := 2) rfl (by kernel_rfl))) ?_
          refine wq_val 84 (by kernel_rfl) (fun w1 c1 => (op_load rfl (by kernel_rfl) ((c1.cell _).trans (by assumption)))) ?_
          refine wq_val 85 (by kernel_rfl) (fun w1 c1 => (op_neq rfl rfl)) ?_
          refine leaf_q (sub_out 10 _ rfl (by kernel_rfl) ?_)
          exact ⟨rfl, trivial⟩
        intro w7 c7
        have HDc := HD5.dr c7
        refine wx_next ?_
        refine wc_cond (by kernel_rfl) rfl (fun h6 => ?_) (fun h6 => ?_)
        · skip
          have hamt : x.amt ≠ depOf pl x.prod := by have := of_decide_eq_true h6; rw [hdep]; omega
          refine wc_region ?_
          refine wl_val 86 (by kernel_rfl) ((op_move (v := .func _ _ _) rfl)) ?_
          refine wl_val 87 (by kernel_rfl) ((op_move (v := .int .i64 _) rfl)) ?_
          refine wl_call 88 (by kernel_rfl) (op_callv rfl (by kernel_rfl)) (found_any _ _ _ w.heap.size (w.heap.size + 1) (w.heap.size + 1 + 1) _ _ HDc.1.out (by (try simp only [List.length_append]); omega)) ?_
          rintro e w8 ⟨rfl, ho, hkp⟩
          have HDb := HDc.found ho hkp
          clear ho hkp
          refine ⟨_, rfl, ?_⟩
          refine wl_nil ?_
          first | exact wx_join () (sub_cons (by kernel_rfl) rfl (sub_cons (by kernel_rfl) rfl (sub_cons (by kernel_rfl) rfl (sub_cons (by kernel_rfl) rfl (sub_cons (by kernel_rfl) rfl (sub_cons (by kernel_rfl) rfl (sub_cons (by kernel_rfl) rfl (sub_cons (by kernel_rfl) rfl sub_nil)))))))) (by rw [payA_un hun]; exact HDa) | exact wx_join () (sub_cons (by kernel_rfl) rfl (sub_cons (by kernel_rfl) rfl (sub_cons (by kernel_rfl) rfl (sub_cons (by kernel_rfl) rfl (sub_cons (by kernel_rfl) rfl (sub_cons (by kernel_rfl) rfl (sub_cons (by kernel_rfl) rfl (sub_cons (by kernel_rfl) rfl sub_nil)))))))) (by rw [payA_amt hun hamt]; exact HDb) | exact wx_join () (sub_cons (by kernel_rfl) rfl (sub_cons (by kernel_rfl) rfl (sub_cons (by kernel_rfl) rfl (sub_cons (by kernel_rfl) rfl (sub_cons (by kernel_rfl) rfl (sub_cons (by kernel_rfl) rfl (sub_cons (by kernel_rfl) rfl (sub_cons (by kernel_rfl) rfl sub_nil)))))))) (by rw [payA_ok hun hamt, List.append_nil]; exact HDc)
        · skip
          have hamt : x.amt = depOf pl x.prod := by have := of_decide_eq_false h6; rw [hdep]; omega
          refine wc_skip ?_
          first | exact wx_join () (sub_cons (by kernel_rfl) rfl (sub_cons (by kernel_rfl) rfl (sub_cons (by kernel_rfl) rfl (sub_cons (by kernel_rfl) rfl (sub_cons (by kernel_rfl) rfl (sub_cons (by kernel_rfl) rfl (sub_cons (by kernel_rfl) rfl (sub_cons (by kernel_rfl) rfl sub_nil)))))))) (by rw [payA_un hun]; exact HDa) | exact wx_join () (sub_cons (by kernel_rfl) rfl (sub_cons (by kernel_rfl) rfl (sub_cons (by kernel_rfl) rfl (sub_cons (by kernel_rfl) rfl (sub_cons (by kernel_rfl) rfl (sub_cons (by kernel_rfl) rfl (sub_cons (by kernel_rfl) rfl (sub_cons (by kernel_rfl) rfl sub_nil)))))))) (by rw [payA_amt hun hamt]; exact HDb) | exact wx_join () (sub_cons (by kernel_rfl) rfl (sub_cons (by kernel_rfl) rfl (sub_cons (by kernel_rfl) rfl (sub_cons (by kernel_rfl) rfl (sub_cons (by kernel_rfl) rfl (sub_cons (by kernel_rfl) rfl (sub_cons (by kernel_rfl) rfl (sub_cons (by kernel_rfl) rfl sub_nil)))))))) (by rw [payA_ok hun hamt, List.append_nil]; exact HDc)
    intro _ w6 HD6
    obtain ⟨m11, m12, m13, m14⟩ := hcell w6 HD6.1.2.2.1
    have p0 := HD6.2.at_ 0 rfl
    have p5 := HD6.2.at_ 5 rfl
    have p6 := HD6.2.at_ 6 rfl
    refine wc_seq ?_
    refine wc_region ?_
    refine wl_val 89 (by kernel_rfl) ((op_fieldL (m := 14) (k := 14) rfl (by kernel_rfl) rfl)) ?_
    refine wl_val 90 (by kernel_rfl) ((op_load rfl (by kernel_rfl) (by assumption))) ?_
    refine wl_val 91 (by kernel_rfl) ((op_makeFuncC [.pointer (some ⟨_, _, _⟩)] rfl)) ?_
    refine wl_call 92 (by kernel_rfl) (op_call (by kernel_rfl)) (idxPayout (fun y => decide (y.serial = x.serial)) 36 [.pointer (some ⟨g, 0, none⟩)] _ pac l _ (by kernel_rfl) (rd_up hPa HD6.1.1) (fun y cs w9 _ hR hb9 => by
        obtain ⟨rfl, _⟩ := hR
        exact dep1_any y x.serial _ _ ((HD6.2.below hb9 HD6.2.lt).at_ 0 rfl))) ?_
    rintro e w7 ⟨rfl, hb7⟩
    obtain ⟨hix, hik⟩ := firstSer_self hx
    rw [hix]
    have HD7 := HD6.later hb7
    clear m11 m12 m13 m14 p0 p5 p6
    clear HD6 hb7
    refine ⟨_, rfl, ?_⟩
    refine wl_val 10 (by kernel_rfl) ((op_assign (v := .int .i64 _) rfl)) ?_
    refine wl_nil ?_
    refine wx_next ?_
    refine wc_seqJ (σ := Unit) (fun _ => [(1, .pointer (some ⟨w.heap.size, 0, none⟩)), (4, .pointer (some ⟨w.heap.size + 1, 0, none⟩)), (5, .func (.func 45) #[] #[.pointer (some ⟨w.heap.size + 1 + 1, 0, none⟩)]), (35, .slice (some ⟨pb, pf, none⟩) l.length pac), (36, .int .i64 l.length), (37, .int .i64 k), (6, .int .i64 k), (7, .pointer (some ⟨g, 0, none⟩))]) (fun _ wr => DSt w w.heap.size BK (depF sl pl cl l k ++ payA sl pl k x ++ payB l k x) g x wr) ?_ ?_
    · skip
      refine wc_seq ?_
      refine wc_region ?_
      refine wl_val 93 (by kernel_rfl) ((op_move (v := .int .i64 _) rfl)) ?_
      refine wl_val 94 (by kernel_rfl) ((op_move (v := .int .i64 _) rfl)) ?_
      refine wl_val 95 (by kernel_rfl) ((op_lss rfl rfl)) ?_
      refine wl_nil ?_
      refine wx_next ?_
      refine wc_cond (by kernel_rfl) rfl (fun h7 => ?_) (fun h7 => ?_)
      · skip
        have hsi : firstSer l x < k := by have := of_decide_eq_true h7; omega
        refine wc_region ?_
        refine wl_val 96 (by kernel_rfl) ((op_move (v := .func _ _ _) rfl)) ?_
        refine wl_val 97 (by kernel_rfl) ((op_move (v := .int .i64 _) rfl)) ?_
        refine wl_val 98 (by kernel_rfl) ((op_move (v := .int .i64 _) rfl)) ?_
        refine wl_call 99 (by kernel_rfl) (op_callv rfl (by kernel_rfl)) (found_any _ _ _ w.heap.size (w.heap.size + 1) (w.heap.size + 1 + 1) _ _ HD7.1.out (by (try simp only [List.length_append]); omega)) ?_
        rintro e w9 ⟨rfl, ho, hkp⟩
        have HDd := HD7.found ho hkp
        clear ho hkp
        refine ⟨_, rfl, ?_⟩
        refine wl_nil ?_
        first | exact wx_join () (sub_cons (by kernel_rfl) rfl (sub_cons (by kernel_rfl) rfl (sub_cons (by kernel_rfl) rfl (sub_cons (by kernel_rfl) rfl (sub_cons (by kernel_rfl) rfl (sub_cons (by kernel_rfl) rfl (sub_cons (by kernel_rfl) rfl (sub_cons (by kernel_rfl) rfl sub_nil)))))))) (by unfold payB; rw [if_pos hsi]; exact HDd) | exact wx_join () (sub_cons (by kernel_rfl) rfl (sub_cons (by kernel_rfl) rfl (sub_cons (by kernel_rfl) rfl (sub_cons (by kernel_rfl) rfl (sub_cons (by kernel_rfl) rfl (sub_cons (by kernel_rfl) rfl (sub_cons (by kernel_rfl) rfl (sub_cons (by kernel_rfl) rfl sub_nil)))))))) (by unfold payB; rw [if_neg hsn, List.append_nil]; exact HD7)
      · skip
        have hsn : ¬ firstSer l x < k := by have := of_decide_eq_false h7; omega
        refine wc_skip ?_
        first | exact wx_join () (sub_cons (by kernel_rfl) rfl (sub_cons (by kernel_rfl) rfl (sub_cons (by kernel_rfl) rfl (sub_cons (by kernel_rfl) rfl (sub_cons (by kernel_rfl) rfl (sub_cons (by kernel_rfl) rfl (sub_cons (by kernel_rfl) rfl (sub_cons (by kernel_rfl) rfl sub_nil)))))))) (by unfold payB; rw [if_pos hsi]; exact HDd) | exact wx_join () (sub_cons (by kernel_rfl) rfl (sub_cons (by kernel_rfl) rfl (sub_cons (by kernel_rfl) rfl (sub_cons (by kernel_rfl) rfl (sub_cons (by kernel_rfl) rfl (sub_cons (by kernel_rfl) rfl (sub_cons (by kernel_rfl) rfl (sub_cons (by kernel_rfl) rfl sub_nil)))))))) (by unfold payB; rw [if_neg hsn, List.append_nil]; exact HD7)
    intro _ w8 HD8
    obtain ⟨m11, m12, m13, m14⟩ := hcell w8 HD8.1.2.2.1
    have p0 := HD8.2.at_ 0 rfl
    have p5 := HD8.2.at_ 5 rfl
    have p6 := HD8.2.at_ 6 rfl
    refine wc_seq ?_
    refine wc_region ?_
    refine wl_val 100 (by kernel_rfl) ((op_fieldL (m := 13) (k := 13) rfl (by kernel_rfl) rfl)) ?_
    refine wl_val 101 (by kernel_rfl) ((op_load rfl (by kernel_rfl) (by assumption))) ?_
    refine wl_val 102 (by kernel_rfl) ((op_fieldL (m := 0) (k := 0) rfl (by kernel_rfl) rfl)) ?_
    refine wl_val 103 (by kernel_rfl) (op_loadR (clC x.claim) rfl (by kernel_rfl) (fun j u hu => by
      have hj : j < 5 := (List.getElem?_eq_some_iff.1 hu).1
      have : (paC x)[j]? = some u := by
        match j, hj with
        | 0, _ => exact hu
        | 1, _ => exact hu
        | 2, _ => exact hu
        | 3, _ => exact hu
        | 4, _ => exact hu
      simpa using HD8.2.at_ j this)) ?_
    refine wl_call 104 (by kernel_rfl) (op_call (by kernel_rfl)) (hasClaim_any clA clc cl x.claim _ (rd_up hCl HD8.1.1)) ?_
    rintro e w9 ⟨rfl, hb9⟩
    have HD9a := HD8.later hb9
    clear m11 m12 m13 m14 p0 p5 p6
    clear HD8 hb9
    have HD8 := HD9a
    clear HD9a
    refine ⟨_, rfl, ?_⟩
    refine wl_val 105 (by kernel_rfl) ((op_not rfl)) ?_
    refine wl_nil ?_
    refine wx_next ?_
    refine wc_cond (by kernel_rfl) rfl (fun h8 => ?_) (fun h8 => ?_)
    · skip
      have hhas : cl.any (clEq x.claim) = false := by simpa using h8
      refine wc_region ?_
      refine wl_val 106 (by kernel_rfl) ((op_move (v := .func _ _ _) rfl)) ?_
      refine wl_val 107 (by kernel_rfl) ((op_move (v := .int .i64 _) rfl)) ?_
      refine wl_call 108 (by kernel_rfl) (op_callv rfl (by kernel_rfl)) (found_any _ _ _ w.heap.size (w.heap.size + 1) (w.heap.size + 1 + 1) _ _ HD8.1.out (by (try simp only [List.length_append]); omega)) ?_
      rintro e w10 ⟨rfl, ho, hkp⟩
      have HD9 := HD8.found ho hkp
      clear ho hkp
      refine ⟨_, rfl, ?_⟩
      refine wl_nil ?_
      refine wx_inN ?_
      refine wx_next ?_
      refine wc_region ?_
      refine wl_val 109 (by kernel_rfl) ((op_add rfl rfl (by omega))) ?_
      refine wl_val 37 (by kernel_rfl) ((op_move (v := .int .i64 _) rfl)) ?_
      refine wl_nil ?_
      refine wx_round (k + 1) (sub_cons (by kernel_rfl) rfl (sub_cons (by kernel_rfl) rfl (sub_cons (by kernel_rfl) rfl (sub_cons (by kernel_rfl) rfl (sub_cons (by kernel_rfl) rfl (sub_cons (by kernel_rfl) rfl sub_nil)))))) ⟨hlt, ?_⟩ (by omega)
      rw [depF_in hx]
      unfold payStep payC
      rw [← List.append_assoc, ← List.append_assoc]
      first | (rw [hhas]; exact HD9.1) | (rw [hhas]; simpa using HD8.1)
    · skip
      have hhas : cl.any (clEq x.claim) = true := by simpa using h8
      refine wc_skip ?_
      refine wx_inN ?_
      refine wx_next ?_
      refine wc_region ?_
      refine wl_val 109 (by kernel_rfl) ((op_add rfl rfl (by omega))) ?_
      refine wl_val 37 (by kernel_rfl) ((op_move (v := .int .i64 _) rfl)) ?_
      refine wl_nil ?_
      refine wx_round (k + 1) (sub_cons (by kernel_rfl) rfl (sub_cons (by kernel_rfl) rfl (sub_cons (by kernel_rfl) rfl (sub_cons (by kernel_rfl) rfl (sub_cons (by kernel_rfl) rfl (sub_cons (by kernel_rfl) rfl sub_nil)))))) ⟨hlt, ?_⟩ (by omega)
      rw [depF_in hx]
      unfold payStep payC
      rw [← List.append_assoc, ← List.append_assoc]
      first | (rw [hhas]; exact HD9.1) | (rw [hhas]; simpa using HD8.1)
  · skip
    have hge : k = l.length := by have := of_decide_eq_false h1; omega
    subst hge
    obtain ⟨hb1, hl1, v, ho1, hown⟩ := HS.out
    have cv := ho1.at_ 0 rfl
    refine wc_exit ?_
    refine wx_thenE ?_
    refine wx_thenE ?_
    refine wx_here ?_
    refine wx_next ?_
    refine wc_seq ?_
    refine wc_region ?_
    refine wl_val 110 (by kernel_rfl) ((op_load rfl (by kernel_rfl) (by assumption))) ?_
    refine wl_val 2 (by kernel_rfl) ((op_assign (v := _) rfl)) ?_
    refine wl_val 3 (by kernel_rfl) ((op_assign (v := .int .i64 _) rfl)) ?_
    refine wl_nil ?_
    refine wx_next ?_
    refine wc_ret ?_
    refine wx_ret2 rfl (by kernel_rfl) (show _ = _ from rfl) (by kernel_rfl) (show _ = .int .i64 _ from rfl) ?_
    exact ⟨v, rfl, hown, HS.1⟩
end Go.Proofs.YtahnplemladjeaaDoor
