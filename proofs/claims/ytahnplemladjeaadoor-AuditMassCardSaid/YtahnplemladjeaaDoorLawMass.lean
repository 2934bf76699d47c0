/- recyclinglaw59.AuditMass returns true at all books. -/
import Derived.Test.YtahnplemladjeaaDoorLawMassOf
import Derived.Test.YtahnplemladjeaaDoorRefMassW
import Derived.Test.YtahnplemladjeaaDoorMassWalk
namespace Go.Proofs.YtahnplemladjeaaDoor
open Go.RowKit

set_option maxRecDepth 10000 in
theorem massN_full (now hh cc as_ em ta gap ins bins pr sa cl pa co fe bi po : Value) (trA : Option Addr) (trn trc : Nat) (baA : Option Addr) (ban bac : Nat) (w : World) (hfull : 512 < trn ∨ 64 < ban) :
    Calls Tryd.prog 12 #[.agg #[now, hh, cc, as_, em, ta, gap, .slice trA trn trc, ins, bins, .slice baA ban bac, pr, sa, cl, pa, co, fe, bi, po]] w fun e w' => e = .returned (.tuple #[.slice none 0 0, .int .i64 8]) ∧ Below w.heap.size w w' := by
  by_cases q0 : 512 < trn
  · skip
    refine calls_wc (n := 223) Tryd.func12 rfl rfl (Nat.le_of_ble_eq_true rfl) ?_
    refine wc_seq ?_
    refine wc_region ?_
    refine wl_new 1 (by kernel_rfl) (op_boxA rfl) ?_
    intro w1 hw1
    have hb := Blk.new w 40 [now, hh, cc, as_, em, ta, gap, .slice trA trn trc, ins, bins, .slice baA ban bac, pr, sa, cl, pa, co, fe, bi, po]
    rw [← hw1] at hb
    have c7 := hb.at_ 7 rfl
    have c10 := hb.at_ 10 rfl
    refine wl_val 2 (by kernel_rfl) ((op_assign (v := .slice _ _ _) rfl)) ?_
    refine wl_val 3 (by kernel_rfl) ((op_assign (v := .int .i64 _) rfl)) ?_
    refine wl_nil ?_
    refine wx_next ?_
    refine wc_seq ?_
    refine wc_seq ?_
    refine wc_region ?_
    refine wl_val 20 (by kernel_rfl) ((op_fieldL (m := 7) (k := 7) rfl (by kernel_rfl) rfl)) ?_
    refine wl_val 21 (by kernel_rfl) ((op_load rfl (by kernel_rfl) (by assumption))) ?_
    refine wl_val 22 (by kernel_rfl) ((op_len rfl (by kernel_rfl))) ?_
    refine wl_val 23 (by kernel_rfl) (op_t (op_gtr rfl rfl) (by omega)) ?_
    refine wl_val 24 (by kernel_rfl) ((op_move (v := .bool true) rfl)) ?_
    refine wl_skip 25 (by kernel_rfl) ?_
    refine wl_skip 26 (by kernel_rfl) ?_
    refine wl_skip 27 (by kernel_rfl) ?_
    refine wl_skip 28 (by kernel_rfl) ?_
    refine wl_val 29 (by kernel_rfl) ((op_pick_t (v := .bool true) rfl rfl)) ?_
    refine wl_nil ?_
    refine wx_next ?_
    refine wc_cond_t (by kernel_rfl) rfl ?_
    refine wc_seq ?_
    refine wc_region ?_
    refine wl_val 2 (by kernel_rfl) ((op_assign (v := .slice _ _ _) rfl)) ?_
    refine wl_val 3 (by kernel_rfl) ((op_assign (v := .int .i64 _) rfl)) ?_
    refine wl_nil ?_
    refine wx_next ?_
    refine wc_ret ?_
    refine wx_thenR ?_
    refine wx_ret2 rfl (by kernel_rfl) (show _ = .slice _ _ _ from rfl) (by kernel_rfl) (show _ = .int .i64 _ from rfl) ?_
    exact ⟨rfl, by rw [hw1]; exact (Below.refl _ _).alloc (Nat.le_refl _) _⟩
  refine calls_wc (n := 223) Tryd.func12 rfl rfl (Nat.le_of_ble_eq_true rfl) ?_
  refine wc_seq ?_
  refine wc_region ?_
  refine wl_new 1 (by kernel_rfl) (op_boxA rfl) ?_
  intro w1 hw1
  have hb := Blk.new w 40 [now, hh, cc, as_, em, ta, gap, .slice trA trn trc, ins, bins, .slice baA ban bac, pr, sa, cl, pa, co, fe, bi, po]
  rw [← hw1] at hb
  have c7 := hb.at_ 7 rfl
  have c10 := hb.at_ 10 rfl
  refine wl_val 2 (by kernel_rfl) ((op_assign (v := .slice _ _ _) rfl)) ?_
  refine wl_val 3 (by kernel_rfl) ((op_assign (v := .int .i64 _) rfl)) ?_
  refine wl_nil ?_
  refine wx_next ?_
  refine wc_seq ?_
  refine wc_seq ?_
  refine wc_region ?_
  refine wl_val 20 (by kernel_rfl) ((op_fieldL (m := 7) (k := 7) rfl (by kernel_rfl) rfl)) ?_
  refine wl_val 21 (by kernel_rfl) ((op_load rfl (by kernel_rfl) (by assumption))) ?_
  refine wl_val 22 (by kernel_rfl) ((op_len rfl (by kernel_rfl))) ?_
  refine wl_val 23 (by kernel_rfl) (op_f (op_gtr rfl rfl) (by omega)) ?_
  refine wl_val 24 (by kernel_rfl) ((op_move (v := .bool false) rfl)) ?_
  refine wl_val 25 (by kernel_rfl) ((op_fieldL (m := 10) (k := 10) rfl (by kernel_rfl) rfl)) ?_
  refine wl_val 26 (by kernel_rfl) ((op_load rfl (by kernel_rfl) (by assumption))) ?_
  refine wl_val 27 (by kernel_rfl) ((op_len rfl (by kernel_rfl))) ?_
  refine wl_val 28 (by kernel_rfl) (op_t (op_gtr rfl rfl) (by omega)) ?_
  refine wl_val 29 (by kernel_rfl) ((op_pick_f (v := .bool true) rfl rfl)) ?_
  refine wl_nil ?_
  refine wx_next ?_
  refine wc_cond_t (by kernel_rfl) rfl ?_
  refine wc_seq ?_
  refine wc_region ?_
  refine wl_val 2 (by kernel_rfl) ((op_assign (v := .slice _ _ _) rfl)) ?_
  refine wl_val 3 (by kernel_rfl) ((op_assign (v := .int .i64 _) rfl)) ?_
  refine wl_nil ?_
  refine wx_next ?_
  refine wc_ret ?_
  refine wx_thenR ?_
  refine wx_ret2 rfl (by kernel_rfl) (show _ = .slice _ _ _ from rfl) (by kernel_rfl) (show _ = .int .i64 _ from rfl) ?_
  exact ⟨rfl, by rw [hw1]; exact (Below.refl _ _).alloc (Nat.le_refl _) _⟩
theorem lawMass_any (now hh cc as_ em ta gap pr sa cl pa co fe bi po : Value) (trA : Option Addr) (c : Nat) (ts : List Tr) (baA : Option Addr) (cb : Nat) (bs : List Bale) (ins bins : Int) (w : World)
    (hT : Rd w w.heap.size 4 TrR trA ts) (hB : Rd w w.heap.size 4 (BaR w w.heap.size) baA bs) (ht : Tab w) :
    Calls Tryd.prog 3 #[.agg #[now, hh, cc, as_, em, ta, gap, .slice trA ts.length c, .int .i64 ins, .int .i64 bins, .slice baA bs.length cb, pr, sa, cl, pa, co, fe, bi, po]] w fun e w' => e = .returned (.bool true) ∧ Below w.heap.size w w' := by
  by_cases hfull : 512 < ts.length ∨ 64 < bs.length
  · exact lawMass_of [now, hh, cc, as_, em, ta, gap, .slice trA ts.length c, .int .i64 ins, .int .i64 bins, .slice baA bs.length cb, pr, sa, cl, pa, co, fe, bi, po] rfl [] 8 w ht (fun w' _ => finds_full (refMassN_full _ _ _ _ _ _ _ _ _ _ _ _ _ _ _ _ _ _ _ _ _ _ _ w' hfull)) (fun w' _ => finds_full (massN_full _ _ _ _ _ _ _ _ _ _ _ _ _ _ _ _ _ _ _ _ _ _ _ w' hfull))
  · exact lawMass_of [now, hh, cc, as_, em, ta, gap, .slice trA ts.length c, .int .i64 ins, .int .i64 bins, .slice baA bs.length cb, pr, sa, cl, pa, co, fe, bi, po] rfl (massF ts ins bins bs) 0 w ht
      (fun w' hb => refMass_any _ _ _ _ _ _ _ _ _ _ _ _ _ _ _ _ _ ts (by omega) _ _ bs (by omega) ins bins w' (rd_later hT hb) (bal_later hB hb)) (fun w' hb => mass_any _ _ _ _ _ _ _ _ _ _ _ _ _ _ _ _ _ ts (by omega) _ _ bs (by omega) ins bins w' (rd_later hT hb) (bal_later hB hb))
end Go.Proofs.YtahnplemladjeaaDoor
