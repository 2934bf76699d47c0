/- Models of functions, and that the code follows them. Written by deco.py. -/
import Derived.Test.YtimmifkdocjljaaAucAwake
namespace Go.Proofs.Ytimmifkdocjljaa
open Go.RowKit

/-- recyclinglaw51.AuctionTruthful -/
def m_recyclinglaw51_AuctionTruthful (N : Nat) (p0 : (List ApiBid)) (p1 : Int) (p2 : Arr4Int) : Option (Bool) :=
  (if ((decide (60 < (List.length p0 : Int))) || (decide ((List.length p0 : Int) = 0))) = true then
    Option.bind (m_recyclinglaw51_awake N) fun r4 => some (r4)
  else
    ck (I64 p1) (
      ck (0 < (List.length p0 : Int) ∧ I64 p1) (
        ck ((List.length ([] : List ApiBid) + List.length p0) * 24 ≤ 140737488355328) (
          ck ((0 : Int) ≤ (Int.tmod p1 (List.length p0 : Int)) ∧ (Int.tmod p1 (List.length p0 : Int)) < (List.length (([] : List ApiBid) ++ p0) : Int)) (
            ck ((0 : Int) ≤ (Int.tmod p1 (List.length p0 : Int)) ∧ (Int.tmod p1 (List.length p0 : Int)) < (List.length (List.set (([] : List ApiBid) ++ p0) (Int.toNat (Int.tmod p1 (List.length p0 : Int))) (ApiBid.mk ((ix (([] : List ApiBid) ++ p0) (Int.tmod p1 (List.length p0 : Int))).Bidder) ((ix (([] : List ApiBid) ++ p0) (Int.tmod p1 (List.length p0 : Int))).Price) 1)) : Int)) (
              ck ((List.length ([] : List ApiBid) + List.length (List.set (List.set (([] : List ApiBid) ++ p0) (Int.toNat (Int.tmod p1 (List.length p0 : Int))) (ApiBid.mk ((ix (([] : List ApiBid) ++ p0) (Int.tmod p1 (List.length p0 : Int))).Bidder) ((ix (([] : List ApiBid) ++ p0) (Int.tmod p1 (List.length p0 : Int))).Price) 1)) (Int.toNat (Int.tmod p1 (List.length p0 : Int))) (ApiBid.mk ((ix (List.set (([] : List ApiBid) ++ p0) (Int.toNat (Int.tmod p1 (List.length p0 : Int))) (ApiBid.mk ((ix (([] : List ApiBid) ++ p0) (Int.tmod p1 (List.length p0 : Int))).Bidder) ((ix (([] : List ApiBid) ++ p0) (Int.tmod p1 (List.length p0 : Int))).Price) 1)) (Int.tmod p1 (List.length p0 : Int))).Bidder) p2.E0 ((ix (List.set (([] : List ApiBid) ++ p0) (Int.toNat (Int.tmod p1 (List.length p0 : Int))) (ApiBid.mk ((ix (([] : List ApiBid) ++ p0) (Int.tmod p1 (List.length p0 : Int))).Bidder) ((ix (([] : List ApiBid) ++ p0) (Int.tmod p1 (List.length p0 : Int))).Price) 1)) (Int.tmod p1 (List.length p0 : Int))).Count)))) * 24 ≤ 140737488355328) (
                ck ((0 : Int) ≤ (Int.tmod p1 (List.length p0 : Int)) ∧ (Int.tmod p1 (List.length p0 : Int)) < (List.length (([] : List ApiBid) ++ (List.set (List.set (([] : List ApiBid) ++ p0) (Int.toNat (Int.tmod p1 (List.length p0 : Int))) (ApiBid.mk ((ix (([] : List ApiBid) ++ p0) (Int.tmod p1 (List.length p0 : Int))).Bidder) ((ix (([] : List ApiBid) ++ p0) (Int.tmod p1 (List.length p0 : Int))).Price) 1)) (Int.toNat (Int.tmod p1 (List.length p0 : Int))) (ApiBid.mk ((ix (List.set (([] : List ApiBid) ++ p0) (Int.toNat (Int.tmod p1 (List.length p0 : Int))) (ApiBid.mk ((ix (([] : List ApiBid) ++ p0) (Int.tmod p1 (List.length p0 : Int))).Bidder) ((ix (([] : List ApiBid) ++ p0) (Int.tmod p1 (List.length p0 : Int))).Price) 1)) (Int.tmod p1 (List.length p0 : Int))).Bidder) p2.E0 ((ix (List.set (([] : List ApiBid) ++ p0) (Int.toNat (Int.tmod p1 (List.length p0 : Int))) (ApiBid.mk ((ix (([] : List ApiBid) ++ p0) (Int.tmod p1 (List.length p0 : Int))).Bidder) ((ix (([] : List ApiBid) ++ p0) (Int.tmod p1 (List.length p0 : Int))).Price) 1)) (Int.tmod p1 (List.length p0 : Int))).Count)))) : Int)) (
                  Option.bind (m_auction_Run N (List.set (List.set (([] : List ApiBid) ++ p0) (Int.toNat (Int.tmod p1 (List.length p0 : Int))) (ApiBid.mk ((ix (([] : List ApiBid) ++ p0) (Int.tmod p1 (List.length p0 : Int))).Bidder) ((ix (([] : List ApiBid) ++ p0) (Int.tmod p1 (List.length p0 : Int))).Price) 1)) (Int.toNat (Int.tmod p1 (List.length p0 : Int))) (ApiBid.mk ((ix (List.set (([] : List ApiBid) ++ p0) (Int.toNat (Int.tmod p1 (List.length p0 : Int))) (ApiBid.mk ((ix (([] : List ApiBid) ++ p0) (Int.tmod p1 (List.length p0 : Int))).Bidder) ((ix (([] : List ApiBid) ++ p0) (Int.tmod p1 (List.length p0 : Int))).Price) 1)) (Int.tmod p1 (List.length p0 : Int))).Bidder) p2.E0 ((ix (List.set (([] : List ApiBid) ++ p0) (Int.toNat (Int.tmod p1 (List.length p0 : Int))) (ApiBid.mk ((ix (([] : List ApiBid) ++ p0) (Int.tmod p1 (List.length p0 : Int))).Bidder) ((ix (([] : List ApiBid) ++ p0) (Int.tmod p1 (List.length p0 : Int))).Price) 1)) (Int.tmod p1 (List.length p0 : Int))).Count))) p2.E2 p2.E3) fun r27 => Option.bind (m_auction_Run N (List.set (([] : List ApiBid) ++ (List.set (List.set (([] : List ApiBid) ++ p0) (Int.toNat (Int.tmod p1 (List.length p0 : Int))) (ApiBid.mk ((ix (([] : List ApiBid) ++ p0) (Int.tmod p1 (List.length p0 : Int))).Bidder) ((ix (([] : List ApiBid) ++ p0) (Int.tmod p1 (List.length p0 : Int))).Price) 1)) (Int.toNat (Int.tmod p1 (List.length p0 : Int))) (ApiBid.mk ((ix (List.set (([] : List ApiBid) ++ p0) (Int.toNat (Int.tmod p1 (List.length p0 : Int))) (ApiBid.mk ((ix (([] : List ApiBid) ++ p0) (Int.tmod p1 (List.length p0 : Int))).Bidder) ((ix (([] : List ApiBid) ++ p0) (Int.tmod p1 (List.length p0 : Int))).Price) 1)) (Int.tmod p1 (List.length p0 : Int))).Bidder) p2.E0 ((ix (List.set (([] : List ApiBid) ++ p0) (Int.toNat (Int.tmod p1 (List.length p0 : Int))) (ApiBid.mk ((ix (([] : List ApiBid) ++ p0) (Int.tmod p1 (List.length p0 : Int))).Bidder) ((ix (([] : List ApiBid) ++ p0) (Int.tmod p1 (List.length p0 : Int))).Price) 1)) (Int.tmod p1 (List.length p0 : Int))).Count)))) (Int.toNat (Int.tmod p1 (List.length p0 : Int))) (ApiBid.mk ((ix (([] : List ApiBid) ++ (List.set (List.set (([] : List ApiBid) ++ p0) (Int.toNat (Int.tmod p1 (List.length p0 : Int))) (ApiBid.mk ((ix (([] : List ApiBid) ++ p0) (Int.tmod p1 (List.length p0 : Int))).Bidder) ((ix (([] : List ApiBid) ++ p0) (Int.tmod p1 (List.length p0 : Int))).Price) 1)) (Int.toNat (Int.tmod p1 (List.length p0 : Int))) (ApiBid.mk ((ix (List.set (([] : List ApiBid) ++ p0) (Int.toNat (Int.tmod p1 (List.length p0 : Int))) (ApiBid.mk ((ix (([] : List ApiBid) ++ p0) (Int.tmod p1 (List.length p0 : Int))).Bidder) ((ix (([] : List ApiBid) ++ p0) (Int.tmod p1 (List.length p0 : Int))).Price) 1)) (Int.tmod p1 (List.length p0 : Int))).Bidder) p2.E0 ((ix (List.set (([] : List ApiBid) ++ p0) (Int.toNat (Int.tmod p1 (List.length p0 : Int))) (ApiBid.mk ((ix (([] : List ApiBid) ++ p0) (Int.tmod p1 (List.length p0 : Int))).Bidder) ((ix (([] : List ApiBid) ++ p0) (Int.tmod p1 (List.length p0 : Int))).Price) 1)) (Int.tmod p1 (List.length p0 : Int))).Count)))) (Int.tmod p1 (List.length p0 : Int))).Bidder) p2.E1 ((ix (([] : List ApiBid) ++ (List.set (List.set (([] : List ApiBid) ++ p0) (Int.toNat (Int.tmod p1 (List.length p0 : Int))) (ApiBid.mk ((ix (([] : List ApiBid) ++ p0) (Int.tmod p1 (List.length p0 : Int))).Bidder) ((ix (([] : List ApiBid) ++ p0) (Int.tmod p1 (List.length p0 : Int))).Price) 1)) (Int.toNat (Int.tmod p1 (List.length p0 : Int))) (ApiBid.mk ((ix (List.set (([] : List ApiBid) ++ p0) (Int.toNat (Int.tmod p1 (List.length p0 : Int))) (ApiBid.mk ((ix (([] : List ApiBid) ++ p0) (Int.tmod p1 (List.length p0 : Int))).Bidder) ((ix (([] : List ApiBid) ++ p0) (Int.tmod p1 (List.length p0 : Int))).Price) 1)) (Int.tmod p1 (List.length p0 : Int))).Bidder) p2.E0 ((ix (List.set (([] : List ApiBid) ++ p0) (Int.toNat (Int.tmod p1 (List.length p0 : Int))) (ApiBid.mk ((ix (([] : List ApiBid) ++ p0) (Int.tmod p1 (List.length p0 : Int))).Bidder) ((ix (([] : List ApiBid) ++ p0) (Int.tmod p1 (List.length p0 : Int))).Price) 1)) (Int.tmod p1 (List.length p0 : Int))).Count)))) (Int.tmod p1 (List.length p0 : Int))).Count))) p2.E2 p2.E3) fun r30 => (if ((decide (r27.2 ≠ 0)) || (decide (r30.2 ≠ 0))) = true then
                    Option.bind (m_recyclinglaw51_awake N) fun r35 => some (r35)
                  else
                    Option.bind (m_auction_Gain N r27.1 (Int.tmod p1 (List.length p0 : Int)) p2.E0) fun r37 => Option.bind (m_auction_Gain N r30.1 (Int.tmod p1 (List.length p0 : Int)) p2.E0) fun r39 => callIf (((((decide (r37.2 = 0)) && (decide (r39.2 = 0))) && (decide (r39.1 ≤ r37.1))) && (decide (0 ≤ r37.1))) = true) (m_recyclinglaw51_awake N) fun r41 => some ((((((decide (r37.2 = 0)) && (decide (r39.2 = 0))) && (decide (r39.1 ≤ r37.1))) && (decide (0 ≤ r37.1))) && r41)))))))))))
set_option maxRecDepth 20000 in
theorem m_recyclinglaw51_AuctionTruthful_ok (N : Nat) (w0 : World) (p0 : (List ApiBid)) (p1 : Int) (p2 : Arr4Int) (A_p0 : Option Addr) (n_p0 c_p0 : Nat) (hr_p0 : RdE w0 3 encApiBid A_p0 p0) (hz_p0 : SW A_p0 n_p0 c_p0 (List.length p0)) (r : Bool) (hr : m_recyclinglaw51_AuctionTruthful N p0 p1 p2 = some r) :
    Calls Try.prog 7 [.slice A_p0 n_p0 c_p0, .int .u8 p1, .agg #[.int .i64 p2.E0, .int .i64 p2.E1, .int .i64 p2.E2, .int .i64 p2.E3]].toArray w0 fun x w1 => ∃ u, x = .returned ((fun (r : Bool) (_u : Unit) => .bool r) r u) ∧ Hs w0 ((fun (_r : Bool) (_u : Unit) => []) r u) w1 := by
  refine calls_cm (n := 117) (R := fun r x w1 => ∃ u, x = .returned ((fun (r : Bool) (_u : Unit) => .bool r) r u) ∧ Hs w0 ((fun (_r : Bool) (_u : Unit) => []) r u) w1) Try.func7 rfl rfl (Nat.le_of_ble_eq_true rfl) ?_ r hr
  unfold m_recyclinglaw51_AuctionTruthful
  refine cm_seq ?_
  refine cm_region ?_
  refine lm_box 5 [.int .i64 _, .int .i64 _, .int .i64 _, .int .i64 _] (by kernel_rfl) rfl ?_
  intro b1
  refine lm_val 6 (by kernel_rfl) (fun w1 c1 => (op_assign (v := .bool false) rfl)) ?_
  refine lm_nil ?_
  refine xm_next ?_
  refine cm_seq ?_
  refine cm_seq ?_
  refine cm_cutE [(29, .bool ((decide (60 < (List.length p0 : Int))) || (decide ((List.length p0 : Int) = 0))))] ?_ ?_
  · skip
    refine wq_val 22 (by kernel_rfl) (fun w1 c1 => (op_move (v := .slice _ _ _) rfl)) ?_
    refine wq_val 23 (by kernel_rfl) (fun w1 c1 => (op_lenN rfl (by kernel_rfl) hz_p0.2.2)) ?_
    refine wq_dec 24 (by kernel_rfl) (fun w1 c1 => (op_gtr rfl rfl)) (fun h2 => ?_) (fun h2 => ?_)
    · skip
      refine wq_val 25 (by kernel_rfl) (fun w1 c1 => (op_move (v := .bool true) rfl)) ?_
      refine wq_skip 26 (by kernel_rfl) ?_
      refine wq_skip 27 (by kernel_rfl) ?_
      refine wq_skip 28 (by kernel_rfl) ?_
      refine wq_val 29 (by kernel_rfl) (fun w1 c1 => (op_pick_t (v := .bool true) rfl rfl)) ?_
      exact leaf_q (sub_out 8 _ rfl (by kernel_rfl) ⟨(congrArg Value.bool (by rw [decide_eq_true h2] <;> rfl)), trivial⟩)
    · skip
      refine wq_val 25 (by kernel_rfl) (fun w1 c1 => (op_move (v := .bool false) rfl)) ?_
      refine wq_val 26 (by kernel_rfl) (fun w1 c1 => (op_move (v := .slice _ _ _) rfl)) ?_
      refine wq_val 27 (by kernel_rfl) (fun w1 c1 => (op_lenN rfl (by kernel_rfl) hz_p0.2.2)) ?_
      refine wq_val 28 (by kernel_rfl) (fun w1 c1 => (op_eql rfl rfl)) ?_
      refine wq_val 29 (by kernel_rfl) (fun w1 c1 => (op_pick_f (v := .bool _) rfl rfl)) ?_
      exact leaf_q (sub_out 8 _ rfl (by kernel_rfl) ⟨(congrArg Value.bool (by rw [decide_eq_false h2] <;> rfl)), trivial⟩)
  refine xm_next ?_
  refine cm_condB (by kernel_rfl) rfl (fun h3 => ?_) (fun h3 => ?_)
  · skip
    refine cm_seq ?_
    refine cm_region ?_
    refine lm_call 30 (V := (fun (r : Bool) (_u : Unit) => .bool r)) (HR := (fun (_r : Bool) (_u : Unit) => [])) (by kernel_rfl) (fun w1 => op_call (by kernel_rfl)) (fun r1 hr1 w1 c1 => m_recyclinglaw51_awake_ok N w1   r1 hr1) ?_
    intro r4 u5
    refine lm_val 6 (by kernel_rfl) (fun w1 c1 => (op_assign (v := .bool _) rfl)) ?_
    refine lm_nil ?_
    refine xm_next ?_
    refine cm_ret ?_
    refine xm_thenR ?_
    exact xm_retT rfl (by kernel_rfl) (show _ = Value.bool _ from rfl) fun w1 c1 => ⟨(), rfl, hsub [] (by kernel_rfl) rfl w1 c1⟩
  · skip
    refine cm_skip ?_
    refine xm_next ?_
    refine cm_seq ?_
    refine cm_drawn [(7, .int .i64 p2.E0), (8, .int .i64 p2.E1), (9, .int .i64 p2.E2), (10, .int .i64 p2.E3)] (by kernel_rfl) (by kernel_rfl) ?_ ?_
    · skip
      refine wq_val 31 (by kernel_rfl) (fun w1 c1 => (op_indexArr (len := 4) (sz := 1) (k := 0) 0 rfl rfl rfl (by kernel_rfl) (by kernel_rfl) rfl)) ?_
      refine wq_val 32 (by kernel_rfl) (fun w1 c1 => (op_load rfl (by kernel_rfl) (c1.cell 0 (u := .int .i64 _) rfl rfl))) ?_
      refine wq_val 33 (by kernel_rfl) (fun w1 c1 => (op_indexArr (len := 4) (sz := 1) (k := 1) 1 rfl rfl rfl (by kernel_rfl) (by kernel_rfl) rfl)) ?_
      refine wq_val 34 (by kernel_rfl) (fun w1 c1 => (op_load rfl (by kernel_rfl) (c1.cell 0 (u := .int .i64 _) rfl rfl))) ?_
      refine wq_val 35 (by kernel_rfl) (fun w1 c1 => (op_indexArr (len := 4) (sz := 1) (k := 2) 2 rfl rfl rfl (by kernel_rfl) (by kernel_rfl) rfl)) ?_
      refine wq_val 36 (by kernel_rfl) (fun w1 c1 => (op_load rfl (by kernel_rfl) (c1.cell 0 (u := .int .i64 _) rfl rfl))) ?_
      refine wq_val 37 (by kernel_rfl) (fun w1 c1 => (op_indexArr (len := 4) (sz := 1) (k := 3) 3 rfl rfl rfl (by kernel_rfl) (by kernel_rfl) rfl)) ?_
      refine wq_val 38 (by kernel_rfl) (fun w1 c1 => (op_load rfl (by kernel_rfl) (c1.cell 0 (u := .int .i64 _) rfl rfl))) ?_
      refine wq_val 7 (by kernel_rfl) (fun w1 c1 => (op_assign (v := .int .i64 _) rfl)) ?_
      refine wq_val 8 (by kernel_rfl) (fun w1 c1 => (op_assign (v := .int .i64 _) rfl)) ?_
      refine wq_val 9 (by kernel_rfl) (fun w1 c1 => (op_assign (v := .int .i64 _) rfl)) ?_
      refine wq_val 10 (by kernel_rfl) (fun w1 c1 => (op_assign (v := .int .i64 _) rfl)) ?_
      exact leaf_q (sub_out 12 _ rfl (by kernel_rfl) ⟨rfl, rfl, rfl, rfl, trivial⟩)
    refine xm_next ?_
    refine cm_seq ?_
    refine cm_region ?_
    refine lm_val 39 (by kernel_rfl) (fun w1 c1 => (op_move (v := .int .u8 _) rfl)) ?_
    refine lm_ck (fun h6 => ?_)
    refine lm_val 40 (by kernel_rfl) (fun w1 c1 => (op_convI64 rfl (by kernel_rfl) (by kernel_rfl) h6)) ?_
    refine lm_val 41 (by kernel_rfl) (fun w1 c1 => (op_move (v := .slice _ _ _) rfl)) ?_
    refine lm_val 42 (by kernel_rfl) (fun w1 c1 => (op_lenN rfl (by kernel_rfl) hz_p0.2.2)) ?_
    refine lm_ck (fun h7 => ?_)
    refine lm_val 43 (by kernel_rfl) (fun w1 c1 => (op_rem rfl rfl h7.1 h7.2)) ?_
    refine lm_val 11 (by kernel_rfl) (fun w1 c1 => (op_assign (v := .int .i64 _) rfl)) ?_
    refine lm_nil ?_
    refine xm_next ?_
    refine cm_seq ?_
    refine cm_region ?_
    refine lm_slice0 44 (el := 44) (sz := 3) (bytes := 24) (enc := encApiBid) (by kernel_rfl) (by kernel_rfl) ?_
    intro A8 n9 k10 h11
    refine lm_val 45 (by kernel_rfl) (fun w1 c1 => (op_move (v := .slice _ _ _) rfl)) ?_
    refine lm_ck (fun h12 => ?_)
    refine lm_append 46 0 (el := 44) (sz := 3) (bytes := 24) (enc := encApiBid) (l2 := p0) (by kernel_rfl) (by kernel_rfl) encApiBid_len encApiBid_one rfl rfl rfl (fun w1 c1 => hz_p0) (fun w1 c1 => (hr_p0.old c1)) h12 ?_ (by kernel_rfl)
    intro A13 n14 k15
    refine lm_val 12 (by kernel_rfl) (fun w1 c1 => (op_assign (v := .slice _ _ _) rfl)) ?_
    refine lm_nil ?_
    refine xm_next ?_
    refine cm_seq ?_
    refine cm_region ?_
    refine lm_val 47 (by kernel_rfl) (fun w1 c1 => (op_move (v := .slice _ _ _) rfl)) ?_
    refine lm_val 48 (by kernel_rfl) (fun w1 c1 => (op_move (v := .int .i64 _) rfl)) ?_
    refine lm_ck (fun h16 => ?_)
    refine lm_val 49 (by kernel_rfl) (fun w1 c1 => (op_indexA 3 rfl rfl (by kernel_rfl) ((c1.own 0 rfl encApiBid_len).addr h16.1 h16.2) (c1.ownZ 0 rfl).2.2 h16.1 h16.2)) ?_
    refine lm_val 50 (by kernel_rfl) (fun w1 c1 => (op_field (m := 2) rfl (by kernel_rfl))) ?_
    refine lm_storeIx 0 (ApiBid.mk ((ix (([] : List ApiBid) ++ p0) (Int.tmod p1 (List.length p0 : Int))).Bidder) ((ix (([] : List ApiBid) ++ p0) (Int.tmod p1 (List.length p0 : Int))).Price) 1) 2 [.int .i64 _] (by kernel_rfl) rfl rfl (by kernel_rfl) rfl rfl rfl encApiBid_len encApiBid_one h16.1 h16.2 (by kernel_rfl) rfl ?_
    refine lm_nil ?_
    refine xm_next ?_
    refine cm_seq ?_
    refine cm_region ?_
    refine lm_val 51 (by kernel_rfl) (fun w1 c1 => (op_move (v := .slice _ _ _) rfl)) ?_
    refine lm_val 52 (by kernel_rfl) (fun w1 c1 => (op_move (v := .int .i64 _) rfl)) ?_
    refine lm_val 53 (by kernel_rfl) (fun w1 c1 => (op_move (v := .int .i64 _) rfl)) ?_
    refine lm_ck (fun h17 => ?_)
    refine lm_val 54 (by kernel_rfl) (fun w1 c1 => (op_indexA 3 rfl rfl (by kernel_rfl) ((c1.own 0 rfl encApiBid_len).addr h17.1 h17.2) (c1.ownZ 0 rfl).2.2 h17.1 h17.2)) ?_
    refine lm_val 55 (by kernel_rfl) (fun w1 c1 => (op_field (m := 1) rfl (by kernel_rfl))) ?_
    refine lm_storeIx 0 (ApiBid.mk ((ix (List.set (([] : List ApiBid) ++ p0) (Int.toNat (Int.tmod p1 (List.length p0 : Int))) (ApiBid.mk ((ix (([] : List ApiBid) ++ p0) (Int.tmod p1 (List.length p0 : Int))).Bidder) ((ix (([] : List ApiBid) ++ p0) (Int.tmod p1 (List.length p0 : Int))).Price) 1)) (Int.tmod p1 (List.length p0 : Int))).Bidder) p2.E0 ((ix (List.set (([] : List ApiBid) ++ p0) (Int.toNat (Int.tmod p1 (List.length p0 : Int))) (ApiBid.mk ((ix (([] : List ApiBid) ++ p0) (Int.tmod p1 (List.length p0 : Int))).Bidder) ((ix (([] : List ApiBid) ++ p0) (Int.tmod p1 (List.length p0 : Int))).Price) 1)) (Int.tmod p1 (List.length p0 : Int))).Count)) 1 [.int .i64 _] (by kernel_rfl) rfl rfl (by kernel_rfl) rfl rfl rfl encApiBid_len encApiBid_one h17.1 h17.2 (by kernel_rfl) rfl ?_
    refine lm_nil ?_
    refine xm_next ?_
    refine cm_seq ?_
    refine cm_region ?_
    refine lm_slice0 56 (el := 44) (sz := 3) (bytes := 24) (enc := encApiBid) (by kernel_rfl) (by kernel_rfl) ?_
    intro A18 n19 k20 h21
    refine lm_val 57 (by kernel_rfl) (fun w1 c1 => (op_move (v := .slice _ _ _) rfl)) ?_
    refine lm_ck (fun h22 => ?_)
    refine lm_append 58 0 (el := 44) (sz := 3) (bytes := 24) (enc := encApiBid) (l2 := (List.set (List.set (([] : List ApiBid) ++ p0) (Int.toNat (Int.tmod p1 (List.length p0 : Int))) (ApiBid.mk ((ix (([] : List ApiBid) ++ p0) (Int.tmod p1 (List.length p0 : Int))).Bidder) ((ix (([] : List ApiBid) ++ p0) (Int.tmod p1 (List.length p0 : Int))).Price) 1)) (Int.toNat (Int.tmod p1 (List.length p0 : Int))) (ApiBid.mk ((ix (List.set (([] : List ApiBid) ++ p0) (Int.toNat (Int.tmod p1 (List.length p0 : Int))) (ApiBid.mk ((ix (([] : List ApiBid) ++ p0) (Int.tmod p1 (List.length p0 : Int))).Bidder) ((ix (([] : List ApiBid) ++ p0) (Int.tmod p1 (List.length p0 : Int))).Price) 1)) (Int.tmod p1 (List.length p0 : Int))).Bidder) p2.E0 ((ix (List.set (([] : List ApiBid) ++ p0) (Int.toNat (Int.tmod p1 (List.length p0 : Int))) (ApiBid.mk ((ix (([] : List ApiBid) ++ p0) (Int.tmod p1 (List.length p0 : Int))).Bidder) ((ix (([] : List ApiBid) ++ p0) (Int.tmod p1 (List.length p0 : Int))).Price) 1)) (Int.tmod p1 (List.length p0 : Int))).Count)))) (by kernel_rfl) (by kernel_rfl) encApiBid_len encApiBid_one rfl rfl rfl (fun w1 c1 => (c1.ownZ 1 rfl)) (fun w1 c1 => (c1.own 1 rfl encApiBid_len)) h22 ?_ (by kernel_rfl)
    intro A23 n24 k25
    refine lm_val 13 (by kernel_rfl) (fun w1 c1 => (op_assign (v := .slice _ _ _) rfl)) ?_
    refine lm_nil ?_
    refine xm_next ?_
    refine cm_seq ?_
    refine cm_region ?_
    refine lm_val 59 (by kernel_rfl) (fun w1 c1 => (op_move (v := .slice _ _ _) rfl)) ?_
    refine lm_val 60 (by kernel_rfl) (fun w1 c1 => (op_move (v := .int .i64 _) rfl)) ?_
    refine lm_val 61 (by kernel_rfl) (fun w1 c1 => (op_move (v := .int .i64 _) rfl)) ?_
    refine lm_ck (fun h26 => ?_)
    refine lm_val 62 (by kernel_rfl) (fun w1 c1 => (op_indexA 3 rfl rfl (by kernel_rfl) ((c1.own 0 rfl encApiBid_len).addr h26.1 h26.2) (c1.ownZ 0 rfl).2.2 h26.1 h26.2)) ?_
    refine lm_val 63 (by kernel_rfl) (fun w1 c1 => (op_field (m := 1) rfl (by kernel_rfl))) ?_
    refine lm_storeIx 0 (ApiBid.mk ((ix (([] : List ApiBid) ++ (List.set (List.set (([] : List ApiBid) ++ p0) (Int.toNat (Int.tmod p1 (List.length p0 : Int))) (ApiBid.mk ((ix (([] : List ApiBid) ++ p0) (Int.tmod p1 (List.length p0 : Int))).Bidder) ((ix (([] : List ApiBid) ++ p0) (Int.tmod p1 (List.length p0 : Int))).Price) 1)) (Int.toNat (Int.tmod p1 (List.length p0 : Int))) (ApiBid.mk ((ix (List.set (([] : List ApiBid) ++ p0) (Int.toNat (Int.tmod p1 (List.length p0 : Int))) (ApiBid.mk ((ix (([] : List ApiBid) ++ p0) (Int.tmod p1 (List.length p0 : Int))).Bidder) ((ix (([] : List ApiBid) ++ p0) (Int.tmod p1 (List.length p0 : Int))).Price) 1)) (Int.tmod p1 (List.length p0 : Int))).Bidder) p2.E0 ((ix (List.set (([] : List ApiBid) ++ p0) (Int.toNat (Int.tmod p1 (List.length p0 : Int))) (ApiBid.mk ((ix (([] : List ApiBid) ++ p0) (Int.tmod p1 (List.length p0 : Int))).Bidder) ((ix (([] : List ApiBid) ++ p0) (Int.tmod p1 (List.length p0 : Int))).Price) 1)) (Int.tmod p1 (List.length p0 : Int))).Count)))) (Int.tmod p1 (List.length p0 : Int))).Bidder) p2.E1 ((ix (([] : List ApiBid) ++ (List.set (List.set (([] : List ApiBid) ++ p0) (Int.toNat (Int.tmod p1 (List.length p0 : Int))) (ApiBid.mk ((ix (([] : List ApiBid) ++ p0) (Int.tmod p1 (List.length p0 : Int))).Bidder) ((ix (([] : List ApiBid) ++ p0) (Int.tmod p1 (List.length p0 : Int))).Price) 1)) (Int.toNat (Int.tmod p1 (List.length p0 : Int))) (ApiBid.mk ((ix (List.set (([] : List ApiBid) ++ p0) (Int.toNat (Int.tmod p1 (List.length p0 : Int))) (ApiBid.mk ((ix (([] : List ApiBid) ++ p0) (Int.tmod p1 (List.length p0 : Int))).Bidder) ((ix (([] : List ApiBid) ++ p0) (Int.tmod p1 (List.length p0 : Int))).Price) 1)) (Int.tmod p1 (List.length p0 : Int))).Bidder) p2.E0 ((ix (List.set (([] : List ApiBid) ++ p0) (Int.toNat (Int.tmod p1 (List.length p0 : Int))) (ApiBid.mk ((ix (([] : List ApiBid) ++ p0) (Int.tmod p1 (List.length p0 : Int))).Bidder) ((ix (([] : List ApiBid) ++ p0) (Int.tmod p1 (List.length p0 : Int))).Price) 1)) (Int.tmod p1 (List.length p0 : Int))).Count)))) (Int.tmod p1 (List.length p0 : Int))).Count)) 1 [.int .i64 _] (by kernel_rfl) rfl rfl (by kernel_rfl) rfl rfl rfl encApiBid_len encApiBid_one h26.1 h26.2 (by kernel_rfl) rfl ?_
    refine lm_nil ?_
    refine xm_next ?_
    refine cm_seq ?_
    refine cm_region ?_
    refine lm_val 65 (by kernel_rfl) (fun w1 c1 => (op_move (v := .slice _ _ _) rfl)) ?_
    refine lm_val 66 (by kernel_rfl) (fun w1 c1 => (op_move (v := .int .i64 _) rfl)) ?_
    refine lm_val 67 (by kernel_rfl) (fun w1 c1 => (op_move (v := .int .i64 _) rfl)) ?_
    refine lm_call 68 (V := (fun (r : ApiOutcome × Int) (u : (Option Addr) × Nat × Nat) => .tuple #[.agg #[.slice u.1 u.2.1 u.2.2, .int .i64 r.1.Price], .int .i64 r.2])) (HR := (fun (r : ApiOutcome × Int) (u : (Option Addr) × Nat × Nat) => [ownE 3 1 encI u.1 u.2.1 u.2.2 r.1.Won])) (by kernel_rfl) (fun w1 => op_call (by kernel_rfl)) (fun r1 hr1 w1 c1 => m_auction_Run_ok N w1 (List.set (List.set (([] : List ApiBid) ++ p0) (Int.toNat (Int.tmod p1 (List.length p0 : Int))) (ApiBid.mk ((ix (([] : List ApiBid) ++ p0) (Int.tmod p1 (List.length p0 : Int))).Bidder) ((ix (([] : List ApiBid) ++ p0) (Int.tmod p1 (List.length p0 : Int))).Price) 1)) (Int.toNat (Int.tmod p1 (List.length p0 : Int))) (ApiBid.mk ((ix (List.set (([] : List ApiBid) ++ p0) (Int.toNat (Int.tmod p1 (List.length p0 : Int))) (ApiBid.mk ((ix (([] : List ApiBid) ++ p0) (Int.tmod p1 (List.length p0 : Int))).Bidder) ((ix (([] : List ApiBid) ++ p0) (Int.tmod p1 (List.length p0 : Int))).Price) 1)) (Int.tmod p1 (List.length p0 : Int))).Bidder) p2.E0 ((ix (List.set (([] : List ApiBid) ++ p0) (Int.toNat (Int.tmod p1 (List.length p0 : Int))) (ApiBid.mk ((ix (([] : List ApiBid) ++ p0) (Int.tmod p1 (List.length p0 : Int))).Bidder) ((ix (([] : List ApiBid) ++ p0) (Int.tmod p1 (List.length p0 : Int))).Price) 1)) (Int.tmod p1 (List.length p0 : Int))).Count))) p2.E2 p2.E3 A13 n14 k15 (c1.own 1 rfl encApiBid_len) (c1.ownZ 1 rfl) r1 hr1) ?_
    intro r27 u28
    refine lm_val 64 (by kernel_rfl) (fun w1 c1 => (op_move (v := .tuple _) rfl)) ?_
    refine lm_val 69 (by kernel_rfl) (fun w1 c1 => (op_extract (v := .agg _) rfl rfl)) ?_
    refine lm_val 70 (by kernel_rfl) (fun w1 c1 => (op_extract (v := .int .i64 _) rfl rfl)) ?_
    refine lm_alloc 14 [.slice none 0 0, .int .i64 0] (v := .agg #[.slice none 0 0, .int .i64 0]) (by kernel_rfl) (by kernel_rfl) rfl ?_
    intro b29
    refine lm_storeA 0 [.slice _ _ _, .int .i64 _] [_, _] (H' := [blkE _ _ [_, _], _, _, _, _]) (by kernel_rfl) rfl rfl (by kernel_rfl) rfl rfl (by kernel_rfl) rfl rfl ?_
    refine lm_val 15 (by kernel_rfl) (fun w1 c1 => (op_assign (v := .int .i64 _) rfl)) ?_
    refine lm_nil ?_
    refine xm_next ?_
    refine cm_seq ?_
    refine cm_region ?_
    refine lm_val 72 (by kernel_rfl) (fun w1 c1 => (op_move (v := .slice _ _ _) rfl)) ?_
    refine lm_val 73 (by kernel_rfl) (fun w1 c1 => (op_move (v := .int .i64 _) rfl)) ?_
    refine lm_val 74 (by kernel_rfl) (fun w1 c1 => (op_move (v := .int .i64 _) rfl)) ?_
    refine lm_call 75 (V := (fun (r : ApiOutcome × Int) (u : (Option Addr) × Nat × Nat) => .tuple #[.agg #[.slice u.1 u.2.1 u.2.2, .int .i64 r.1.Price], .int .i64 r.2])) (HR := (fun (r : ApiOutcome × Int) (u : (Option Addr) × Nat × Nat) => [ownE 3 1 encI u.1 u.2.1 u.2.2 r.1.Won])) (by kernel_rfl) (fun w1 => op_call (by kernel_rfl)) (fun r1 hr1 w1 c1 => m_auction_Run_ok N w1 (List.set (([] : List ApiBid) ++ (List.set (List.set (([] : List ApiBid) ++ p0) (Int.toNat (Int.tmod p1 (List.length p0 : Int))) (ApiBid.mk ((ix (([] : List ApiBid) ++ p0) (Int.tmod p1 (List.length p0 : Int))).Bidder) ((ix (([] : List ApiBid) ++ p0) (Int.tmod p1 (List.length p0 : Int))).Price) 1)) (Int.toNat (Int.tmod p1 (List.length p0 : Int))) (ApiBid.mk ((ix (List.set (([] : List ApiBid) ++ p0) (Int.toNat (Int.tmod p1 (List.length p0 : Int))) (ApiBid.mk ((ix (([] : List ApiBid) ++ p0) (Int.tmod p1 (List.length p0 : Int))).Bidder) ((ix (([] : List ApiBid) ++ p0) (Int.tmod p1 (List.length p0 : Int))).Price) 1)) (Int.tmod p1 (List.length p0 : Int))).Bidder) p2.E0 ((ix (List.set (([] : List ApiBid) ++ p0) (Int.toNat (Int.tmod p1 (List.length p0 : Int))) (ApiBid.mk ((ix (([] : List ApiBid) ++ p0) (Int.tmod p1 (List.length p0 : Int))).Bidder) ((ix (([] : List ApiBid) ++ p0) (Int.tmod p1 (List.length p0 : Int))).Price) 1)) (Int.tmod p1 (List.length p0 : Int))).Count)))) (Int.toNat (Int.tmod p1 (List.length p0 : Int))) (ApiBid.mk ((ix (([] : List ApiBid) ++ (List.set (List.set (([] : List ApiBid) ++ p0) (Int.toNat (Int.tmod p1 (List.length p0 : Int))) (ApiBid.mk ((ix (([] : List ApiBid) ++ p0) (Int.tmod p1 (List.length p0 : Int))).Bidder) ((ix (([] : List ApiBid) ++ p0) (Int.tmod p1 (List.length p0 : Int))).Price) 1)) (Int.toNat (Int.tmod p1 (List.length p0 : Int))) (ApiBid.mk ((ix (List.set (([] : List ApiBid) ++ p0) (Int.toNat (Int.tmod p1 (List.length p0 : Int))) (ApiBid.mk ((ix (([] : List ApiBid) ++ p0) (Int.tmod p1 (List.length p0 : Int))).Bidder) ((ix (([] : List ApiBid) ++ p0) (Int.tmod p1 (List.length p0 : Int))).Price) 1)) (Int.tmod p1 (List.length p0 : Int))).Bidder) p2.E0 ((ix (List.set (([] : List ApiBid) ++ p0) (Int.toNat (Int.tmod p1 (List.length p0 : Int))) (ApiBid.mk ((ix (([] : List ApiBid) ++ p0) (Int.tmod p1 (List.length p0 : Int))).Bidder) ((ix (([] : List ApiBid) ++ p0) (Int.tmod p1 (List.length p0 : Int))).Price) 1)) (Int.tmod p1 (List.length p0 : Int))).Count)))) (Int.tmod p1 (List.length p0 : Int))).Bidder) p2.E1 ((ix (([] : List ApiBid) ++ (List.set (List.set (([] : List ApiBid) ++ p0) (Int.toNat (Int.tmod p1 (List.length p0 : Int))) (ApiBid.mk ((ix (([] : List ApiBid) ++ p0) (Int.tmod p1 (List.length p0 : Int))).Bidder) ((ix (([] : List ApiBid) ++ p0) (Int.tmod p1 (List.length p0 : Int))).Price) 1)) (Int.toNat (Int.tmod p1 (List.length p0 : Int))) (ApiBid.mk ((ix (List.set (([] : List ApiBid) ++ p0) (Int.toNat (Int.tmod p1 (List.length p0 : Int))) (ApiBid.mk ((ix (([] : List ApiBid) ++ p0) (Int.tmod p1 (List.length p0 : Int))).Bidder) ((ix (([] : List ApiBid) ++ p0) (Int.tmod p1 (List.length p0 : Int))).Price) 1)) (Int.tmod p1 (List.length p0 : Int))).Bidder) p2.E0 ((ix (List.set (([] : List ApiBid) ++ p0) (Int.toNat (Int.tmod p1 (List.length p0 : Int))) (ApiBid.mk ((ix (([] : List ApiBid) ++ p0) (Int.tmod p1 (List.length p0 : Int))).Bidder) ((ix (([] : List ApiBid) ++ p0) (Int.tmod p1 (List.length p0 : Int))).Price) 1)) (Int.tmod p1 (List.length p0 : Int))).Count)))) (Int.tmod p1 (List.length p0 : Int))).Count))) p2.E2 p2.E3 A23 n24 k25 (c1.own 2 rfl encApiBid_len) (c1.ownZ 2 rfl) r1 hr1) ?_
    intro r30 u31
    refine lm_val 71 (by kernel_rfl) (fun w1 c1 => (op_move (v := .tuple _) rfl)) ?_
    refine lm_val 76 (by kernel_rfl) (fun w1 c1 => (op_extract (v := .agg _) rfl rfl)) ?_
    refine lm_val 77 (by kernel_rfl) (fun w1 c1 => (op_extract (v := .int .i64 _) rfl rfl)) ?_
    refine lm_alloc 16 [.slice none 0 0, .int .i64 0] (v := .agg #[.slice none 0 0, .int .i64 0]) (by kernel_rfl) (by kernel_rfl) rfl ?_
    intro b32
    refine lm_storeA 0 [.slice _ _ _, .int .i64 _] [_, _] (H' := [blkE _ _ [_, _], _, _, _, _, _, _]) (by kernel_rfl) rfl rfl (by kernel_rfl) rfl rfl (by kernel_rfl) rfl rfl ?_
    refine lm_val 17 (by kernel_rfl) (fun w1 c1 => (op_assign (v := .int .i64 _) rfl)) ?_
    refine lm_nil ?_
    refine xm_next ?_
    refine cm_seq ?_
    refine cm_seq ?_
    refine cm_cutE [(83, .bool ((decide (r27.2 ≠ 0)) || (decide (r30.2 ≠ 0))))] ?_ ?_
    · skip
      refine wq_val 78 (by kernel_rfl) (fun w1 c1 => (op_move (v := .int .i64 _) rfl)) ?_
      refine wq_dec 79 (by kernel_rfl) (fun w1 c1 => (op_neq rfl rfl)) (fun h33 => ?_) (fun h33 => ?_)
      · skip
        refine wq_val 80 (by kernel_rfl) (fun w1 c1 => (op_move (v := .bool true) rfl)) ?_
        refine wq_skip 81 (by kernel_rfl) ?_
        refine wq_skip 82 (by kernel_rfl) ?_
        refine wq_val 83 (by kernel_rfl) (fun w1 c1 => (op_pick_t (v := .bool true) rfl rfl)) ?_
        exact leaf_q (sub_out 6 _ rfl (by kernel_rfl) ⟨(congrArg Value.bool (by rw [decide_eq_true h33] <;> rfl)), trivial⟩)
      · skip
        refine wq_val 80 (by kernel_rfl) (fun w1 c1 => (op_move (v := .bool false) rfl)) ?_
        refine wq_val 81 (by kernel_rfl) (fun w1 c1 => (op_move (v := .int .i64 _) rfl)) ?_
        refine wq_val 82 (by kernel_rfl) (fun w1 c1 => (op_neq rfl rfl)) ?_
        refine wq_val 83 (by kernel_rfl) (fun w1 c1 => (op_pick_f (v := .bool _) rfl rfl)) ?_
        exact leaf_q (sub_out 6 _ rfl (by kernel_rfl) ⟨(congrArg Value.bool (by rw [decide_eq_false h33] <;> rfl)), trivial⟩)
    refine xm_next ?_
    refine cm_condB (by kernel_rfl) rfl (fun h34 => ?_) (fun h34 => ?_)
    · skip
      refine cm_seq ?_
      refine cm_region ?_
      refine lm_call 84 (V := (fun (r : Bool) (_u : Unit) => .bool r)) (HR := (fun (_r : Bool) (_u : Unit) => [])) (by kernel_rfl) (fun w1 => op_call (by kernel_rfl)) (fun r1 hr1 w1 c1 => m_recyclinglaw51_awake_ok N w1   r1 hr1) ?_
      intro r35 u36
      refine lm_val 6 (by kernel_rfl) (fun w1 c1 => (op_assign (v := .bool _) rfl)) ?_
      refine lm_nil ?_
      refine xm_next ?_
      refine cm_ret ?_
      refine xm_thenR ?_
      exact xm_retT rfl (by kernel_rfl) (show _ = Value.bool _ from rfl) fun w1 c1 => ⟨(), rfl, hsub [] (by kernel_rfl) rfl w1 c1⟩
    · skip
      refine cm_skip ?_
      refine xm_next ?_
      refine cm_seq ?_
      refine cm_region ?_
      refine lm_val 86 (by kernel_rfl) (fun w1 c1 => (op_loadR [.slice _ _ _, .int .i64 _] rfl (by kernel_rfl) (c1.cells 2 rfl rfl))) ?_
      refine lm_val 87 (by kernel_rfl) (fun w1 c1 => (op_move (v := .int .i64 _) rfl)) ?_
      refine lm_val 88 (by kernel_rfl) (fun w1 c1 => (op_move (v := .int .i64 _) rfl)) ?_
      refine lm_call 89 (V := (fun (r : Int × Int) (_u : Unit) => .tuple #[.int .i64 r.1, .int .i64 r.2])) (HR := (fun (_r : Int × Int) (_u : Unit) => [])) (by kernel_rfl) (fun w1 => op_call (by kernel_rfl)) (fun r1 hr1 w1 c1 => m_auction_Gain_ok N w1 r27.1 (Int.tmod p1 (List.length p0 : Int)) p2.E0 u28.1 u28.2.1 u28.2.2 (c1.own 3 rfl encI_len) (c1.ownZ 3 rfl) r1 hr1) ?_
      intro r37 u38
      refine lm_val 85 (by kernel_rfl) (fun w1 c1 => (op_move (v := .tuple _) rfl)) ?_
      refine lm_val 90 (by kernel_rfl) (fun w1 c1 => (op_extract (v := .int .i64 _) rfl rfl)) ?_
      refine lm_val 91 (by kernel_rfl) (fun w1 c1 => (op_extract (v := .int .i64 _) rfl rfl)) ?_
      refine lm_val 18 (by kernel_rfl) (fun w1 c1 => (op_assign (v := .int .i64 _) rfl)) ?_
      refine lm_val 19 (by kernel_rfl) (fun w1 c1 => (op_assign (v := .int .i64 _) rfl)) ?_
      refine lm_nil ?_
      refine xm_next ?_
      refine cm_seq ?_
      refine cm_region ?_
      refine lm_val 93 (by kernel_rfl) (fun w1 c1 => (op_loadR [.slice _ _ _, .int .i64 _] rfl (by kernel_rfl) (c1.cells 0 rfl rfl))) ?_
      refine lm_val 94 (by kernel_rfl) (fun w1 c1 => (op_move (v := .int .i64 _) rfl)) ?_
      refine lm_val 95 (by kernel_rfl) (fun w1 c1 => (op_move (v := .int .i64 _) rfl)) ?_
      refine lm_call 96 (V := (fun (r : Int × Int) (_u : Unit) => .tuple #[.int .i64 r.1, .int .i64 r.2])) (HR := (fun (_r : Int × Int) (_u : Unit) => [])) (by kernel_rfl) (fun w1 => op_call (by kernel_rfl)) (fun r1 hr1 w1 c1 => m_auction_Gain_ok N w1 r30.1 (Int.tmod p1 (List.length p0 : Int)) p2.E0 u31.1 u31.2.1 u31.2.2 (c1.own 1 rfl encI_len) (c1.ownZ 1 rfl) r1 hr1) ?_
      intro r39 u40
      refine lm_val 92 (by kernel_rfl) (fun w1 c1 => (op_move (v := .tuple _) rfl)) ?_
      refine lm_val 97 (by kernel_rfl) (fun w1 c1 => (op_extract (v := .int .i64 _) rfl rfl)) ?_
      refine lm_val 98 (by kernel_rfl) (fun w1 c1 => (op_extract (v := .int .i64 _) rfl rfl)) ?_
      refine lm_val 20 (by kernel_rfl) (fun w1 c1 => (op_assign (v := .int .i64 _) rfl)) ?_
      refine lm_val 21 (by kernel_rfl) (fun w1 c1 => (op_assign (v := .int .i64 _) rfl)) ?_
      refine lm_nil ?_
      refine xm_next ?_
      refine cm_seq ?_
      refine cm_callIf fun r41 h42 => ?_
      refine cm_cutE [(6, .bool (((((decide (r37.2 = 0)) && (decide (r39.2 = 0))) && (decide (r39.1 ≤ r37.1))) && (decide (0 ≤ r37.1))) && r41))] ?_ ?_
      · skip
        refine wq_val 99 (by kernel_rfl) (fun w1 c1 => (op_move (v := .int .i64 _) rfl)) ?_
        refine wq_dec 100 (by kernel_rfl) (fun w1 c1 => (op_eql rfl rfl)) (fun h43 => ?_) (fun h43 => ?_)
        · skip
          refine wq_val 101 (by kernel_rfl) (fun w1 c1 => (op_move (v := .bool true) rfl)) ?_
          refine wq_val 102 (by kernel_rfl) (fun w1 c1 => (op_move (v := .int .i64 _) rfl)) ?_
          refine wq_dec 103 (by kernel_rfl) (fun w1 c1 => (op_eql rfl rfl)) (fun h44 => ?_) (fun h44 => ?_)
          · skip
            refine wq_val 104 (by kernel_rfl) (fun w1 c1 => (op_pick_t (v := .bool true) rfl rfl)) ?_
            refine wq_val 105 (by kernel_rfl) (fun w1 c1 => (op_move (v := .bool true) rfl)) ?_
            refine wq_val 106 (by kernel_rfl) (fun w1 c1 => (op_move (v := .int .i64 _) rfl)) ?_
            refine wq_val 107 (by kernel_rfl) (fun w1 c1 => (op_move (v := .int .i64 _) rfl)) ?_
            refine wq_dec 108 (by kernel_rfl) (fun w1 c1 => (op_geq rfl rfl)) (fun h45 => ?_) (fun h45 => ?_)
            · skip
              refine wq_val 109 (by kernel_rfl) (fun w1 c1 => (op_pick_t (v := .bool true) rfl rfl)) ?_
              refine wq_val 110 (by kernel_rfl) (fun w1 c1 => (op_move (v := .bool true) rfl)) ?_
              refine wq_val 111 (by kernel_rfl) (fun w1 c1 => (op_move (v := .int .i64 _) rfl)) ?_
              refine wq_dec 112 (by kernel_rfl) (fun w1 c1 => (op_geq rfl rfl)) (fun h46 => ?_) (fun h46 => ?_)
              · skip
                refine wq_val 113 (by kernel_rfl) (fun w1 c1 => (op_pick_t (v := .bool true) rfl rfl)) ?_
                refine wq_val 114 (by kernel_rfl) (fun w1 c1 => (op_move (v := .bool true) rfl)) ?_
                refine wq_call 115 (by kernel_rfl) (fun w1 c1 => op_call (by kernel_rfl)) (fun w1 c1 => (m_recyclinglaw51_awake_ok N w1   r41 (h42 (by rw [decide_eq_true h43, decide_eq_true h44, decide_eq_true h45, decide_eq_true h46] <;> rfl))).mono (fun _ _ ⟨_, hx, hu⟩ => ⟨hx, c1.call hu⟩)) ?_
                refine wq_val 116 (by kernel_rfl) (fun w1 c1 => (op_pick_t (v := .bool _) rfl rfl)) ?_
                refine wq_val 6 (by kernel_rfl) (fun w1 c1 => (op_assign (v := .bool _) rfl)) ?_
                exact leaf_q (sub_out 19 _ rfl (by kernel_rfl) ⟨(congrArg Value.bool (by rw [decide_eq_true h43, decide_eq_true h44, decide_eq_true h45, decide_eq_true h46] <;> rfl)), trivial⟩)
              · skip
                refine wq_val 113 (by kernel_rfl) (fun w1 c1 => (op_pick_t (v := .bool false) rfl rfl)) ?_
                refine wq_val 114 (by kernel_rfl) (fun w1 c1 => (op_move (v := .bool false) rfl)) ?_
                refine wq_skip 115 (by kernel_rfl) ?_
                refine wq_val 116 (by kernel_rfl) (fun w1 c1 => (op_pick_f (v := .bool false) rfl rfl)) ?_
                refine wq_val 6 (by kernel_rfl) (fun w1 c1 => (op_assign (v := .bool false) rfl)) ?_
                exact leaf_q (sub_out 19 _ rfl (by kernel_rfl) ⟨(congrArg Value.bool (by rw [decide_eq_true h43, decide_eq_true h44, decide_eq_true h45, decide_eq_false h46] <;> rfl)), trivial⟩)
            · skip
              refine wq_val 109 (by kernel_rfl) (fun w1 c1 => (op_pick_t (v := .bool false) rfl rfl)) ?_
              refine wq_val 110 (by kernel_rfl) (fun w1 c1 => (op_move (v := .bool false) rfl)) ?_
              refine wq_skip 111 (by kernel_rfl) ?_
              refine wq_skip 112 (by kernel_rfl) ?_
              refine wq_val 113 (by kernel_rfl) (fun w1 c1 => (op_pick_f (v := .bool false) rfl rfl)) ?_
              refine wq_val 114 (by kernel_rfl) (fun w1 c1 => (op_move (v := .bool false) rfl)) ?_
              refine wq_skip 115 (by kernel_rfl) ?_
              refine wq_val 116 (by kernel_rfl) (fun w1 c1 => (op_pick_f (v := .bool false) rfl rfl)) ?_
              refine wq_val 6 (by kernel_rfl) (fun w1 c1 => (op_assign (v := .bool false) rfl)) ?_
              exact leaf_q (sub_out 19 _ rfl (by kernel_rfl) ⟨(congrArg Value.bool (by rw [decide_eq_true h43, decide_eq_true h44, decide_eq_false h45] <;> rfl)), trivial⟩)
          · skip
            refine wq_val 104 (by kernel_rfl) (fun w1 c1 => (op_pick_t (v := .bool false) rfl rfl)) ?_
            refine wq_val 105 (by kernel_rfl) (fun w1 c1 => (op_move (v := .bool false) rfl)) ?_
            refine wq_skip 106 (by kernel_rfl) ?_
            refine wq_skip 107 (by kernel_rfl) ?_
            refine wq_skip 108 (by kernel_rfl) ?_
            refine wq_val 109 (by kernel_rfl) (fun w1 c1 => (op_pick_f (v := .bool false) rfl rfl)) ?_
            refine wq_val 110 (by kernel_rfl) (fun w1 c1 => (op_move (v := .bool false) rfl)) ?_
            refine wq_skip 111 (by kernel_rfl) ?_
            refine wq_skip 112 (by kernel_rfl) ?_
            refine wq_val 113 (by kernel_rfl) (fun w1 c1 => (op_pick_f (v := .bool false) rfl rfl)) ?_
            refine wq_val 114 (by kernel_rfl) (fun w1 c1 => (op_move (v := .bool false) rfl)) ?_
            refine wq_skip 115 (by kernel_rfl) ?_
            refine wq_val 116 (by kernel_rfl) (fun w1 c1 => (op_pick_f (v := .bool false) rfl rfl)) ?_
            refine wq_val 6 (by kernel_rfl) (fun w1 c1 => (op_assign (v := .bool false) rfl)) ?_
            exact leaf_q (sub_out 19 _ rfl (by kernel_rfl) ⟨(congrArg Value.bool (by rw [decide_eq_true h43, decide_eq_false h44] <;> rfl)), trivial⟩)
        · skip
          refine wq_val 101 (by kernel_rfl) (fun w1 c1 => (op_move (v := .bool false) rfl)) ?_
          refine wq_skip 102 (by kernel_rfl) ?_
          refine wq_skip 103 (by kernel_rfl) ?_
          refine wq_val 104 (by kernel_rfl) (fun w1 c1 => (op_pick_f (v := .bool false) rfl rfl)) ?_
          refine wq_val 105 (by kernel_rfl) (fun w1 c1 => (op_move (v := .bool false) rfl)) ?_
          refine wq_skip 106 (by kernel_rfl) ?_
          refine wq_skip 107 (by kernel_rfl) ?_
          refine wq_skip 108 (by kernel_rfl) ?_
          refine wq_val 109 (by kernel_rfl) (fun w1 c1 => (op_pick_f (v := .bool false) rfl rfl)) ?_
          refine wq_val 110 (by kernel_rfl) (fun w1 c1 => (op_move (v := .bool false) rfl)) ?_
          refine wq_skip 111 (by kernel_rfl) ?_
          refine wq_skip 112 (by kernel_rfl) ?_
          refine wq_val 113 (by kernel_rfl) (fun w1 c1 => (op_pick_f (v := .bool false) rfl rfl)) ?_
          refine wq_val 114 (by kernel_rfl) (fun w1 c1 => (op_move (v := .bool false) rfl)) ?_
          refine wq_skip 115 (by kernel_rfl) ?_
          refine wq_val 116 (by kernel_rfl) (fun w1 c1 => (op_pick_f (v := .bool false) rfl rfl)) ?_
          refine wq_val 6 (by kernel_rfl) (fun w1 c1 => (op_assign (v := .bool false) rfl)) ?_
          exact leaf_q (sub_out 19 _ rfl (by kernel_rfl) ⟨(congrArg Value.bool (by rw [decide_eq_false h43] <;> rfl)), trivial⟩)
      refine xm_next ?_
      refine cm_ret ?_
      exact xm_retT rfl (by kernel_rfl) (show _ = Value.bool _ from rfl) fun w1 c1 => ⟨(), rfl, hsub [] (by kernel_rfl) rfl w1 c1⟩
end Go.Proofs.Ytimmifkdocjljaa
