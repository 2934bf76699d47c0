/- Models of functions, and that the code follows them. Written by deco.py. -/
import Derived.Test.YtimmifkdocjljaaAucAwake
namespace Go.Proofs.Ytimmifkdocjljaa
open Go.RowKit

/-- recyclinglaw51.AuctionRaises -/
def m_recyclinglaw51_AuctionRaises (N : Nat) (p0 : (List ApiBid)) (p1 : Int) (p2 : Arr3Int) : Option (Bool) :=
  (if ((decide (60 < (List.length p0 : Int))) || (decide ((List.length p0 : Int) = 0))) = true then
    Option.bind (m_recyclinglaw51_awake N) fun r4 => some (r4)
  else
    ck (I64 p1) (
      ck (0 < (List.length p0 : Int) ∧ I64 p1) (
        ck ((List.length ([] : List ApiBid) + List.length p0) * 24 ≤ 140737488355328) (
          ck ((0 : Int) ≤ (Int.tmod p1 (List.length p0 : Int)) ∧ (Int.tmod p1 (List.length p0 : Int)) < (List.length (([] : List ApiBid) ++ p0) : Int)) (
            Option.bind (m_auction_Run N p0 p2.E1 p2.E2) fun r17 => Option.bind (m_auction_Run N (List.set (([] : List ApiBid) ++ p0) (Int.toNat (Int.tmod p1 (List.length p0 : Int))) (ApiBid.mk ((ix (([] : List ApiBid) ++ p0) (Int.tmod p1 (List.length p0 : Int))).Bidder) p2.E0 ((ix (([] : List ApiBid) ++ p0) (Int.tmod p1 (List.length p0 : Int))).Count))) p2.E1 p2.E2) fun r20 => ck ((!((decide (r17.2 ≠ 0)) || (decide (r20.2 ≠ 0)))) = true → (0 : Int) ≤ (Int.tmod p1 (List.length p0 : Int)) ∧ (Int.tmod p1 (List.length p0 : Int)) < (List.length p0 : Int)) (
              (if (((decide (r17.2 ≠ 0)) || (decide (r20.2 ≠ 0))) || (decide (p2.E0 < (ix p0 (Int.tmod p1 (List.length p0 : Int))).Price))) = true then
                Option.bind (m_recyclinglaw51_awake N) fun r27 => some (r27)
              else
                ck (((decide ((List.length r17.1.Won : Int) = (List.length p0 : Int))) && (decide ((List.length r20.1.Won : Int) = (List.length p0 : Int)))) = true → (0 : Int) ≤ (Int.tmod p1 (List.length p0 : Int)) ∧ (Int.tmod p1 (List.length p0 : Int)) < (List.length r20.1.Won : Int)) (
                  ck (((decide ((List.length r17.1.Won : Int) = (List.length p0 : Int))) && (decide ((List.length r20.1.Won : Int) = (List.length p0 : Int)))) = true → (0 : Int) ≤ (Int.tmod p1 (List.length p0 : Int)) ∧ (Int.tmod p1 (List.length p0 : Int)) < (List.length r17.1.Won : Int)) (
                    callIf ((((decide ((List.length r17.1.Won : Int) = (List.length p0 : Int))) && (decide ((List.length r20.1.Won : Int) = (List.length p0 : Int)))) && (decide ((ix r17.1.Won (Int.tmod p1 (List.length p0 : Int))) ≤ (ix r20.1.Won (Int.tmod p1 (List.length p0 : Int)))))) = true) (m_recyclinglaw51_awake N) fun r31 => some (((((decide ((List.length r17.1.Won : Int) = (List.length p0 : Int))) && (decide ((List.length r20.1.Won : Int) = (List.length p0 : Int)))) && (decide ((ix r17.1.Won (Int.tmod p1 (List.length p0 : Int))) ≤ (ix r20.1.Won (Int.tmod p1 (List.length p0 : Int)))))) && r31)))))))))))
set_option maxRecDepth 20000 in
theorem m_recyclinglaw51_AuctionRaises_ok (N : Nat) (w0 : World) (p0 : (List ApiBid)) (p1 : Int) (p2 : Arr3Int) (A_p0 : Option Addr) (n_p0 c_p0 : Nat) (hr_p0 : RdE w0 3 encApiBid A_p0 p0) (hz_p0 : SW A_p0 n_p0 c_p0 (List.length p0)) (r : Bool) (hr : m_recyclinglaw51_AuctionRaises N p0 p1 p2 = some r) :
    Calls Try.prog 9 [.slice A_p0 n_p0 c_p0, .int .u8 p1, .agg #[.int .i64 p2.E0, .int .i64 p2.E1, .int .i64 p2.E2]].toArray w0 fun x w1 => ∃ u, x = .returned ((fun (r : Bool) (_u : Unit) => .bool r) r u) ∧ Hs w0 ((fun (_r : Bool) (_u : Unit) => []) r u) w1 := by
  refine calls_cm (n := 101) (R := fun r x w1 => ∃ u, x = .returned ((fun (r : Bool) (_u : Unit) => .bool r) r u) ∧ Hs w0 ((fun (_r : Bool) (_u : Unit) => []) r u) w1) Try.func9 rfl rfl (Nat.le_of_ble_eq_true rfl) ?_ r hr
  unfold m_recyclinglaw51_AuctionRaises
  refine cm_seq ?_
  refine cm_region ?_
  refine lm_box 5 [.int .i64 _, .int .i64 _, .int .i64 _] (by kernel_rfl) rfl ?_
  intro b1
  refine lm_val 6 (by kernel_rfl) (fun w1 c1 => (op_assign (v := .bool false) rfl)) ?_
  refine lm_nil ?_
  refine xm_next ?_
  refine cm_seq ?_
  refine cm_seq ?_
  refine cm_cutE [(20, .bool ((decide (60 < (List.length p0 : Int))) || (decide ((List.length p0 : Int) = 0))))] ?_ ?_
  · skip
    refine wq_val 13 (by kernel_rfl) (fun w1 c1 => (op_move (v := .slice _ _ _) rfl)) ?_
    refine wq_val 14 (by kernel_rfl) (fun w1 c1 => (op_lenN rfl (by kernel_rfl) hz_p0.2.2)) ?_
    refine wq_dec 15 (by kernel_rfl) (fun w1 c1 => (op_gtr rfl rfl)) (fun h2 => ?_) (fun h2 => ?_)
    · skip
      refine wq_val 16 (by kernel_rfl) (fun w1 c1 => (op_move (v := .bool true) rfl)) ?_
      refine wq_skip 17 (by kernel_rfl) ?_
      refine wq_skip 18 (by kernel_rfl) ?_
      refine wq_skip 19 (by kernel_rfl) ?_
      refine wq_val 20 (by kernel_rfl) (fun w1 c1 => (op_pick_t (v := .bool true) rfl rfl)) ?_
      exact leaf_q (sub_out 8 _ rfl (by kernel_rfl) ⟨(congrArg Value.bool (by rw [decide_eq_true h2] <;> rfl)), trivial⟩)
    · skip
      refine wq_val 16 (by kernel_rfl) (fun w1 c1 => (op_move (v := .bool false) rfl)) ?_
      refine wq_val 17 (by kernel_rfl) (fun w1 c1 => (op_move (v := .slice _ _ _) rfl)) ?_
      refine wq_val 18 (by kernel_rfl) (fun w1 c1 => (op_lenN rfl (by kernel_rfl) hz_p0.2.2)) ?_
      refine wq_val 19 (by kernel_rfl) (fun w1 c1 => (op_eql rfl rfl)) ?_
      refine wq_val 20 (by kernel_rfl) (fun w1 c1 => (op_pick_f (v := .bool _) rfl rfl)) ?_
      exact leaf_q (sub_out 8 _ rfl (by kernel_rfl) ⟨(congrArg Value.bool (by rw [decide_eq_false h2] <;> rfl)), trivial⟩)
  refine xm_next ?_
  refine cm_condB (by kernel_rfl) rfl (fun h3 => ?_) (fun h3 => ?_)
  · skip
    refine cm_seq ?_
    refine cm_region ?_
    refine lm_call 21 (V := (fun (r : Bool) (_u : Unit) => .bool r)) (HR := (fun (_r : Bool) (_u : Unit) => [])) (by kernel_rfl) (fun w1 => op_call (by kernel_rfl)) (fun r1 hr1 w1 c1 => m_recyclinglaw51_awake_ok N w1   r1 hr1) ?_
    intro r4 u5
    refine lm_val 6 (by kernel_rfl) (fun w1 c1 => (op_assign (v := .bool _) rfl)) ?_
    refine lm_nil ?_
    refine xm_next ?_
    refine cm_ret ?_
    refine xm_thenR ?_
    exact xm_retT rfl (by kernel_rfl) (show _ = Value.bool _ from rfl) fun w1 c1 => ⟨(), rfl, hsub [] (by kernel_rfl) rfl w1 c1⟩
  · skip
    refine cm_skip ?_
    refine xm_next ?_
    refine cm_seq ?_
    refine cm_region ?_
    refine lm_val 22 (by kernel_rfl) (fun w1 c1 => (op_move (v := .int .u8 _) rfl)) ?_
    refine lm_ck (fun h6 => ?_)
    refine lm_val 23 (by kernel_rfl) (fun w1 c1 => (op_convI64 rfl (by kernel_rfl) (by kernel_rfl) h6)) ?_
    refine lm_val 24 (by kernel_rfl) (fun w1 c1 => (op_move (v := .slice _ _ _) rfl)) ?_
    refine lm_val 25 (by kernel_rfl) (fun w1 c1 => (op_lenN rfl (by kernel_rfl) hz_p0.2.2)) ?_
    refine lm_ck (fun h7 => ?_)
    refine lm_val 26 (by kernel_rfl) (fun w1 c1 => (op_rem rfl rfl h7.1 h7.2)) ?_
    refine lm_val 7 (by kernel_rfl) (fun w1 c1 => (op_assign (v := .int .i64 _) rfl)) ?_
    refine lm_nil ?_
    refine xm_next ?_
    refine cm_seq ?_
    refine cm_region ?_
    refine lm_slice0 27 (el := 44) (sz := 3) (bytes := 24) (enc := encApiBid) (by kernel_rfl) (by kernel_rfl) ?_
    intro A8 n9 k10 h11
    refine lm_val 28 (by kernel_rfl) (fun w1 c1 => (op_move (v := .slice _ _ _) rfl)) ?_
    refine lm_ck (fun h12 => ?_)
    refine lm_append 29 0 (el := 44) (sz := 3) (bytes := 24) (enc := encApiBid) (l2 := p0) (by kernel_rfl) (by kernel_rfl) encApiBid_len encApiBid_one rfl rfl rfl (fun w1 c1 => hz_p0) (fun w1 c1 => (hr_p0.old c1)) h12 ?_ (by kernel_rfl)
    intro A13 n14 k15
    refine lm_val 8 (by kernel_rfl) (fun w1 c1 => (op_assign (v := .slice _ _ _) rfl)) ?_
    refine lm_nil ?_
    refine xm_next ?_
    refine cm_seq ?_
    refine cm_region ?_
    refine lm_val 30 (by kernel_rfl) (fun w1 c1 => (op_move (v := .slice _ _ _) rfl)) ?_
    refine lm_val 31 (by kernel_rfl) (fun w1 c1 => (op_move (v := .int .i64 _) rfl)) ?_
    refine lm_val 32 (by kernel_rfl) (fun w1 c1 => (op_indexArr (len := 3) (sz := 1) (k := 0) 0 rfl rfl rfl (by kernel_rfl) (by kernel_rfl) rfl)) ?_
    refine lm_val 33 (by kernel_rfl) (fun w1 c1 => (op_load rfl (by kernel_rfl) (c1.cell 1 (u := .int .i64 _) rfl rfl))) ?_
    refine lm_ck (fun h16 => ?_)
    refine lm_val 34 (by kernel_rfl) (fun w1 c1 => (op_indexA 3 rfl rfl (by kernel_rfl) ((c1.own 0 rfl encApiBid_len).addr h16.1 h16.2) (c1.ownZ 0 rfl).2.2 h16.1 h16.2)) ?_
    refine lm_val 35 (by kernel_rfl) (fun w1 c1 => (op_field (m := 1) rfl (by kernel_rfl))) ?_
    refine lm_storeIx 0 (ApiBid.mk ((ix (([] : List ApiBid) ++ p0) (Int.tmod p1 (List.length p0 : Int))).Bidder) p2.E0 ((ix (([] : List ApiBid) ++ p0) (Int.tmod p1 (List.length p0 : Int))).Count)) 1 [.int .i64 _] (by kernel_rfl) rfl rfl (by kernel_rfl) rfl rfl rfl encApiBid_len encApiBid_one h16.1 h16.2 (by kernel_rfl) rfl ?_
    refine lm_nil ?_
    refine xm_next ?_
    refine cm_seq ?_
    refine cm_region ?_
    refine lm_val 37 (by kernel_rfl) (fun w1 c1 => (op_move (v := .slice _ _ _) rfl)) ?_
    refine lm_val 38 (by kernel_rfl) (fun w1 c1 => (op_indexArr (len := 3) (sz := 1) (k := 1) 1 rfl rfl rfl (by kernel_rfl) (by kernel_rfl) rfl)) ?_
    refine lm_val 39 (by kernel_rfl) (fun w1 c1 => (op_load rfl (by kernel_rfl) (c1.cell 1 (u := .int .i64 _) rfl rfl))) ?_
    refine lm_val 40 (by kernel_rfl) (fun w1 c1 => (op_indexArr (len := 3) (sz := 1) (k := 2) 2 rfl rfl rfl (by kernel_rfl) (by kernel_rfl) rfl)) ?_
    refine lm_val 41 (by kernel_rfl) (fun w1 c1 => (op_load rfl (by kernel_rfl) (c1.cell 1 (u := .int .i64 _) rfl rfl))) ?_
    refine lm_call 42 (V := (fun (r : ApiOutcome × Int) (u : (Option Addr) × Nat × Nat) => .tuple #[.agg #[.slice u.1 u.2.1 u.2.2, .int .i64 r.1.Price], .int .i64 r.2])) (HR := (fun (r : ApiOutcome × Int) (u : (Option Addr) × Nat × Nat) => [ownE 3 1 encI u.1 u.2.1 u.2.2 r.1.Won])) (by kernel_rfl) (fun w1 => op_call (by kernel_rfl)) (fun r1 hr1 w1 c1 => m_auction_Run_ok N w1 p0 p2.E1 p2.E2 A_p0 n_p0 c_p0 (hr_p0.old c1) hz_p0 r1 hr1) ?_
    intro r17 u18
    refine lm_val 36 (by kernel_rfl) (fun w1 c1 => (op_move (v := .tuple _) rfl)) ?_
    refine lm_val 43 (by kernel_rfl) (fun w1 c1 => (op_extract (v := .agg _) rfl rfl)) ?_
    refine lm_val 44 (by kernel_rfl) (fun w1 c1 => (op_extract (v := .int .i64 _) rfl rfl)) ?_
    refine lm_alloc 9 [.slice none 0 0, .int .i64 0] (v := .agg #[.slice none 0 0, .int .i64 0]) (by kernel_rfl) (by kernel_rfl) rfl ?_
    intro b19
    refine lm_storeA 0 [.slice _ _ _, .int .i64 _] [_, _] (H' := [blkE _ _ [_, _], _, _, _]) (by kernel_rfl) rfl rfl (by kernel_rfl) rfl rfl (by kernel_rfl) rfl rfl ?_
    refine lm_val 10 (by kernel_rfl) (fun w1 c1 => (op_assign (v := .int .i64 _) rfl)) ?_
    refine lm_nil ?_
    refine xm_next ?_
    refine cm_seq ?_
    refine cm_region ?_
    refine lm_val 46 (by kernel_rfl) (fun w1 c1 => (op_move (v := .slice _ _ _) rfl)) ?_
    refine lm_val 47 (by kernel_rfl) (fun w1 c1 => (op_indexArr (len := 3) (sz := 1) (k := 1) 1 rfl rfl rfl (by kernel_rfl) (by kernel_rfl) rfl)) ?_
    refine lm_val 48 (by kernel_rfl) (fun w1 c1 => (op_load rfl (by kernel_rfl) (c1.cell 3 (u := .int .i64 _) rfl rfl))) ?_
    refine lm_val 49 (by kernel_rfl) (fun w1 c1 => (op_indexArr (len := 3) (sz := 1) (k := 2) 2 rfl rfl rfl (by kernel_rfl) (by kernel_rfl) rfl)) ?_
    refine lm_val 50 (by kernel_rfl) (fun w1 c1 => (op_load rfl (by kernel_rfl) (c1.cell 3 (u := .int .i64 _) rfl rfl))) ?_
    refine lm_call 51 (V := (fun (r : ApiOutcome × Int) (u : (Option Addr) × Nat × Nat) => .tuple #[.agg #[.slice u.1 u.2.1 u.2.2, .int .i64 r.1.Price], .int .i64 r.2])) (HR := (fun (r : ApiOutcome × Int) (u : (Option Addr) × Nat × Nat) => [ownE 3 1 encI u.1 u.2.1 u.2.2 r.1.Won])) (by kernel_rfl) (fun w1 => op_call (by kernel_rfl)) (fun r1 hr1 w1 c1 => m_auction_Run_ok N w1 (List.set (([] : List ApiBid) ++ p0) (Int.toNat (Int.tmod p1 (List.length p0 : Int))) (ApiBid.mk ((ix (([] : List ApiBid) ++ p0) (Int.tmod p1 (List.length p0 : Int))).Bidder) p2.E0 ((ix (([] : List ApiBid) ++ p0) (Int.tmod p1 (List.length p0 : Int))).Count))) p2.E1 p2.E2 A13 n14 k15 (c1.own 2 rfl encApiBid_len) (c1.ownZ 2 rfl) r1 hr1) ?_
    intro r20 u21
    refine lm_val 45 (by kernel_rfl) (fun w1 c1 => (op_move (v := .tuple _) rfl)) ?_
    refine lm_val 52 (by kernel_rfl) (fun w1 c1 => (op_extract (v := .agg _) rfl rfl)) ?_
    refine lm_val 53 (by kernel_rfl) (fun w1 c1 => (op_extract (v := .int .i64 _) rfl rfl)) ?_
    refine lm_alloc 11 [.slice none 0 0, .int .i64 0] (v := .agg #[.slice none 0 0, .int .i64 0]) (by kernel_rfl) (by kernel_rfl) rfl ?_
    intro b22
    refine lm_storeA 0 [.slice _ _ _, .int .i64 _] [_, _] (H' := [blkE _ _ [_, _], _, _, _, _, _]) (by kernel_rfl) rfl rfl (by kernel_rfl) rfl rfl (by kernel_rfl) rfl rfl ?_
    refine lm_val 12 (by kernel_rfl) (fun w1 c1 => (op_assign (v := .int .i64 _) rfl)) ?_
    refine lm_nil ?_
    refine xm_next ?_
    refine cm_seq ?_
    refine cm_seq ?_
    refine cm_ck (fun h23 => ?_)
    refine cm_drawn [(69, .bool (((decide (r17.2 ≠ 0)) || (decide (r20.2 ≠ 0))) || (decide (p2.E0 < (ix p0 (Int.tmod p1 (List.length p0 : Int))).Price))))] (by kernel_rfl) (by kernel_rfl) ?_ ?_
    · skip
      refine wq_val 54 (by kernel_rfl) (fun w1 c1 => (op_move (v := .int .i64 _) rfl)) ?_
      refine wq_dec 55 (by kernel_rfl) (fun w1 c1 => (op_neq rfl rfl)) (fun h24 => ?_) (fun h24 => ?_)
      · skip
        refine wq_val 56 (by kernel_rfl) (fun w1 c1 => (op_move (v := .bool true) rfl)) ?_
        refine wq_skip 57 (by kernel_rfl) ?_
        refine wq_skip 58 (by kernel_rfl) ?_
        refine wq_val 59 (by kernel_rfl) (fun w1 c1 => (op_pick_t (v := .bool true) rfl rfl)) ?_
        refine wq_val 60 (by kernel_rfl) (fun w1 c1 => (op_move (v := .bool true) rfl)) ?_
        refine wq_skip 61 (by kernel_rfl) ?_
        refine wq_skip 62 (by kernel_rfl) ?_
        refine wq_skip 63 (by kernel_rfl) ?_
        refine wq_skip 64 (by kernel_rfl) ?_
        refine wq_skip 65 (by kernel_rfl) ?_
        refine wq_skip 66 (by kernel_rfl) ?_
        refine wq_skip 67 (by kernel_rfl) ?_
        refine wq_skip 68 (by kernel_rfl) ?_
        refine wq_val 69 (by kernel_rfl) (fun w1 c1 => (op_pick_t (v := .bool true) rfl rfl)) ?_
        exact leaf_q (sub_out 16 _ rfl (by kernel_rfl) ⟨(congrArg Value.bool (by rw [decide_eq_true h24] <;> rfl)), trivial⟩)
      · skip
        refine wq_val 56 (by kernel_rfl) (fun w1 c1 => (op_move (v := .bool false) rfl)) ?_
        refine wq_val 57 (by kernel_rfl) (fun w1 c1 => (op_move (v := .int .i64 _) rfl)) ?_
        refine wq_dec 58 (by kernel_rfl) (fun w1 c1 => (op_neq rfl rfl)) (fun h25 => ?_) (fun h25 => ?_)
        · skip
          refine wq_val 59 (by kernel_rfl) (fun w1 c1 => (op_pick_f (v := .bool true) rfl rfl)) ?_
          refine wq_val 60 (by kernel_rfl) (fun w1 c1 => (op_move (v := .bool true) rfl)) ?_
          refine wq_skip 61 (by kernel_rfl) ?_
          refine wq_skip 62 (by kernel_rfl) ?_
          refine wq_skip 63 (by kernel_rfl) ?_
          refine wq_skip 64 (by kernel_rfl) ?_
          refine wq_skip 65 (by kernel_rfl) ?_
          refine wq_skip 66 (by kernel_rfl) ?_
          refine wq_skip 67 (by kernel_rfl) ?_
          refine wq_skip 68 (by kernel_rfl) ?_
          refine wq_val 69 (by kernel_rfl) (fun w1 c1 => (op_pick_t (v := .bool true) rfl rfl)) ?_
          exact leaf_q (sub_out 16 _ rfl (by kernel_rfl) ⟨(congrArg Value.bool (by rw [decide_eq_false h24, decide_eq_true h25] <;> rfl)), trivial⟩)
        · skip
          refine wq_val 59 (by kernel_rfl) (fun w1 c1 => (op_pick_f (v := .bool false) rfl rfl)) ?_
          refine wq_val 60 (by kernel_rfl) (fun w1 c1 => (op_move (v := .bool false) rfl)) ?_
          refine wq_val 61 (by kernel_rfl) (fun w1 c1 => (op_indexArr (len := 3) (sz := 1) (k := 0) 0 rfl rfl rfl (by kernel_rfl) (by kernel_rfl) rfl)) ?_
          refine wq_val 62 (by kernel_rfl) (fun w1 c1 => (op_load rfl (by kernel_rfl) (c1.cell 5 (u := .int .i64 _) rfl rfl))) ?_
          refine wq_val 63 (by kernel_rfl) (fun w1 c1 => (op_move (v := .slice _ _ _) rfl)) ?_
          refine wq_val 64 (by kernel_rfl) (fun w1 c1 => (op_move (v := .int .i64 _) rfl)) ?_
          refine wq_val 65 (by kernel_rfl) (fun w1 c1 => (op_indexA 3 rfl rfl (by kernel_rfl) ((hr_p0.old c1).addr (h23 (by rw [decide_eq_false h24, decide_eq_false h25] <;> rfl)).1 (h23 (by rw [decide_eq_false h24, decide_eq_false h25] <;> rfl)).2) hz_p0.2.2 (h23 (by rw [decide_eq_false h24, decide_eq_false h25] <;> rfl)).1 (h23 (by rw [decide_eq_false h24, decide_eq_false h25] <;> rfl)).2)) ?_
          refine wq_val 66 (by kernel_rfl) (fun w1 c1 => (op_field (m := 1) rfl (by kernel_rfl))) ?_
          refine wq_val 67 (by kernel_rfl) (fun w1 c1 => (op_load (v := .int .i64 ((ix p0 (Int.tmod p1 (List.length p0 : Int))).Price)) rfl (by kernel_rfl) ((hr_p0.old c1).cell (j := 1) (h23 (by rw [decide_eq_false h24, decide_eq_false h25] <;> rfl)).1 (h23 (by rw [decide_eq_false h24, decide_eq_false h25] <;> rfl)).2 rfl))) ?_
          refine wq_val 68 (by kernel_rfl) (fun w1 c1 => (op_lss rfl rfl)) ?_
          refine wq_val 69 (by kernel_rfl) (fun w1 c1 => (op_pick_f (v := .bool _) rfl rfl)) ?_
          exact leaf_q (sub_out 16 _ rfl (by kernel_rfl) ⟨(congrArg Value.bool (by rw [decide_eq_false h24, decide_eq_false h25] <;> rfl)), trivial⟩)
    refine xm_next ?_
    refine cm_condB (by kernel_rfl) rfl (fun h26 => ?_) (fun h26 => ?_)
    · skip
      refine cm_seq ?_
      refine cm_region ?_
      refine lm_call 70 (V := (fun (r : Bool) (_u : Unit) => .bool r)) (HR := (fun (_r : Bool) (_u : Unit) => [])) (by kernel_rfl) (fun w1 => op_call (by kernel_rfl)) (fun r1 hr1 w1 c1 => m_recyclinglaw51_awake_ok N w1   r1 hr1) ?_
      intro r27 u28
      refine lm_val 6 (by kernel_rfl) (fun w1 c1 => (op_assign (v := .bool _) rfl)) ?_
      refine lm_nil ?_
      refine xm_next ?_
      refine cm_ret ?_
      refine xm_thenR ?_
      exact xm_retT rfl (by kernel_rfl) (show _ = Value.bool _ from rfl) fun w1 c1 => ⟨(), rfl, hsub [] (by kernel_rfl) rfl w1 c1⟩
    · skip
      refine cm_skip ?_
      refine xm_next ?_
      refine cm_seq ?_
      refine cm_ck (fun h29 => ?_)
      refine cm_ck (fun h30 => ?_)
      refine cm_callIf fun r31 h32 => ?_
      refine cm_drawn [(6, .bool ((((decide ((List.length r17.1.Won : Int) = (List.length p0 : Int))) && (decide ((List.length r20.1.Won : Int) = (List.length p0 : Int)))) && (decide ((ix r17.1.Won (Int.tmod p1 (List.length p0 : Int))) ≤ (ix r20.1.Won (Int.tmod p1 (List.length p0 : Int)))))) && r31))] (by kernel_rfl) (by kernel_rfl) ?_ ?_
      · skip
        refine wq_val 71 (by kernel_rfl) (fun w1 c1 => (op_fieldL (m := 0) (k := 0) rfl (by kernel_rfl) rfl)) ?_
        refine wq_val 72 (by kernel_rfl) (fun w1 c1 => (op_load rfl (by kernel_rfl) (c1.cell 2 (u := .slice _ _ _) rfl rfl))) ?_
        refine wq_val 73 (by kernel_rfl) (fun w1 c1 => (op_lenN rfl (by kernel_rfl) (c1.ownZ 3 rfl).2.2)) ?_
        refine wq_val 74 (by kernel_rfl) (fun w1 c1 => (op_move (v := .slice _ _ _) rfl)) ?_
        refine wq_val 75 (by kernel_rfl) (fun w1 c1 => (op_lenN rfl (by kernel_rfl) hz_p0.2.2)) ?_
        refine wq_dec 76 (by kernel_rfl) (fun w1 c1 => (op_eql rfl rfl)) (fun h33 => ?_) (fun h33 => ?_)
        · skip
          refine wq_val 77 (by kernel_rfl) (fun w1 c1 => (op_move (v := .bool true) rfl)) ?_
          refine wq_val 78 (by kernel_rfl) (fun w1 c1 => (op_fieldL (m := 0) (k := 0) rfl (by kernel_rfl) rfl)) ?_
          refine wq_val 79 (by kernel_rfl) (fun w1 c1 => (op_load rfl (by kernel_rfl) (c1.cell 0 (u := .slice _ _ _) rfl rfl))) ?_
          refine wq_val 80 (by kernel_rfl) (fun w1 c1 => (op_lenN rfl (by kernel_rfl) (c1.ownZ 1 rfl).2.2)) ?_
          refine wq_val 81 (by kernel_rfl) (fun w1 c1 => (op_move (v := .slice _ _ _) rfl)) ?_
          refine wq_val 82 (by kernel_rfl) (fun w1 c1 => (op_lenN rfl (by kernel_rfl) hz_p0.2.2)) ?_
          refine wq_dec 83 (by kernel_rfl) (fun w1 c1 => (op_eql rfl rfl)) (fun h34 => ?_) (fun h34 => ?_)
          · skip
            refine wq_val 84 (by kernel_rfl) (fun w1 c1 => (op_pick_t (v := .bool true) rfl rfl)) ?_
            refine wq_val 85 (by kernel_rfl) (fun w1 c1 => (op_move (v := .bool true) rfl)) ?_
            refine wq_val 86 (by kernel_rfl) (fun w1 c1 => (op_fieldL (m := 0) (k := 0) rfl (by kernel_rfl) rfl)) ?_
            refine wq_val 87 (by kernel_rfl) (fun w1 c1 => (op_load rfl (by kernel_rfl) (c1.cell 0 (u := .slice _ _ _) rfl rfl))) ?_
            refine wq_val 88 (by kernel_rfl) (fun w1 c1 => (op_move (v := .int .i64 _) rfl)) ?_
            refine wq_val 89 (by kernel_rfl) (fun w1 c1 => (op_indexA 1 rfl rfl (by kernel_rfl) ((c1.own 1 rfl encI_len).addr (h29 (by rw [decide_eq_true h33, decide_eq_true h34] <;> rfl)).1 (h29 (by rw [decide_eq_true h33, decide_eq_true h34] <;> rfl)).2) (c1.ownZ 1 rfl).2.2 (h29 (by rw [decide_eq_true h33, decide_eq_true h34] <;> rfl)).1 (h29 (by rw [decide_eq_true h33, decide_eq_true h34] <;> rfl)).2)) ?_
            refine wq_val 90 (by kernel_rfl) (fun w1 c1 => (op_load (v := .int .i64 (ix r20.1.Won (Int.tmod p1 (List.length p0 : Int)))) rfl (by kernel_rfl) ((c1.own 1 rfl encI_len).cell0 (h29 (by rw [decide_eq_true h33, decide_eq_true h34] <;> rfl)).1 (h29 (by rw [decide_eq_true h33, decide_eq_true h34] <;> rfl)).2 rfl))) ?_
            refine wq_val 91 (by kernel_rfl) (fun w1 c1 => (op_fieldL (m := 0) (k := 0) rfl (by kernel_rfl) rfl)) ?_
            refine wq_val 92 (by kernel_rfl) (fun w1 c1 => (op_load rfl (by kernel_rfl) (c1.cell 2 (u := .slice _ _ _) rfl rfl))) ?_
            refine wq_val 93 (by kernel_rfl) (fun w1 c1 => (op_move (v := .int .i64 _) rfl)) ?_
            refine wq_val 94 (by kernel_rfl) (fun w1 c1 => (op_indexA 1 rfl rfl (by kernel_rfl) ((c1.own 3 rfl encI_len).addr (h30 (by rw [decide_eq_true h33, decide_eq_true h34] <;> rfl)).1 (h30 (by rw [decide_eq_true h33, decide_eq_true h34] <;> rfl)).2) (c1.ownZ 3 rfl).2.2 (h30 (by rw [decide_eq_true h33, decide_eq_true h34] <;> rfl)).1 (h30 (by rw [decide_eq_true h33, decide_eq_true h34] <;> rfl)).2)) ?_
            refine wq_val 95 (by kernel_rfl) (fun w1 c1 => (op_load (v := .int .i64 (ix r17.1.Won (Int.tmod p1 (List.length p0 : Int)))) rfl (by kernel_rfl) ((c1.own 3 rfl encI_len).cell0 (h30 (by rw [decide_eq_true h33, decide_eq_true h34] <;> rfl)).1 (h30 (by rw [decide_eq_true h33, decide_eq_true h34] <;> rfl)).2 rfl))) ?_
            refine wq_dec 96 (by kernel_rfl) (fun w1 c1 => (op_geq rfl rfl)) (fun h35 => ?_) (fun h35 => ?_)
            · skip
              refine wq_val 97 (by kernel_rfl) (fun w1 c1 => (op_pick_t (v := .bool true) rfl rfl)) ?_
              refine wq_val 98 (by kernel_rfl) (fun w1 c1 => (op_move (v := .bool true) rfl)) ?_
              refine wq_call 99 (by kernel_rfl) (fun w1 c1 => op_call (by kernel_rfl)) (fun w1 c1 => (m_recyclinglaw51_awake_ok N w1   r31 (h32 (by rw [decide_eq_true h33, decide_eq_true h34, decide_eq_true h35] <;> rfl))).mono (fun _ _ ⟨_, hx, hu⟩ => ⟨hx, c1.call hu⟩)) ?_
              refine wq_val 100 (by kernel_rfl) (fun w1 c1 => (op_pick_t (v := .bool _) rfl rfl)) ?_
              refine wq_val 6 (by kernel_rfl) (fun w1 c1 => (op_assign (v := .bool _) rfl)) ?_
              exact leaf_q (sub_out 31 _ rfl (by kernel_rfl) ⟨(congrArg Value.bool (by rw [decide_eq_true h33, decide_eq_true h34, decide_eq_true h35] <;> rfl)), trivial⟩)
            · skip
              refine wq_val 97 (by kernel_rfl) (fun w1 c1 => (op_pick_t (v := .bool false) rfl rfl)) ?_
              refine wq_val 98 (by kernel_rfl) (fun w1 c1 => (op_move (v := .bool false) rfl)) ?_
              refine wq_skip 99 (by kernel_rfl) ?_
              refine wq_val 100 (by kernel_rfl) (fun w1 c1 => (op_pick_f (v := .bool false) rfl rfl)) ?_
              refine wq_val 6 (by kernel_rfl) (fun w1 c1 => (op_assign (v := .bool false) rfl)) ?_
              exact leaf_q (sub_out 31 _ rfl (by kernel_rfl) ⟨(congrArg Value.bool (by rw [decide_eq_true h33, decide_eq_true h34, decide_eq_false h35] <;> rfl)), trivial⟩)
          · skip
            refine wq_val 84 (by kernel_rfl) (fun w1 c1 => (op_pick_t (v := .bool false) rfl rfl)) ?_
            refine wq_val 85 (by kernel_rfl) (fun w1 c1 => (op_move (v := .bool false) rfl)) ?_
            refine wq_skip 86 (by kernel_rfl) ?_
            refine wq_skip 87 (by kernel_rfl) ?_
            refine wq_skip 88 (by kernel_rfl) ?_
            refine wq_skip 89 (by kernel_rfl) ?_
            refine wq_skip 90 (by kernel_rfl) ?_
            refine wq_skip 91 (by kernel_rfl) ?_
            refine wq_skip 92 (by kernel_rfl) ?_
            refine wq_skip 93 (by kernel_rfl) ?_
            refine wq_skip 94 (by kernel_rfl) ?_
            refine wq_skip 95 (by kernel_rfl) ?_
            refine wq_skip 96 (by kernel_rfl) ?_
            refine wq_val 97 (by kernel_rfl) (fun w1 c1 => (op_pick_f (v := .bool false) rfl rfl)) ?_
            refine wq_val 98 (by kernel_rfl) (fun w1 c1 => (op_move (v := .bool false) rfl)) ?_
            refine wq_skip 99 (by kernel_rfl) ?_
            refine wq_val 100 (by kernel_rfl) (fun w1 c1 => (op_pick_f (v := .bool false) rfl rfl)) ?_
            refine wq_val 6 (by kernel_rfl) (fun w1 c1 => (op_assign (v := .bool false) rfl)) ?_
            exact leaf_q (sub_out 31 _ rfl (by kernel_rfl) ⟨(congrArg Value.bool (by rw [decide_eq_true h33, decide_eq_false h34] <;> rfl)), trivial⟩)
        · skip
          refine wq_val 77 (by kernel_rfl) (fun w1 c1 => (op_move (v := .bool false) rfl)) ?_
          refine wq_skip 78 (by kernel_rfl) ?_
          refine wq_skip 79 (by kernel_rfl) ?_
          refine wq_skip 80 (by kernel_rfl) ?_
          refine wq_skip 81 (by kernel_rfl) ?_
          refine wq_skip 82 (by kernel_rfl) ?_
          refine wq_skip 83 (by kernel_rfl) ?_
          refine wq_val 84 (by kernel_rfl) (fun w1 c1 => (op_pick_f (v := .bool false) rfl rfl)) ?_
          refine wq_val 85 (by kernel_rfl) (fun w1 c1 => (op_move (v := .bool false) rfl)) ?_
          refine wq_skip 86 (by kernel_rfl) ?_
          refine wq_skip 87 (by kernel_rfl) ?_
          refine wq_skip 88 (by kernel_rfl) ?_
          refine wq_skip 89 (by kernel_rfl) ?_
          refine wq_skip 90 (by kernel_rfl) ?_
          refine wq_skip 91 (by kernel_rfl) ?_
          refine wq_skip 92 (by kernel_rfl) ?_
          refine wq_skip 93 (by kernel_rfl) ?_
          refine wq_skip 94 (by kernel_rfl) ?_
          refine wq_skip 95 (by kernel_rfl) ?_
          refine wq_skip 96 (by kernel_rfl) ?_
          refine wq_val 97 (by kernel_rfl) (fun w1 c1 => (op_pick_f (v := .bool false) rfl rfl)) ?_
          refine wq_val 98 (by kernel_rfl) (fun w1 c1 => (op_move (v := .bool false) rfl)) ?_
          refine wq_skip 99 (by kernel_rfl) ?_
          refine wq_val 100 (by kernel_rfl) (fun w1 c1 => (op_pick_f (v := .bool false) rfl rfl)) ?_
          refine wq_val 6 (by kernel_rfl) (fun w1 c1 => (op_assign (v := .bool false) rfl)) ?_
          exact leaf_q (sub_out 31 _ rfl (by kernel_rfl) ⟨(congrArg Value.bool (by rw [decide_eq_false h33] <;> rfl)), trivial⟩)
      refine xm_next ?_
      refine cm_ret ?_
      exact xm_retT rfl (by kernel_rfl) (show _ = Value.bool _ from rfl) fun w1 c1 => ⟨(), rfl, hsub [] (by kernel_rfl) rfl w1 c1⟩
end Go.Proofs.Ytimmifkdocjljaa
