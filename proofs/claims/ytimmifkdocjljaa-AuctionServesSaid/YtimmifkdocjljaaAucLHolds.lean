/- Models of functions, and that the code follows them. Written by deco.py. -/
import Derived.Test.YtimmifkdocjljaaAucAwake
namespace Go.Proofs.Ytimmifkdocjljaa
open Go.RowKit

/-- recyclinglaw51.AuctionHolds -/
def m_recyclinglaw51_AuctionHolds (N : Nat) (p0 : (List ApiBid)) (p1 : Recyclinglaw51Sale) : Option (Bool) :=
  (if ((decide (100 < (List.length p0 : Int))) || (decide (100 < (List.length p1.Outcome.Won : Int)))) = true then
    Option.bind (m_recyclinglaw51_awake N) fun r4 => some (r4)
  else
    Option.bind (m_auction_Run N p0 p1.Supply p1.Reserve) fun r6 => Option.bind (m_auction_Holds N p0 p1.Supply p1.Reserve p1.Outcome) fun r9 => Option.bind (m_recyclingref51_Holds N p0 p1.Supply p1.Reserve p1.Outcome) fun r11 => callIf ((r9 == r11) = true) (m_auction_Holds N p0 p1.Supply p1.Reserve r6.1) fun r13 => callIf (((r9 == r11) && (r13 == (decide (r6.2 = 0)))) = true) (m_recyclinglaw51_awake N) fun r15 => some ((((r9 == r11) && (r13 == (decide (r6.2 = 0)))) && r15)))
set_option maxRecDepth 20000 in
theorem m_recyclinglaw51_AuctionHolds_ok (N : Nat) (w0 : World) (p0 : (List ApiBid)) (p1 : Recyclinglaw51Sale) (A_p0 : Option Addr) (n_p0 c_p0 : Nat) (A_p11 : Option Addr) (n_p11 c_p11 : Nat) (hr_p0 : RdE w0 3 encApiBid A_p0 p0) (hz_p0 : SW A_p0 n_p0 c_p0 (List.length p0)) (hr_p11 : RdE w0 1 encI A_p11 p1.Outcome.Won) (hz_p11 : SW A_p11 n_p11 c_p11 (List.length p1.Outcome.Won)) (r : Bool) (hr : m_recyclinglaw51_AuctionHolds N p0 p1 = some r) :
    Calls Try.prog 6 [.slice A_p0 n_p0 c_p0, .agg #[.int .i64 p1.Supply, .int .i64 p1.Reserve, .slice A_p11 n_p11 c_p11, .int .i64 p1.Outcome.Price]].toArray w0 fun x w1 => ∃ u, x = .returned ((fun (r : Bool) (_u : Unit) => .bool r) r u) ∧ Hs w0 ((fun (_r : Bool) (_u : Unit) => []) r u) w1 := by
  refine calls_cm (n := 59) (R := fun r x w1 => ∃ u, x = .returned ((fun (r : Bool) (_u : Unit) => .bool r) r u) ∧ Hs w0 ((fun (_r : Bool) (_u : Unit) => []) r u) w1) Try.func6 rfl rfl (Nat.le_of_ble_eq_true rfl) ?_ r hr
  unfold m_recyclinglaw51_AuctionHolds
  refine cm_seq ?_
  refine cm_region ?_
  refine lm_box 3 [.int .i64 _, .int .i64 _, .slice _ _ _, .int .i64 _] (by kernel_rfl) rfl ?_
  intro b1
  refine lm_val 4 (by kernel_rfl) (fun w1 c1 => (op_assign (v := .bool false) rfl)) ?_
  refine lm_nil ?_
  refine xm_next ?_
  refine cm_seq ?_
  refine cm_seq ?_
  refine cm_cutE [(16, .bool ((decide (100 < (List.length p0 : Int))) || (decide (100 < (List.length p1.Outcome.Won : Int)))))] ?_ ?_
  · skip
    refine wq_val 7 (by kernel_rfl) (fun w1 c1 => (op_move (v := .slice _ _ _) rfl)) ?_
    refine wq_val 8 (by kernel_rfl) (fun w1 c1 => (op_lenN rfl (by kernel_rfl) hz_p0.2.2)) ?_
    refine wq_dec 9 (by kernel_rfl) (fun w1 c1 => (op_gtr rfl rfl)) (fun h2 => ?_) (fun h2 => ?_)
    · skip
      refine wq_val 10 (by kernel_rfl) (fun w1 c1 => (op_move (v := .bool true) rfl)) ?_
      refine wq_skip 11 (by kernel_rfl) ?_
      refine wq_skip 12 (by kernel_rfl) ?_
      refine wq_skip 13 (by kernel_rfl) ?_
      refine wq_skip 14 (by kernel_rfl) ?_
      refine wq_skip 15 (by kernel_rfl) ?_
      refine wq_val 16 (by kernel_rfl) (fun w1 c1 => (op_pick_t (v := .bool true) rfl rfl)) ?_
      exact leaf_q (sub_out 10 _ rfl (by kernel_rfl) ⟨(congrArg Value.bool (by rw [decide_eq_true h2] <;> rfl)), trivial⟩)
    · skip
      refine wq_val 10 (by kernel_rfl) (fun w1 c1 => (op_move (v := .bool false) rfl)) ?_
      refine wq_val 11 (by kernel_rfl) (fun w1 c1 => (op_fieldL (m := 2) (k := 2) rfl (by kernel_rfl) rfl)) ?_
      refine wq_val 12 (by kernel_rfl) (fun w1 c1 => (op_fieldL (m := 0) (k := 2) rfl (by kernel_rfl) rfl)) ?_
      refine wq_val 13 (by kernel_rfl) (fun w1 c1 => (op_load rfl (by kernel_rfl) (c1.cell 0 (u := .slice _ _ _) rfl rfl))) ?_
      refine wq_val 14 (by kernel_rfl) (fun w1 c1 => (op_lenN rfl (by kernel_rfl) hz_p11.2.2)) ?_
      refine wq_val 15 (by kernel_rfl) (fun w1 c1 => (op_gtr rfl rfl)) ?_
      refine wq_val 16 (by kernel_rfl) (fun w1 c1 => (op_pick_f (v := .bool _) rfl rfl)) ?_
      exact leaf_q (sub_out 10 _ rfl (by kernel_rfl) ⟨(congrArg Value.bool (by rw [decide_eq_false h2] <;> rfl)), trivial⟩)
  refine xm_next ?_
  refine cm_condB (by kernel_rfl) rfl (fun h3 => ?_) (fun h3 => ?_)
  · skip
    refine cm_seq ?_
    refine cm_region ?_
    refine lm_call 17 (V := (fun (r : Bool) (_u : Unit) => .bool r)) (HR := (fun (_r : Bool) (_u : Unit) => [])) (by kernel_rfl) (fun w1 => op_call (by kernel_rfl)) (fun r1 hr1 w1 c1 => m_recyclinglaw51_awake_ok N w1   r1 hr1) ?_
    intro r4 u5
    refine lm_val 4 (by kernel_rfl) (fun w1 c1 => (op_assign (v := .bool _) rfl)) ?_
    refine lm_nil ?_
    refine xm_next ?_
    refine cm_ret ?_
    refine xm_thenR ?_
    exact xm_retT rfl (by kernel_rfl) (show _ = Value.bool _ from rfl) fun w1 c1 => ⟨(), rfl, hsub [] (by kernel_rfl) rfl w1 c1⟩
  · skip
    refine cm_skip ?_
    refine xm_next ?_
    refine cm_seq ?_
    refine cm_region ?_
    refine lm_val 19 (by kernel_rfl) (fun w1 c1 => (op_move (v := .slice _ _ _) rfl)) ?_
    refine lm_val 20 (by kernel_rfl) (fun w1 c1 => (op_fieldL (m := 0) (k := 0) rfl (by kernel_rfl) rfl)) ?_
    refine lm_val 21 (by kernel_rfl) (fun w1 c1 => (op_load rfl (by kernel_rfl) (c1.cell 0 (u := .int .i64 _) rfl rfl))) ?_
    refine lm_val 22 (by kernel_rfl) (fun w1 c1 => (op_fieldL (m := 1) (k := 1) rfl (by kernel_rfl) rfl)) ?_
    refine lm_val 23 (by kernel_rfl) (fun w1 c1 => (op_load rfl (by kernel_rfl) (c1.cell 0 (u := .int .i64 _) rfl rfl))) ?_
    refine lm_call 24 (V := (fun (r : ApiOutcome × Int) (u : (Option Addr) × Nat × Nat) => .tuple #[.agg #[.slice u.1 u.2.1 u.2.2, .int .i64 r.1.Price], .int .i64 r.2])) (HR := (fun (r : ApiOutcome × Int) (u : (Option Addr) × Nat × Nat) => [ownE 3 1 encI u.1 u.2.1 u.2.2 r.1.Won])) (by kernel_rfl) (fun w1 => op_call (by kernel_rfl)) (fun r1 hr1 w1 c1 => m_auction_Run_ok N w1 p0 p1.Supply p1.Reserve A_p0 n_p0 c_p0 (hr_p0.old c1) hz_p0 r1 hr1) ?_
    intro r6 u7
    refine lm_val 18 (by kernel_rfl) (fun w1 c1 => (op_move (v := .tuple _) rfl)) ?_
    refine lm_val 25 (by kernel_rfl) (fun w1 c1 => (op_extract (v := .agg _) rfl rfl)) ?_
    refine lm_val 26 (by kernel_rfl) (fun w1 c1 => (op_extract (v := .int .i64 _) rfl rfl)) ?_
    refine lm_alloc 5 [.slice none 0 0, .int .i64 0] (v := .agg #[.slice none 0 0, .int .i64 0]) (by kernel_rfl) (by kernel_rfl) rfl ?_
    intro b8
    refine lm_storeA 0 [.slice _ _ _, .int .i64 _] [_, _] (H' := [blkE _ _ [_, _], _, _]) (by kernel_rfl) rfl rfl (by kernel_rfl) rfl rfl (by kernel_rfl) rfl rfl ?_
    refine lm_val 6 (by kernel_rfl) (fun w1 c1 => (op_assign (v := .int .i64 _) rfl)) ?_
    refine lm_nil ?_
    refine xm_next ?_
    refine cm_seq ?_
    refine cm_bind fun r9 h10 => ?_
    refine cm_bind fun r11 h12 => ?_
    refine cm_callIf fun r13 h14 => ?_
    refine cm_callIf fun r15 h16 => ?_
    refine cm_drawn [(4, .bool (((r9 == r11) && (r13 == (decide (r6.2 = 0)))) && r15))] (by kernel_rfl) (by kernel_rfl) ?_ ?_
    · skip
      refine wq_val 27 (by kernel_rfl) (fun w1 c1 => (op_move (v := .slice _ _ _) rfl)) ?_
      refine wq_val 28 (by kernel_rfl) (fun w1 c1 => (op_fieldL (m := 0) (k := 0) rfl (by kernel_rfl) rfl)) ?_
      refine wq_val 29 (by kernel_rfl) (fun w1 c1 => (op_load rfl (by kernel_rfl) (c1.cell 2 (u := .int .i64 _) rfl rfl))) ?_
      refine wq_val 30 (by kernel_rfl) (fun w1 c1 => (op_fieldL (m := 1) (k := 1) rfl (by kernel_rfl) rfl)) ?_
      refine wq_val 31 (by kernel_rfl) (fun w1 c1 => (op_load rfl (by kernel_rfl) (c1.cell 2 (u := .int .i64 _) rfl rfl))) ?_
      refine wq_val 32 (by kernel_rfl) (fun w1 c1 => (op_fieldL (m := 2) (k := 2) rfl (by kernel_rfl) rfl)) ?_
      refine wq_val 33 (by kernel_rfl) (fun w1 c1 => (op_loadR [.slice _ _ _, .int .i64 _] rfl (by kernel_rfl) (c1.cells 2 rfl rfl))) ?_
      refine wq_call 34 (by kernel_rfl) (fun w1 c1 => op_call (by kernel_rfl)) (fun w1 c1 => (m_auction_Holds_ok N w1 p0 p1.Supply p1.Reserve p1.Outcome A_p0 n_p0 c_p0 A_p11 n_p11 c_p11 (hr_p0.old c1) hz_p0 (hr_p11.old c1) hz_p11 r9 h10).mono (fun _ _ ⟨_, hx, hu⟩ => ⟨hx, c1.call hu⟩)) ?_
      refine wq_val 35 (by kernel_rfl) (fun w1 c1 => (op_move (v := .slice _ _ _) rfl)) ?_
      refine wq_val 36 (by kernel_rfl) (fun w1 c1 => (op_fieldL (m := 0) (k := 0) rfl (by kernel_rfl) rfl)) ?_
      refine wq_val 37 (by kernel_rfl) (fun w1 c1 => (op_load rfl (by kernel_rfl) (c1.cell 2 (u := .int .i64 _) rfl rfl))) ?_
      refine wq_val 38 (by kernel_rfl) (fun w1 c1 => (op_fieldL (m := 1) (k := 1) rfl (by kernel_rfl) rfl)) ?_
      refine wq_val 39 (by kernel_rfl) (fun w1 c1 => (op_load rfl (by kernel_rfl) (c1.cell 2 (u := .int .i64 _) rfl rfl))) ?_
      refine wq_val 40 (by kernel_rfl) (fun w1 c1 => (op_fieldL (m := 2) (k := 2) rfl (by kernel_rfl) rfl)) ?_
      refine wq_val 41 (by kernel_rfl) (fun w1 c1 => (op_loadR [.slice _ _ _, .int .i64 _] rfl (by kernel_rfl) (c1.cells 2 rfl rfl))) ?_
      refine wq_call 42 (by kernel_rfl) (fun w1 c1 => op_call (by kernel_rfl)) (fun w1 c1 => (m_recyclingref51_Holds_ok N w1 p0 p1.Supply p1.Reserve p1.Outcome A_p0 n_p0 c_p0 A_p11 n_p11 c_p11 (hr_p0.old c1) hz_p0 (hr_p11.old c1) hz_p11 r11 h12).mono (fun _ _ ⟨_, hx, hu⟩ => ⟨hx, c1.call hu⟩)) ?_
      refine wq_bool 43 (by kernel_rfl) (fun w1 c1 => (op_eqlB rfl rfl (by kernel_rfl))) (fun h17 => ?_) (fun h17 => ?_)
      · skip
        refine wq_val 44 (by kernel_rfl) (fun w1 c1 => (op_move (v := .bool true) rfl)) ?_
        refine wq_val 45 (by kernel_rfl) (fun w1 c1 => (op_move (v := .slice _ _ _) rfl)) ?_
        refine wq_val 46 (by kernel_rfl) (fun w1 c1 => (op_fieldL (m := 0) (k := 0) rfl (by kernel_rfl) rfl)) ?_
        refine wq_val 47 (by kernel_rfl) (fun w1 c1 => (op_load rfl (by kernel_rfl) (c1.cell 2 (u := .int .i64 _) rfl rfl))) ?_
        refine wq_val 48 (by kernel_rfl) (fun w1 c1 => (op_fieldL (m := 1) (k := 1) rfl (by kernel_rfl) rfl)) ?_
        refine wq_val 49 (by kernel_rfl) (fun w1 c1 => (op_load rfl (by kernel_rfl) (c1.cell 2 (u := .int .i64 _) rfl rfl))) ?_
        refine wq_val 50 (by kernel_rfl) (fun w1 c1 => (op_loadR [.slice _ _ _, .int .i64 _] rfl (by kernel_rfl) (c1.cells 0 rfl rfl))) ?_
        refine wq_call 51 (by kernel_rfl) (fun w1 c1 => op_call (by kernel_rfl)) (fun w1 c1 => (m_auction_Holds_ok N w1 p0 p1.Supply p1.Reserve r6.1 A_p0 n_p0 c_p0 u7.1 u7.2.1 u7.2.2 (hr_p0.old c1) hz_p0 (c1.own 1 rfl encI_len) (c1.ownZ 1 rfl) r13 (h14 (by rw [h17] <;> rfl))).mono (fun _ _ ⟨_, hx, hu⟩ => ⟨hx, c1.call hu⟩)) ?_
        refine wq_val 52 (by kernel_rfl) (fun w1 c1 => (op_move (v := .int .i64 _) rfl)) ?_
        refine wq_val 53 (by kernel_rfl) (fun w1 c1 => (op_eql rfl rfl)) ?_
        refine wq_bool 54 (by kernel_rfl) (fun w1 c1 => (op_eqlB rfl rfl (by kernel_rfl))) (fun h18 => ?_) (fun h18 => ?_)
        · skip
          refine wq_val 55 (by kernel_rfl) (fun w1 c1 => (op_pick_t (v := .bool true) rfl rfl)) ?_
          refine wq_val 56 (by kernel_rfl) (fun w1 c1 => (op_move (v := .bool true) rfl)) ?_
          refine wq_call 57 (by kernel_rfl) (fun w1 c1 => op_call (by kernel_rfl)) (fun w1 c1 => (m_recyclinglaw51_awake_ok N w1   r15 (h16 (by rw [h17, h18] <;> rfl))).mono (fun _ _ ⟨_, hx, hu⟩ => ⟨hx, c1.call hu⟩)) ?_
          refine wq_val 58 (by kernel_rfl) (fun w1 c1 => (op_pick_t (v := .bool _) rfl rfl)) ?_
          refine wq_val 4 (by kernel_rfl) (fun w1 c1 => (op_assign (v := .bool _) rfl)) ?_
          exact leaf_q (sub_out 33 _ rfl (by kernel_rfl) ⟨(congrArg Value.bool (by rw [h17, h18] <;> rfl)), trivial⟩)
        · skip
          refine wq_val 55 (by kernel_rfl) (fun w1 c1 => (op_pick_t (v := .bool false) rfl rfl)) ?_
          refine wq_val 56 (by kernel_rfl) (fun w1 c1 => (op_move (v := .bool false) rfl)) ?_
          refine wq_skip 57 (by kernel_rfl) ?_
          refine wq_val 58 (by kernel_rfl) (fun w1 c1 => (op_pick_f (v := .bool false) rfl rfl)) ?_
          refine wq_val 4 (by kernel_rfl) (fun w1 c1 => (op_assign (v := .bool false) rfl)) ?_
          exact leaf_q (sub_out 33 _ rfl (by kernel_rfl) ⟨(congrArg Value.bool (by rw [h17, h18] <;> rfl)), trivial⟩)
      · skip
        refine wq_val 44 (by kernel_rfl) (fun w1 c1 => (op_move (v := .bool false) rfl)) ?_
        refine wq_skip 45 (by kernel_rfl) ?_
        refine wq_skip 46 (by kernel_rfl) ?_
        refine wq_skip 47 (by kernel_rfl) ?_
        refine wq_skip 48 (by kernel_rfl) ?_
        refine wq_skip 49 (by kernel_rfl) ?_
        refine wq_skip 50 (by kernel_rfl) ?_
        refine wq_skip 51 (by kernel_rfl) ?_
        refine wq_skip 52 (by kernel_rfl) ?_
        refine wq_skip 53 (by kernel_rfl) ?_
        refine wq_skip 54 (by kernel_rfl) ?_
        refine wq_val 55 (by kernel_rfl) (fun w1 c1 => (op_pick_f (v := .bool false) rfl rfl)) ?_
        refine wq_val 56 (by kernel_rfl) (fun w1 c1 => (op_move (v := .bool false) rfl)) ?_
        refine wq_skip 57 (by kernel_rfl) ?_
        refine wq_val 58 (by kernel_rfl) (fun w1 c1 => (op_pick_f (v := .bool false) rfl rfl)) ?_
        refine wq_val 4 (by kernel_rfl) (fun w1 c1 => (op_assign (v := .bool false) rfl)) ?_
        exact leaf_q (sub_out 33 _ rfl (by kernel_rfl) ⟨(congrArg Value.bool (by rw [h17] <;> rfl)), trivial⟩)
    refine xm_next ?_
    refine cm_ret ?_
    exact xm_retT rfl (by kernel_rfl) (show _ = Value.bool _ from rfl) fun w1 c1 => ⟨(), rfl, hsub [] (by kernel_rfl) rfl w1 c1⟩
end Go.Proofs.Ytimmifkdocjljaa
