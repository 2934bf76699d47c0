/- Models of functions, and that the code follows them. Written by deco.py. -/
import Derived.Test.YtimmifkdocjljaaAucAwake
namespace Go.Proofs.Ytimmifkdocjljaa
open Go.RowKit

/-- recyclinglaw51.AuctionAccounts -/
def m_recyclinglaw51_AuctionAccounts (N : Nat) (p0 : ApiOutcome) (p1 : Int) (p2 : Int) : Option (Bool) :=
  (if 100 < (List.length p0.Won : Int) then
    Option.bind (m_recyclinglaw51_awake N) fun r3 => some (r3)
  else
    Option.bind (m_auction_Revenue N p0) fun r5 => Option.bind (m_recyclingref51_Revenue N p0) fun r7 => Option.bind (m_auction_Gain N p0 p1 p2) fun r9 => Option.bind (m_recyclingref51_Gain N p0 p1 p2) fun r11 => callIf (((((decide (r5.1 = r7.1)) && (decide (r5.2 = r7.2))) && (decide (r9.1 = r11.1))) && (decide (r9.2 = r11.2))) = true) (m_recyclinglaw51_awake N) fun r13 => some ((((((decide (r5.1 = r7.1)) && (decide (r5.2 = r7.2))) && (decide (r9.1 = r11.1))) && (decide (r9.2 = r11.2))) && r13)))
set_option maxRecDepth 20000 in
theorem m_recyclinglaw51_AuctionAccounts_ok (N : Nat) (w0 : World) (p0 : ApiOutcome) (p1 : Int) (p2 : Int) (A_p01 : Option Addr) (n_p01 c_p01 : Nat) (hr_p01 : RdE w0 1 encI A_p01 p0.Won) (hz_p01 : SW A_p01 n_p01 c_p01 (List.length p0.Won)) (r : Bool) (hr : m_recyclinglaw51_AuctionAccounts N p0 p1 p2 = some r) :
    Calls Try.prog 5 [.agg #[.slice A_p01 n_p01 c_p01, .int .i64 p0.Price], .int .i64 p1, .int .i64 p2].toArray w0 fun x w1 => ∃ u, x = .returned ((fun (r : Bool) (_u : Unit) => .bool r) r u) ∧ Hs w0 ((fun (_r : Bool) (_u : Unit) => []) r u) w1 := by
  refine calls_cm (n := 65) (R := fun r x w1 => ∃ u, x = .returned ((fun (r : Bool) (_u : Unit) => .bool r) r u) ∧ Hs w0 ((fun (_r : Bool) (_u : Unit) => []) r u) w1) Try.func5 rfl rfl (Nat.le_of_ble_eq_true rfl) ?_ r hr
  unfold m_recyclinglaw51_AuctionAccounts
  refine cm_seq ?_
  refine cm_region ?_
  refine lm_box 3 [.slice _ _ _, .int .i64 _] (by kernel_rfl) rfl ?_
  intro b1
  refine lm_val 6 (by kernel_rfl) (fun w1 c1 => (op_assign (v := .bool false) rfl)) ?_
  refine lm_nil ?_
  refine xm_next ?_
  refine cm_seq ?_
  refine cm_seq ?_
  refine cm_region ?_
  refine lm_val 15 (by kernel_rfl) (fun w1 c1 => (op_fieldL (m := 0) (k := 0) rfl (by kernel_rfl) rfl)) ?_
  refine lm_val 16 (by kernel_rfl) (fun w1 c1 => (op_load rfl (by kernel_rfl) (c1.cell 0 (u := .slice _ _ _) rfl rfl))) ?_
  refine lm_val 17 (by kernel_rfl) (fun w1 c1 => (op_lenN rfl (by kernel_rfl) hz_p01.2.2)) ?_
  refine lm_val 18 (by kernel_rfl) (fun w1 c1 => (op_gtr rfl rfl)) ?_
  refine lm_nil ?_
  refine xm_next ?_
  refine cm_cond (by kernel_rfl) rfl (fun h2 => ?_) (fun h2 => ?_)
  · skip
    refine cm_seq ?_
    refine cm_region ?_
    refine lm_call 19 (V := (fun (r : Bool) (_u : Unit) => .bool r)) (HR := (fun (_r : Bool) (_u : Unit) => [])) (by kernel_rfl) (fun w1 => op_call (by kernel_rfl)) (fun r1 hr1 w1 c1 => m_recyclinglaw51_awake_ok N w1   r1 hr1) ?_
    intro r3 u4
    refine lm_val 6 (by kernel_rfl) (fun w1 c1 => (op_assign (v := .bool _) rfl)) ?_
    refine lm_nil ?_
    refine xm_next ?_
    refine cm_ret ?_
    refine xm_thenR ?_
    exact xm_retT rfl (by kernel_rfl) (show _ = Value.bool _ from rfl) fun w1 c1 => ⟨(), rfl, hsub [] (by kernel_rfl) rfl w1 c1⟩
  · skip
    refine cm_skip ?_
    refine xm_next ?_
    refine cm_seq ?_
    refine cm_region ?_
    refine lm_val 21 (by kernel_rfl) (fun w1 c1 => (op_loadR [.slice _ _ _, .int .i64 _] rfl (by kernel_rfl) (c1.cells 0 rfl rfl))) ?_
    refine lm_call 22 (V := (fun (r : Int × Int) (_u : Unit) => .tuple #[.int .i64 r.1, .int .i64 r.2])) (HR := (fun (_r : Int × Int) (_u : Unit) => [])) (by kernel_rfl) (fun w1 => op_call (by kernel_rfl)) (fun r1 hr1 w1 c1 => m_auction_Revenue_ok N w1 p0 A_p01 n_p01 c_p01 (hr_p01.old c1) hz_p01 r1 hr1) ?_
    intro r5 u6
    refine lm_val 20 (by kernel_rfl) (fun w1 c1 => (op_move (v := .tuple _) rfl)) ?_
    refine lm_val 23 (by kernel_rfl) (fun w1 c1 => (op_extract (v := .int .i64 _) rfl rfl)) ?_
    refine lm_val 24 (by kernel_rfl) (fun w1 c1 => (op_extract (v := .int .i64 _) rfl rfl)) ?_
    refine lm_val 7 (by kernel_rfl) (fun w1 c1 => (op_assign (v := .int .i64 _) rfl)) ?_
    refine lm_val 8 (by kernel_rfl) (fun w1 c1 => (op_assign (v := .int .i64 _) rfl)) ?_
    refine lm_nil ?_
    refine xm_next ?_
    refine cm_seq ?_
    refine cm_region ?_
    refine lm_val 26 (by kernel_rfl) (fun w1 c1 => (op_loadR [.slice _ _ _, .int .i64 _] rfl (by kernel_rfl) (c1.cells 0 rfl rfl))) ?_
    refine lm_call 27 (V := (fun (r : Int × Int) (_u : Unit) => .tuple #[.int .i64 r.1, .int .i64 r.2])) (HR := (fun (_r : Int × Int) (_u : Unit) => [])) (by kernel_rfl) (fun w1 => op_call (by kernel_rfl)) (fun r1 hr1 w1 c1 => m_recyclingref51_Revenue_ok N w1 p0 A_p01 n_p01 c_p01 (hr_p01.old c1) hz_p01 r1 hr1) ?_
    intro r7 u8
    refine lm_val 25 (by kernel_rfl) (fun w1 c1 => (op_move (v := .tuple _) rfl)) ?_
    refine lm_val 28 (by kernel_rfl) (fun w1 c1 => (op_extract (v := .int .i64 _) rfl rfl)) ?_
    refine lm_val 29 (by kernel_rfl) (fun w1 c1 => (op_extract (v := .int .i64 _) rfl rfl)) ?_
    refine lm_val 9 (by kernel_rfl) (fun w1 c1 => (op_assign (v := .int .i64 _) rfl)) ?_
    refine lm_val 10 (by kernel_rfl) (fun w1 c1 => (op_assign (v := .int .i64 _) rfl)) ?_
    refine lm_nil ?_
    refine xm_next ?_
    refine cm_seq ?_
    refine cm_region ?_
    refine lm_val 31 (by kernel_rfl) (fun w1 c1 => (op_loadR [.slice _ _ _, .int .i64 _] rfl (by kernel_rfl) (c1.cells 0 rfl rfl))) ?_
    refine lm_val 32 (by kernel_rfl) (fun w1 c1 => (op_move (v := .int .i64 _) rfl)) ?_
    refine lm_val 33 (by kernel_rfl) (fun w1 c1 => (op_move (v := .int .i64 _) rfl)) ?_
    refine lm_call 34 (V := (fun (r : Int × Int) (_u : Unit) => .tuple #[.int .i64 r.1, .int .i64 r.2])) (HR := (fun (_r : Int × Int) (_u : Unit) => [])) (by kernel_rfl) (fun w1 => op_call (by kernel_rfl)) (fun r1 hr1 w1 c1 => m_auction_Gain_ok N w1 p0 p1 p2 A_p01 n_p01 c_p01 (hr_p01.old c1) hz_p01 r1 hr1) ?_
    intro r9 u10
    refine lm_val 30 (by kernel_rfl) (fun w1 c1 => (op_move (v := .tuple _) rfl)) ?_
    refine lm_val 35 (by kernel_rfl) (fun w1 c1 => (op_extract (v := .int .i64 _) rfl rfl)) ?_
    refine lm_val 36 (by kernel_rfl) (fun w1 c1 => (op_extract (v := .int .i64 _) rfl rfl)) ?_
    refine lm_val 11 (by kernel_rfl) (fun w1 c1 => (op_assign (v := .int .i64 _) rfl)) ?_
    refine lm_val 12 (by kernel_rfl) (fun w1 c1 => (op_assign (v := .int .i64 _) rfl)) ?_
    refine lm_nil ?_
    refine xm_next ?_
    refine cm_seq ?_
    refine cm_region ?_
    refine lm_val 38 (by kernel_rfl) (fun w1 c1 => (op_loadR [.slice _ _ _, .int .i64 _] rfl (by kernel_rfl) (c1.cells 0 rfl rfl))) ?_
    refine lm_val 39 (by kernel_rfl) (fun w1 c1 => (op_move (v := .int .i64 _) rfl)) ?_
    refine lm_val 40 (by kernel_rfl) (fun w1 c1 => (op_move (v := .int .i64 _) rfl)) ?_
    refine lm_call 41 (V := (fun (r : Int × Int) (_u : Unit) => .tuple #[.int .i64 r.1, .int .i64 r.2])) (HR := (fun (_r : Int × Int) (_u : Unit) => [])) (by kernel_rfl) (fun w1 => op_call (by kernel_rfl)) (fun r1 hr1 w1 c1 => m_recyclingref51_Gain_ok N w1 p0 p1 p2 A_p01 n_p01 c_p01 (hr_p01.old c1) hz_p01 r1 hr1) ?_
    intro r11 u12
    refine lm_val 37 (by kernel_rfl) (fun w1 c1 => (op_move (v := .tuple _) rfl)) ?_
    refine lm_val 42 (by kernel_rfl) (fun w1 c1 => (op_extract (v := .int .i64 _) rfl rfl)) ?_
    refine lm_val 43 (by kernel_rfl) (fun w1 c1 => (op_extract (v := .int .i64 _) rfl rfl)) ?_
    refine lm_val 13 (by kernel_rfl) (fun w1 c1 => (op_assign (v := .int .i64 _) rfl)) ?_
    refine lm_val 14 (by kernel_rfl) (fun w1 c1 => (op_assign (v := .int .i64 _) rfl)) ?_
    refine lm_nil ?_
    refine xm_next ?_
    refine cm_seq ?_
    refine cm_callIf fun r13 h14 => ?_
    refine cm_cutE [(6, .bool (((((decide (r5.1 = r7.1)) && (decide (r5.2 = r7.2))) && (decide (r9.1 = r11.1))) && (decide (r9.2 = r11.2))) && r13))] ?_ ?_
    · skip
      refine wq_val 44 (by kernel_rfl) (fun w1 c1 => (op_move (v := .int .i64 _) rfl)) ?_
      refine wq_val 45 (by kernel_rfl) (fun w1 c1 => (op_move (v := .int .i64 _) rfl)) ?_
      refine wq_dec 46 (by kernel_rfl) (fun w1 c1 => (op_eql rfl rfl)) (fun h15 => ?_) (fun h15 => ?_)
      · skip
        refine wq_val 47 (by kernel_rfl) (fun w1 c1 => (op_move (v := .bool true) rfl)) ?_
        refine wq_val 48 (by kernel_rfl) (fun w1 c1 => (op_move (v := .int .i64 _) rfl)) ?_
        refine wq_val 49 (by kernel_rfl) (fun w1 c1 => (op_move (v := .int .i64 _) rfl)) ?_
        refine wq_dec 50 (by kernel_rfl) (fun w1 c1 => (op_eql rfl rfl)) (fun h16 => ?_) (fun h16 => ?_)
        · skip
          refine wq_val 51 (by kernel_rfl) (fun w1 c1 => (op_pick_t (v := .bool true) rfl rfl)) ?_
          refine wq_val 52 (by kernel_rfl) (fun w1 c1 => (op_move (v := .bool true) rfl)) ?_
          refine wq_val 53 (by kernel_rfl) (fun w1 c1 => (op_move (v := .int .i64 _) rfl)) ?_
          refine wq_val 54 (by kernel_rfl) (fun w1 c1 => (op_move (v := .int .i64 _) rfl)) ?_
          refine wq_dec 55 (by kernel_rfl) (fun w1 c1 => (op_eql rfl rfl)) (fun h17 => ?_) (fun h17 => ?_)
          · skip
            refine wq_val 56 (by kernel_rfl) (fun w1 c1 => (op_pick_t (v := .bool true) rfl rfl)) ?_
            refine wq_val 57 (by kernel_rfl) (fun w1 c1 => (op_move (v := .bool true) rfl)) ?_
            refine wq_val 58 (by kernel_rfl) (fun w1 c1 => (op_move (v := .int .i64 _) rfl)) ?_
            refine wq_val 59 (by kernel_rfl) (fun w1 c1 => (op_move (v := .int .i64 _) rfl)) ?_
            refine wq_dec 60 (by kernel_rfl) (fun w1 c1 => (op_eql rfl rfl)) (fun h18 => ?_) (fun h18 => ?_)
            · skip
              refine wq_val 61 (by kernel_rfl) (fun w1 c1 => (op_pick_t (v := .bool true) rfl rfl)) ?_
              refine wq_val 62 (by kernel_rfl) (fun w1 c1 => (op_move (v := .bool true) rfl)) ?_
              refine wq_call 63 (by kernel_rfl) (fun w1 c1 => op_call (by kernel_rfl)) (fun w1 c1 => (m_recyclinglaw51_awake_ok N w1   r13 (h14 (by rw [decide_eq_true h15, decide_eq_true h16, decide_eq_true h17, decide_eq_true h18] <;> rfl))).mono (fun _ _ ⟨_, hx, hu⟩ => ⟨hx, c1.call hu⟩)) ?_
              refine wq_val 64 (by kernel_rfl) (fun w1 c1 => (op_pick_t (v := .bool _) rfl rfl)) ?_
              refine wq_val 6 (by kernel_rfl) (fun w1 c1 => (op_assign (v := .bool _) rfl)) ?_
              exact leaf_q (sub_out 22 _ rfl (by kernel_rfl) ⟨(congrArg Value.bool (by rw [decide_eq_true h15, decide_eq_true h16, decide_eq_true h17, decide_eq_true h18] <;> rfl)), trivial⟩)
            · skip
              refine wq_val 61 (by kernel_rfl) (fun w1 c1 => (op_pick_t (v := .bool false) rfl rfl)) ?_
              refine wq_val 62 (by kernel_rfl) (fun w1 c1 => (op_move (v := .bool false) rfl)) ?_
              refine wq_skip 63 (by kernel_rfl) ?_
              refine wq_val 64 (by kernel_rfl) (fun w1 c1 => (op_pick_f (v := .bool false) rfl rfl)) ?_
              refine wq_val 6 (by kernel_rfl) (fun w1 c1 => (op_assign (v := .bool false) rfl)) ?_
              exact leaf_q (sub_out 22 _ rfl (by kernel_rfl) ⟨(congrArg Value.bool (by rw [decide_eq_true h15, decide_eq_true h16, decide_eq_true h17, decide_eq_false h18] <;> rfl)), trivial⟩)
          · skip
            refine wq_val 56 (by kernel_rfl) (fun w1 c1 => (op_pick_t (v := .bool false) rfl rfl)) ?_
            refine wq_val 57 (by kernel_rfl) (fun w1 c1 => (op_move (v := .bool false) rfl)) ?_
            refine wq_skip 58 (by kernel_rfl) ?_
            refine wq_skip 59 (by kernel_rfl) ?_
            refine wq_skip 60 (by kernel_rfl) ?_
            refine wq_val 61 (by kernel_rfl) (fun w1 c1 => (op_pick_f (v := .bool false) rfl rfl)) ?_
            refine wq_val 62 (by kernel_rfl) (fun w1 c1 => (op_move (v := .bool false) rfl)) ?_
            refine wq_skip 63 (by kernel_rfl) ?_
            refine wq_val 64 (by kernel_rfl) (fun w1 c1 => (op_pick_f (v := .bool false) rfl rfl)) ?_
            refine wq_val 6 (by kernel_rfl) (fun w1 c1 => (op_assign (v := .bool false) rfl)) ?_
            exact leaf_q (sub_out 22 _ rfl (by kernel_rfl) ⟨(congrArg Value.bool (by rw [decide_eq_true h15, decide_eq_true h16, decide_eq_false h17] <;> rfl)), trivial⟩)
        · skip
          refine wq_val 51 (by kernel_rfl) (fun w1 c1 => (op_pick_t (v := .bool false) rfl rfl)) ?_
          refine wq_val 52 (by kernel_rfl) (fun w1 c1 => (op_move (v := .bool false) rfl)) ?_
          refine wq_skip 53 (by kernel_rfl) ?_
          refine wq_skip 54 (by kernel_rfl) ?_
          refine wq_skip 55 (by kernel_rfl) ?_
          refine wq_val 56 (by kernel_rfl) (fun w1 c1 => (op_pick_f (v := .bool false) rfl rfl)) ?_
          refine wq_val 57 (by kernel_rfl) (fun w1 c1 => (op_move (v := .bool false) rfl)) ?_
          refine wq_skip 58 (by kernel_rfl) ?_
          refine wq_skip 59 (by kernel_rfl) ?_
          refine wq_skip 60 (by kernel_rfl) ?_
          refine wq_val 61 (by kernel_rfl) (fun w1 c1 => (op_pick_f (v := .bool false) rfl rfl)) ?_
          refine wq_val 62 (by kernel_rfl) (fun w1 c1 => (op_move (v := .bool false) rfl)) ?_
          refine wq_skip 63 (by kernel_rfl) ?_
          refine wq_val 64 (by kernel_rfl) (fun w1 c1 => (op_pick_f (v := .bool false) rfl rfl)) ?_
          refine wq_val 6 (by kernel_rfl) (fun w1 c1 => (op_assign (v := .bool false) rfl)) ?_
          exact leaf_q (sub_out 22 _ rfl (by kernel_rfl) ⟨(congrArg Value.bool (by rw [decide_eq_true h15, decide_eq_false h16] <;> rfl)), trivial⟩)
      · skip
        refine wq_val 47 (by kernel_rfl) (fun w1 c1 => (op_move (v := .bool false) rfl)) ?_
        refine wq_skip 48 (by kernel_rfl) ?_
        refine wq_skip 49 (by kernel_rfl) ?_
        refine wq_skip 50 (by kernel_rfl) ?_
        refine wq_val 51 (by kernel_rfl) (fun w1 c1 => (op_pick_f (v := .bool false) rfl rfl)) ?_
        refine wq_val 52 (by kernel_rfl) (fun w1 c1 => (op_move (v := .bool false) rfl)) ?_
        refine wq_skip 53 (by kernel_rfl) ?_
        refine wq_skip 54 (by kernel_rfl) ?_
        refine wq_skip 55 (by kernel_rfl) ?_
        refine wq_val 56 (by kernel_rfl) (fun w1 c1 => (op_pick_f (v := .bool false) rfl rfl)) ?_
        refine wq_val 57 (by kernel_rfl) (fun w1 c1 => (op_move (v := .bool false) rfl)) ?_
        refine wq_skip 58 (by kernel_rfl) ?_
        refine wq_skip 59 (by kernel_rfl) ?_
        refine wq_skip 60 (by kernel_rfl) ?_
        refine wq_val 61 (by kernel_rfl) (fun w1 c1 => (op_pick_f (v := .bool false) rfl rfl)) ?_
        refine wq_val 62 (by kernel_rfl) (fun w1 c1 => (op_move (v := .bool false) rfl)) ?_
        refine wq_skip 63 (by kernel_rfl) ?_
        refine wq_val 64 (by kernel_rfl) (fun w1 c1 => (op_pick_f (v := .bool false) rfl rfl)) ?_
        refine wq_val 6 (by kernel_rfl) (fun w1 c1 => (op_assign (v := .bool false) rfl)) ?_
        exact leaf_q (sub_out 22 _ rfl (by kernel_rfl) ⟨(congrArg Value.bool (by rw [decide_eq_false h15] <;> rfl)), trivial⟩)
    refine xm_next ?_
    refine cm_ret ?_
    exact xm_retT rfl (by kernel_rfl) (show _ = Value.bool _ from rfl) fun w1 c1 => ⟨(), rfl, hsub [] (by kernel_rfl) rfl w1 c1⟩
end Go.Proofs.Ytimmifkdocjljaa
