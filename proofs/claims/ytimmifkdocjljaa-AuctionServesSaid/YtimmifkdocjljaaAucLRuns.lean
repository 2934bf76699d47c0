/- Models of functions, and that the code follows them. Written by deco.py. -/
import Derived.Test.YtimmifkdocjljaaAucAwake
namespace Go.Proofs.Ytimmifkdocjljaa
open Go.RowKit

/-- recyclinglaw51.AuctionRuns -/
def m_recyclinglaw51_AuctionRuns (N : Nat) (p0 : (List ApiBid)) (p1 : Int) (p2 : Int) : Option (Bool) :=
  (if 100 < (List.length p0 : Int) then
    Option.bind (m_recyclinglaw51_awake N) fun r2 => some (r2)
  else
    Option.bind (m_auction_Run N p0 p1 p2) fun r4 => Option.bind (m_recyclingref51_Run N p0 p1 p2) fun r7 => Option.bind (m_recyclingref51_Same N r4.1 r7.1) fun r10 => callIf ((r10 && (decide (r4.2 = r7.2))) = true) (m_recyclinglaw51_awake N) fun r12 => some (((r10 && (decide (r4.2 = r7.2))) && r12)))
set_option maxRecDepth 20000 in
theorem m_recyclinglaw51_AuctionRuns_ok (N : Nat) (w0 : World) (p0 : (List ApiBid)) (p1 : Int) (p2 : Int) (A_p0 : Option Addr) (n_p0 c_p0 : Nat) (hr_p0 : RdE w0 3 encApiBid A_p0 p0) (hz_p0 : SW A_p0 n_p0 c_p0 (List.length p0)) (r : Bool) (hr : m_recyclinglaw51_AuctionRuns N p0 p1 p2 = some r) :
    Calls Try.prog 4 [.slice A_p0 n_p0 c_p0, .int .i64 p1, .int .i64 p2].toArray w0 fun x w1 => ∃ u, x = .returned ((fun (r : Bool) (_u : Unit) => .bool r) r u) ∧ Hs w0 ((fun (_r : Bool) (_u : Unit) => []) r u) w1 := by
  refine calls_cm (n := 40) (R := fun r x w1 => ∃ u, x = .returned ((fun (r : Bool) (_u : Unit) => .bool r) r u) ∧ Hs w0 ((fun (_r : Bool) (_u : Unit) => []) r u) w1) Try.func4 rfl rfl (Nat.le_of_ble_eq_true rfl) ?_ r hr
  unfold m_recyclinglaw51_AuctionRuns
  refine cm_seq ?_
  refine cm_region ?_
  refine lm_val 6 (by kernel_rfl) (fun w1 c1 => (op_assign (v := .bool false) rfl)) ?_
  refine lm_nil ?_
  refine xm_next ?_
  refine cm_seq ?_
  refine cm_seq ?_
  refine cm_region ?_
  refine lm_val 11 (by kernel_rfl) (fun w1 c1 => (op_move (v := .slice _ _ _) rfl)) ?_
  refine lm_val 12 (by kernel_rfl) (fun w1 c1 => (op_lenN rfl (by kernel_rfl) hz_p0.2.2)) ?_
  refine lm_val 13 (by kernel_rfl) (fun w1 c1 => (op_gtr rfl rfl)) ?_
  refine lm_nil ?_
  refine xm_next ?_
  refine cm_cond (by kernel_rfl) rfl (fun h1 => ?_) (fun h1 => ?_)
  · skip
    refine cm_seq ?_
    refine cm_region ?_
    refine lm_call 14 (V := (fun (r : Bool) (_u : Unit) => .bool r)) (HR := (fun (_r : Bool) (_u : Unit) => [])) (by kernel_rfl) (fun w1 => op_call (by kernel_rfl)) (fun r1 hr1 w1 c1 => m_recyclinglaw51_awake_ok N w1   r1 hr1) ?_
    intro r2 u3
    refine lm_val 6 (by kernel_rfl) (fun w1 c1 => (op_assign (v := .bool _) rfl)) ?_
    refine lm_nil ?_
    refine xm_next ?_
    refine cm_ret ?_
    refine xm_thenR ?_
    exact xm_retT rfl (by kernel_rfl) (show _ = Value.bool _ from rfl) fun w1 c1 => ⟨(), rfl, hsub [] (by kernel_rfl) rfl w1 c1⟩
  · skip
    refine cm_skip ?_
    refine xm_next ?_
    refine cm_seq ?_
    refine cm_region ?_
    refine lm_val 16 (by kernel_rfl) (fun w1 c1 => (op_move (v := .slice _ _ _) rfl)) ?_
    refine lm_val 17 (by kernel_rfl) (fun w1 c1 => (op_move (v := .int .i64 _) rfl)) ?_
    refine lm_val 18 (by kernel_rfl) (fun w1 c1 => (op_move (v := .int .i64 _) rfl)) ?_
    refine lm_call 19 (V := (fun (r : ApiOutcome × Int) (u : (Option Addr) × Nat × Nat) => .tuple #[.agg #[.slice u.1 u.2.1 u.2.2, .int .i64 r.1.Price], .int .i64 r.2])) (HR := (fun (r : ApiOutcome × Int) (u : (Option Addr) × Nat × Nat) => [ownE 3 1 encI u.1 u.2.1 u.2.2 r.1.Won])) (by kernel_rfl) (fun w1 => op_call (by kernel_rfl)) (fun r1 hr1 w1 c1 => m_auction_Run_ok N w1 p0 p1 p2 A_p0 n_p0 c_p0 (hr_p0.old c1) hz_p0 r1 hr1) ?_
    intro r4 u5
    refine lm_val 15 (by kernel_rfl) (fun w1 c1 => (op_move (v := .tuple _) rfl)) ?_
    refine lm_val 20 (by kernel_rfl) (fun w1 c1 => (op_extract (v := .agg _) rfl rfl)) ?_
    refine lm_val 21 (by kernel_rfl) (fun w1 c1 => (op_extract (v := .int .i64 _) rfl rfl)) ?_
    refine lm_alloc 7 [.slice none 0 0, .int .i64 0] (v := .agg #[.slice none 0 0, .int .i64 0]) (by kernel_rfl) (by kernel_rfl) rfl ?_
    intro b6
    refine lm_storeA 0 [.slice _ _ _, .int .i64 _] [_, _] (H' := [blkE _ _ [_, _], _]) (by kernel_rfl) rfl rfl (by kernel_rfl) rfl rfl (by kernel_rfl) rfl rfl ?_
    refine lm_val 8 (by kernel_rfl) (fun w1 c1 => (op_assign (v := .int .i64 _) rfl)) ?_
    refine lm_nil ?_
    refine xm_next ?_
    refine cm_seq ?_
    refine cm_region ?_
    refine lm_val 23 (by kernel_rfl) (fun w1 c1 => (op_move (v := .slice _ _ _) rfl)) ?_
    refine lm_val 24 (by kernel_rfl) (fun w1 c1 => (op_move (v := .int .i64 _) rfl)) ?_
    refine lm_val 25 (by kernel_rfl) (fun w1 c1 => (op_move (v := .int .i64 _) rfl)) ?_
    refine lm_call 26 (V := (fun (r : ApiOutcome × Int) (u : (Option Addr) × Nat × Nat) => .tuple #[.agg #[.slice u.1 u.2.1 u.2.2, .int .i64 r.1.Price], .int .i64 r.2])) (HR := (fun (r : ApiOutcome × Int) (u : (Option Addr) × Nat × Nat) => [ownE 3 1 encI u.1 u.2.1 u.2.2 r.1.Won])) (by kernel_rfl) (fun w1 => op_call (by kernel_rfl)) (fun r1 hr1 w1 c1 => m_recyclingref51_Run_ok N w1 p0 p1 p2 A_p0 n_p0 c_p0 (hr_p0.old c1) hz_p0 r1 hr1) ?_
    intro r7 u8
    refine lm_val 22 (by kernel_rfl) (fun w1 c1 => (op_move (v := .tuple _) rfl)) ?_
    refine lm_val 27 (by kernel_rfl) (fun w1 c1 => (op_extract (v := .agg _) rfl rfl)) ?_
    refine lm_val 28 (by kernel_rfl) (fun w1 c1 => (op_extract (v := .int .i64 _) rfl rfl)) ?_
    refine lm_alloc 9 [.slice none 0 0, .int .i64 0] (v := .agg #[.slice none 0 0, .int .i64 0]) (by kernel_rfl) (by kernel_rfl) rfl ?_
    intro b9
    refine lm_storeA 0 [.slice _ _ _, .int .i64 _] [_, _] (H' := [blkE _ _ [_, _], _, _, _]) (by kernel_rfl) rfl rfl (by kernel_rfl) rfl rfl (by kernel_rfl) rfl rfl ?_
    refine lm_val 10 (by kernel_rfl) (fun w1 c1 => (op_assign (v := .int .i64 _) rfl)) ?_
    refine lm_nil ?_
    refine xm_next ?_
    refine cm_seq ?_
    refine cm_bind fun r10 h11 => ?_
    refine cm_callIf fun r12 h13 => ?_
    refine cm_cutE [(6, .bool ((r10 && (decide (r4.2 = r7.2))) && r12))] ?_ ?_
    · skip
      refine wq_val 29 (by kernel_rfl) (fun w1 c1 => (op_loadR [.slice _ _ _, .int .i64 _] rfl (by kernel_rfl) (c1.cells 2 rfl rfl))) ?_
      refine wq_val 30 (by kernel_rfl) (fun w1 c1 => (op_loadR [.slice _ _ _, .int .i64 _] rfl (by kernel_rfl) (c1.cells 0 rfl rfl))) ?_
      refine wq_callb 31 (by kernel_rfl) (fun w1 c1 => op_call (by kernel_rfl)) (fun w1 c1 => (m_recyclingref51_Same_ok N w1 r4.1 r7.1 u5.1 u5.2.1 u5.2.2 u8.1 u8.2.1 u8.2.2 (c1.own 3 rfl encI_len) (c1.ownZ 3 rfl) (c1.own 1 rfl encI_len) (c1.ownZ 1 rfl) r10 h11).mono (fun _ _ ⟨_, hx, hu⟩ => ⟨hx, c1.call hu⟩)) (fun h14 => ?_) (fun h14 => ?_)
      · skip
        refine wq_val 32 (by kernel_rfl) (fun w1 c1 => (op_move (v := .bool true) rfl)) ?_
        refine wq_val 33 (by kernel_rfl) (fun w1 c1 => (op_move (v := .int .i64 _) rfl)) ?_
        refine wq_val 34 (by kernel_rfl) (fun w1 c1 => (op_move (v := .int .i64 _) rfl)) ?_
        refine wq_dec 35 (by kernel_rfl) (fun w1 c1 => (op_eql rfl rfl)) (fun h15 => ?_) (fun h15 => ?_)
        · skip
          refine wq_val 36 (by kernel_rfl) (fun w1 c1 => (op_pick_t (v := .bool true) rfl rfl)) ?_
          refine wq_val 37 (by kernel_rfl) (fun w1 c1 => (op_move (v := .bool true) rfl)) ?_
          refine wq_call 38 (by kernel_rfl) (fun w1 c1 => op_call (by kernel_rfl)) (fun w1 c1 => (m_recyclinglaw51_awake_ok N w1   r12 (h13 (by rw [h14, decide_eq_true h15] <;> rfl))).mono (fun _ _ ⟨_, hx, hu⟩ => ⟨hx, c1.call hu⟩)) ?_
          refine wq_val 39 (by kernel_rfl) (fun w1 c1 => (op_pick_t (v := .bool _) rfl rfl)) ?_
          refine wq_val 6 (by kernel_rfl) (fun w1 c1 => (op_assign (v := .bool _) rfl)) ?_
          exact leaf_q (sub_out 12 _ rfl (by kernel_rfl) ⟨(congrArg Value.bool (by rw [h14, decide_eq_true h15] <;> rfl)), trivial⟩)
        · skip
          refine wq_val 36 (by kernel_rfl) (fun w1 c1 => (op_pick_t (v := .bool false) rfl rfl)) ?_
          refine wq_val 37 (by kernel_rfl) (fun w1 c1 => (op_move (v := .bool false) rfl)) ?_
          refine wq_skip 38 (by kernel_rfl) ?_
          refine wq_val 39 (by kernel_rfl) (fun w1 c1 => (op_pick_f (v := .bool false) rfl rfl)) ?_
          refine wq_val 6 (by kernel_rfl) (fun w1 c1 => (op_assign (v := .bool false) rfl)) ?_
          exact leaf_q (sub_out 12 _ rfl (by kernel_rfl) ⟨(congrArg Value.bool (by rw [h14, decide_eq_false h15] <;> rfl)), trivial⟩)
      · skip
        refine wq_val 32 (by kernel_rfl) (fun w1 c1 => (op_move (v := .bool false) rfl)) ?_
        refine wq_skip 33 (by kernel_rfl) ?_
        refine wq_skip 34 (by kernel_rfl) ?_
        refine wq_skip 35 (by kernel_rfl) ?_
        refine wq_val 36 (by kernel_rfl) (fun w1 c1 => (op_pick_f (v := .bool false) rfl rfl)) ?_
        refine wq_val 37 (by kernel_rfl) (fun w1 c1 => (op_move (v := .bool false) rfl)) ?_
        refine wq_skip 38 (by kernel_rfl) ?_
        refine wq_val 39 (by kernel_rfl) (fun w1 c1 => (op_pick_f (v := .bool false) rfl rfl)) ?_
        refine wq_val 6 (by kernel_rfl) (fun w1 c1 => (op_assign (v := .bool false) rfl)) ?_
        exact leaf_q (sub_out 12 _ rfl (by kernel_rfl) ⟨(congrArg Value.bool (by rw [h14] <;> rfl)), trivial⟩)
    refine xm_next ?_
    refine cm_ret ?_
    exact xm_retT rfl (by kernel_rfl) (show _ = Value.bool _ from rfl) fun w1 c1 => ⟨(), rfl, hsub [] (by kernel_rfl) rfl w1 c1⟩
end Go.Proofs.Ytimmifkdocjljaa
