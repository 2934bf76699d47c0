/- Models of functions, and that the code follows them. Written by deco.py. -/
import Derived.Test.YtimmifkdocjljaaAucAwake
namespace Go.Proofs.Ytimmifkdocjljaa
open Go.RowKit

/-- recyclinglaw51.AuctionGrows -/
def m_recyclinglaw51_AuctionGrows (N : Nat) (p0 : (List ApiBid)) (p1 : Arr3Int) : Option (Bool) :=
  (if ((decide (60 < (List.length p0 : Int))) || (decide (p1.E1 < p1.E0))) = true then
    Option.bind (m_recyclinglaw51_awake N) fun r4 => some (r4)
  else
    Option.bind (m_auction_Run N p0 p1.E0 p1.E2) fun r6 => Option.bind (m_auction_Run N p0 p1.E1 p1.E2) fun r9 => (if ((decide (r6.2 ≠ 0)) || (decide (r9.2 ≠ 0))) = true then
      Option.bind (m_recyclinglaw51_awake N) fun r14 => some (r14)
    else
      (if (((decide ((List.length r6.1.Won : Int) ≠ (List.length p0 : Int))) || (decide ((List.length r9.1.Won : Int) ≠ (List.length p0 : Int)))) || (decide (r6.1.Price < r9.1.Price))) = true then
        some (false)
      else
        (andThen
          (loopM (fun (s56 : Int) =>
            (if s56 < (List.length p0 : Int) then
              ck ((0 : Int) ≤ s56 ∧ s56 < (List.length r9.1.Won : Int)) (
                ck ((0 : Int) ≤ s56 ∧ s56 < (List.length r6.1.Won : Int)) (
                  (if (ix r9.1.Won s56) < (ix r6.1.Won s56) then
                    some (.done (.done (false)))
                  else
                    ck (I64 (s56 + (1 : Int))) (
                      some (.next (s56 + (1 : Int)))))))
            else
              some (.done (.next ())))) N (0 : Int))
        fun (_s40 : Unit) =>
          Option.bind (m_recyclinglaw51_awake N) fun r63 => some (r63)))))
set_option maxRecDepth 20000 in
theorem m_recyclinglaw51_AuctionGrows_ok (N : Nat) (w0 : World) (p0 : (List ApiBid)) (p1 : Arr3Int) (A_p0 : Option Addr) (n_p0 c_p0 : Nat) (hr_p0 : RdE w0 3 encApiBid A_p0 p0) (hz_p0 : SW A_p0 n_p0 c_p0 (List.length p0)) (r : Bool) (hr : m_recyclinglaw51_AuctionGrows N p0 p1 = some r) :
    Calls Try.prog 10 [.slice A_p0 n_p0 c_p0, .agg #[.int .i64 p1.E0, .int .i64 p1.E1, .int .i64 p1.E2]].toArray w0 fun x w1 => ∃ u, x = .returned ((fun (r : Bool) (_u : Unit) => .bool r) r u) ∧ Hs w0 ((fun (_r : Bool) (_u : Unit) => []) r u) w1 := by
  refine calls_cm (n := 85) (R := fun r x w1 => ∃ u, x = .returned ((fun (r : Bool) (_u : Unit) => .bool r) r u) ∧ Hs w0 ((fun (_r : Bool) (_u : Unit) => []) r u) w1) Try.func10 rfl rfl (Nat.le_of_ble_eq_true rfl) ?_ r hr
  unfold m_recyclinglaw51_AuctionGrows
  refine cm_seq ?_
  refine cm_region ?_
  refine lm_box 3 [.int .i64 _, .int .i64 _, .int .i64 _] (by kernel_rfl) rfl ?_
  intro b1
  refine lm_val 4 (by kernel_rfl) (fun w1 c1 => (op_assign (v := .bool false) rfl)) ?_
  refine lm_nil ?_
  refine xm_next ?_
  refine cm_seq ?_
  refine cm_seq ?_
  refine cm_cutE [(19, .bool ((decide (60 < (List.length p0 : Int))) || (decide (p1.E1 < p1.E0))))] ?_ ?_
  · skip
    refine wq_val 10 (by kernel_rfl) (fun w1 c1 => (op_move (v := .slice _ _ _) rfl)) ?_
    refine wq_val 11 (by kernel_rfl) (fun w1 c1 => (op_lenN rfl (by kernel_rfl) hz_p0.2.2)) ?_
    refine wq_dec 12 (by kernel_rfl) (fun w1 c1 => (op_gtr rfl rfl)) (fun h2 => ?_) (fun h2 => ?_)
    · skip
      refine wq_val 13 (by kernel_rfl) (fun w1 c1 => (op_move (v := .bool true) rfl)) ?_
      refine wq_skip 14 (by kernel_rfl) ?_
      refine wq_skip 15 (by kernel_rfl) ?_
      refine wq_skip 16 (by kernel_rfl) ?_
      refine wq_skip 17 (by kernel_rfl) ?_
      refine wq_skip 18 (by kernel_rfl) ?_
      refine wq_val 19 (by kernel_rfl) (fun w1 c1 => (op_pick_t (v := .bool true) rfl rfl)) ?_
      exact leaf_q (sub_out 10 _ rfl (by kernel_rfl) ⟨(congrArg Value.bool (by rw [decide_eq_true h2] <;> rfl)), trivial⟩)
    · skip
      refine wq_val 13 (by kernel_rfl) (fun w1 c1 => (op_move (v := .bool false) rfl)) ?_
      refine wq_val 14 (by kernel_rfl) (fun w1 c1 => (op_indexArr (len := 3) (sz := 1) (k := 1) 1 rfl rfl rfl (by kernel_rfl) (by kernel_rfl) rfl)) ?_
      refine wq_val 15 (by kernel_rfl) (fun w1 c1 => (op_load rfl (by kernel_rfl) (c1.cell 0 (u := .int .i64 _) rfl rfl))) ?_
      refine wq_val 16 (by kernel_rfl) (fun w1 c1 => (op_indexArr (len := 3) (sz := 1) (k := 0) 0 rfl rfl rfl (by kernel_rfl) (by kernel_rfl) rfl)) ?_
      refine wq_val 17 (by kernel_rfl) (fun w1 c1 => (op_load rfl (by kernel_rfl) (c1.cell 0 (u := .int .i64 _) rfl rfl))) ?_
      refine wq_val 18 (by kernel_rfl) (fun w1 c1 => (op_lss rfl rfl)) ?_
      refine wq_val 19 (by kernel_rfl) (fun w1 c1 => (op_pick_f (v := .bool _) rfl rfl)) ?_
      exact leaf_q (sub_out 10 _ rfl (by kernel_rfl) ⟨(congrArg Value.bool (by rw [decide_eq_false h2] <;> rfl)), trivial⟩)
  refine xm_next ?_
  refine cm_condB (by kernel_rfl) rfl (fun h3 => ?_) (fun h3 => ?_)
  · skip
    refine cm_seq ?_
    refine cm_region ?_
    refine lm_call 20 (V := (fun (r : Bool) (_u : Unit) => .bool r)) (HR := (fun (_r : Bool) (_u : Unit) => [])) (by kernel_rfl) (fun w1 => op_call (by kernel_rfl)) (fun r1 hr1 w1 c1 => m_recyclinglaw51_awake_ok N w1   r1 hr1) ?_
    intro r4 u5
    refine lm_val 4 (by kernel_rfl) (fun w1 c1 => (op_assign (v := .bool _) rfl)) ?_
    refine lm_nil ?_
    refine xm_next ?_
    refine cm_ret ?_
    refine xm_thenR ?_
    exact xm_retT rfl (by kernel_rfl) (show _ = Value.bool _ from rfl) fun w1 c1 => ⟨(), rfl, hsub [] (by kernel_rfl) rfl w1 c1⟩
  · skip
    refine cm_skip ?_
    refine xm_next ?_
    refine cm_seq ?_
    refine cm_region ?_
    refine lm_val 22 (by kernel_rfl) (fun w1 c1 => (op_move (v := .slice _ _ _) rfl)) ?_
    refine lm_val 23 (by kernel_rfl) (fun w1 c1 => (op_indexArr (len := 3) (sz := 1) (k := 0) 0 rfl rfl rfl (by kernel_rfl) (by kernel_rfl) rfl)) ?_
    refine lm_val 24 (by kernel_rfl) (fun w1 c1 => (op_load rfl (by kernel_rfl) (c1.cell 0 (u := .int .i64 _) rfl rfl))) ?_
    refine lm_val 25 (by kernel_rfl) (fun w1 c1 => (op_indexArr (len := 3) (sz := 1) (k := 2) 2 rfl rfl rfl (by kernel_rfl) (by kernel_rfl) rfl)) ?_
    refine lm_val 26 (by kernel_rfl) (fun w1 c1 => (op_load rfl (by kernel_rfl) (c1.cell 0 (u := .int .i64 _) rfl rfl))) ?_
    refine lm_call 27 (V := (fun (r : ApiOutcome × Int) (u : (Option Addr) × Nat × Nat) => .tuple #[.agg #[.slice u.1 u.2.1 u.2.2, .int .i64 r.1.Price], .int .i64 r.2])) (HR := (fun (r : ApiOutcome × Int) (u : (Option Addr) × Nat × Nat) => [ownE 3 1 encI u.1 u.2.1 u.2.2 r.1.Won])) (by kernel_rfl) (fun w1 => op_call (by kernel_rfl)) (fun r1 hr1 w1 c1 => m_auction_Run_ok N w1 p0 p1.E0 p1.E2 A_p0 n_p0 c_p0 (hr_p0.old c1) hz_p0 r1 hr1) ?_
    intro r6 u7
    refine lm_val 21 (by kernel_rfl) (fun w1 c1 => (op_move (v := .tuple _) rfl)) ?_
    refine lm_val 28 (by kernel_rfl) (fun w1 c1 => (op_extract (v := .agg _) rfl rfl)) ?_
    refine lm_val 29 (by kernel_rfl) (fun w1 c1 => (op_extract (v := .int .i64 _) rfl rfl)) ?_
    refine lm_alloc 5 [.slice none 0 0, .int .i64 0] (v := .agg #[.slice none 0 0, .int .i64 0]) (by kernel_rfl) (by kernel_rfl) rfl ?_
    intro b8
    refine lm_storeA 0 [.slice _ _ _, .int .i64 _] [_, _] (H' := [blkE _ _ [_, _], _, _]) (by kernel_rfl) rfl rfl (by kernel_rfl) rfl rfl (by kernel_rfl) rfl rfl ?_
    refine lm_val 6 (by kernel_rfl) (fun w1 c1 => (op_assign (v := .int .i64 _) rfl)) ?_
    refine lm_nil ?_
    refine xm_next ?_
    refine cm_seq ?_
    refine cm_region ?_
    refine lm_val 31 (by kernel_rfl) (fun w1 c1 => (op_move (v := .slice _ _ _) rfl)) ?_
    refine lm_val 32 (by kernel_rfl) (fun w1 c1 => (op_indexArr (len := 3) (sz := 1) (k := 1) 1 rfl rfl rfl (by kernel_rfl) (by kernel_rfl) rfl)) ?_
    refine lm_val 33 (by kernel_rfl) (fun w1 c1 => (op_load rfl (by kernel_rfl) (c1.cell 2 (u := .int .i64 _) rfl rfl))) ?_
    refine lm_val 34 (by kernel_rfl) (fun w1 c1 => (op_indexArr (len := 3) (sz := 1) (k := 2) 2 rfl rfl rfl (by kernel_rfl) (by kernel_rfl) rfl)) ?_
    refine lm_val 35 (by kernel_rfl) (fun w1 c1 => (op_load rfl (by kernel_rfl) (c1.cell 2 (u := .int .i64 _) rfl rfl))) ?_
    refine lm_call 36 (V := (fun (r : ApiOutcome × Int) (u : (Option Addr) × Nat × Nat) => .tuple #[.agg #[.slice u.1 u.2.1 u.2.2, .int .i64 r.1.Price], .int .i64 r.2])) (HR := (fun (r : ApiOutcome × Int) (u : (Option Addr) × Nat × Nat) => [ownE 3 1 encI u.1 u.2.1 u.2.2 r.1.Won])) (by kernel_rfl) (fun w1 => op_call (by kernel_rfl)) (fun r1 hr1 w1 c1 => m_auction_Run_ok N w1 p0 p1.E1 p1.E2 A_p0 n_p0 c_p0 (hr_p0.old c1) hz_p0 r1 hr1) ?_
    intro r9 u10
    refine lm_val 30 (by kernel_rfl) (fun w1 c1 => (op_move (v := .tuple _) rfl)) ?_
    refine lm_val 37 (by kernel_rfl) (fun w1 c1 => (op_extract (v := .agg _) rfl rfl)) ?_
    refine lm_val 38 (by kernel_rfl) (fun w1 c1 => (op_extract (v := .int .i64 _) rfl rfl)) ?_
    refine lm_alloc 7 [.slice none 0 0, .int .i64 0] (v := .agg #[.slice none 0 0, .int .i64 0]) (by kernel_rfl) (by kernel_rfl) rfl ?_
    intro b11
    refine lm_storeA 0 [.slice _ _ _, .int .i64 _] [_, _] (H' := [blkE _ _ [_, _], _, _, _, _]) (by kernel_rfl) rfl rfl (by kernel_rfl) rfl rfl (by kernel_rfl) rfl rfl ?_
    refine lm_val 8 (by kernel_rfl) (fun w1 c1 => (op_assign (v := .int .i64 _) rfl)) ?_
    refine lm_nil ?_
    refine xm_next ?_
    refine cm_seq ?_
    refine cm_seq ?_
    refine cm_cutE [(44, .bool ((decide (r6.2 ≠ 0)) || (decide (r9.2 ≠ 0))))] ?_ ?_
    · skip
      refine wq_val 39 (by kernel_rfl) (fun w1 c1 => (op_move (v := .int .i64 _) rfl)) ?_
      refine wq_dec 40 (by kernel_rfl) (fun w1 c1 => (op_neq rfl rfl)) (fun h12 => ?_) (fun h12 => ?_)
      · skip
        refine wq_val 41 (by kernel_rfl) (fun w1 c1 => (op_move (v := .bool true) rfl)) ?_
        refine wq_skip 42 (by kernel_rfl) ?_
        refine wq_skip 43 (by kernel_rfl) ?_
        refine wq_val 44 (by kernel_rfl) (fun w1 c1 => (op_pick_t (v := .bool true) rfl rfl)) ?_
        exact leaf_q (sub_out 6 _ rfl (by kernel_rfl) ⟨(congrArg Value.bool (by rw [decide_eq_true h12] <;> rfl)), trivial⟩)
      · skip
        refine wq_val 41 (by kernel_rfl) (fun w1 c1 => (op_move (v := .bool false) rfl)) ?_
        refine wq_val 42 (by kernel_rfl) (fun w1 c1 => (op_move (v := .int .i64 _) rfl)) ?_
        refine wq_val 43 (by kernel_rfl) (fun w1 c1 => (op_neq rfl rfl)) ?_
        refine wq_val 44 (by kernel_rfl) (fun w1 c1 => (op_pick_f (v := .bool _) rfl rfl)) ?_
        exact leaf_q (sub_out 6 _ rfl (by kernel_rfl) ⟨(congrArg Value.bool (by rw [decide_eq_false h12] <;> rfl)), trivial⟩)
    refine xm_next ?_
    refine cm_condB (by kernel_rfl) rfl (fun h13 => ?_) (fun h13 => ?_)
    · skip
      refine cm_seq ?_
      refine cm_region ?_
      refine lm_call 45 (V := (fun (r : Bool) (_u : Unit) => .bool r)) (HR := (fun (_r : Bool) (_u : Unit) => [])) (by kernel_rfl) (fun w1 => op_call (by kernel_rfl)) (fun r1 hr1 w1 c1 => m_recyclinglaw51_awake_ok N w1   r1 hr1) ?_
      intro r14 u15
      refine lm_val 4 (by kernel_rfl) (fun w1 c1 => (op_assign (v := .bool _) rfl)) ?_
      refine lm_nil ?_
      refine xm_next ?_
      refine cm_ret ?_
      refine xm_thenR ?_
      exact xm_retT rfl (by kernel_rfl) (show _ = Value.bool _ from rfl) fun w1 c1 => ⟨(), rfl, hsub [] (by kernel_rfl) rfl w1 c1⟩
    · skip
      refine cm_skip ?_
      refine xm_next ?_
      refine cm_seq ?_
      refine cm_seq ?_
      refine cm_cutE [(66, .bool (((decide ((List.length r6.1.Won : Int) ≠ (List.length p0 : Int))) || (decide ((List.length r9.1.Won : Int) ≠ (List.length p0 : Int)))) || (decide (r6.1.Price < r9.1.Price))))] ?_ ?_
      · skip
        refine wq_val 46 (by kernel_rfl) (fun w1 c1 => (op_fieldL (m := 0) (k := 0) rfl (by kernel_rfl) rfl)) ?_
        refine wq_val 47 (by kernel_rfl) (fun w1 c1 => (op_load rfl (by kernel_rfl) (c1.cell 2 (u := .slice _ _ _) rfl rfl))) ?_
        refine wq_val 48 (by kernel_rfl) (fun w1 c1 => (op_lenN rfl (by kernel_rfl) (c1.ownZ 3 rfl).2.2)) ?_
        refine wq_val 49 (by kernel_rfl) (fun w1 c1 => (op_move (v := .slice _ _ _) rfl)) ?_
        refine wq_val 50 (by kernel_rfl) (fun w1 c1 => (op_lenN rfl (by kernel_rfl) hz_p0.2.2)) ?_
        refine wq_dec 51 (by kernel_rfl) (fun w1 c1 => (op_neq rfl rfl)) (fun h16 => ?_) (fun h16 => ?_)
        · skip
          refine wq_val 52 (by kernel_rfl) (fun w1 c1 => (op_move (v := .bool true) rfl)) ?_
          refine wq_skip 53 (by kernel_rfl) ?_
          refine wq_skip 54 (by kernel_rfl) ?_
          refine wq_skip 55 (by kernel_rfl) ?_
          refine wq_skip 56 (by kernel_rfl) ?_
          refine wq_skip 57 (by kernel_rfl) ?_
          refine wq_skip 58 (by kernel_rfl) ?_
          refine wq_val 59 (by kernel_rfl) (fun w1 c1 => (op_pick_t (v := .bool true) rfl rfl)) ?_
          refine wq_val 60 (by kernel_rfl) (fun w1 c1 => (op_move (v := .bool true) rfl)) ?_
          refine wq_skip 61 (by kernel_rfl) ?_
          refine wq_skip 62 (by kernel_rfl) ?_
          refine wq_skip 63 (by kernel_rfl) ?_
          refine wq_skip 64 (by kernel_rfl) ?_
          refine wq_skip 65 (by kernel_rfl) ?_
          refine wq_val 66 (by kernel_rfl) (fun w1 c1 => (op_pick_t (v := .bool true) rfl rfl)) ?_
          exact leaf_q (sub_out 21 _ rfl (by kernel_rfl) ⟨(congrArg Value.bool (by rw [decide_eq_true h16] <;> rfl)), trivial⟩)
        · skip
          refine wq_val 52 (by kernel_rfl) (fun w1 c1 => (op_move (v := .bool false) rfl)) ?_
          refine wq_val 53 (by kernel_rfl) (fun w1 c1 => (op_fieldL (m := 0) (k := 0) rfl (by kernel_rfl) rfl)) ?_
          refine wq_val 54 (by kernel_rfl) (fun w1 c1 => (op_load rfl (by kernel_rfl) (c1.cell 0 (u := .slice _ _ _) rfl rfl))) ?_
          refine wq_val 55 (by kernel_rfl) (fun w1 c1 => (op_lenN rfl (by kernel_rfl) (c1.ownZ 1 rfl).2.2)) ?_
          refine wq_val 56 (by kernel_rfl) (fun w1 c1 => (op_move (v := .slice _ _ _) rfl)) ?_
          refine wq_val 57 (by kernel_rfl) (fun w1 c1 => (op_lenN rfl (by kernel_rfl) hz_p0.2.2)) ?_
          refine wq_dec 58 (by kernel_rfl) (fun w1 c1 => (op_neq rfl rfl)) (fun h17 => ?_) (fun h17 => ?_)
          · skip
            refine wq_val 59 (by kernel_rfl) (fun w1 c1 => (op_pick_f (v := .bool true) rfl rfl)) ?_
            refine wq_val 60 (by kernel_rfl) (fun w1 c1 => (op_move (v := .bool true) rfl)) ?_
            refine wq_skip 61 (by kernel_rfl) ?_
            refine wq_skip 62 (by kernel_rfl) ?_
            refine wq_skip 63 (by kernel_rfl) ?_
            refine wq_skip 64 (by kernel_rfl) ?_
            refine wq_skip 65 (by kernel_rfl) ?_
            refine wq_val 66 (by kernel_rfl) (fun w1 c1 => (op_pick_t (v := .bool true) rfl rfl)) ?_
            exact leaf_q (sub_out 21 _ rfl (by kernel_rfl) ⟨(congrArg Value.bool (by rw [decide_eq_false h16, decide_eq_true h17] <;> rfl)), trivial⟩)
          · skip
            refine wq_val 59 (by kernel_rfl) (fun w1 c1 => (op_pick_f (v := .bool false) rfl rfl)) ?_
            refine wq_val 60 (by kernel_rfl) (fun w1 c1 => (op_move (v := .bool false) rfl)) ?_
            refine wq_val 61 (by kernel_rfl) (fun w1 c1 => (op_fieldL (m := 1) (k := 1) rfl (by kernel_rfl) rfl)) ?_
            refine wq_val 62 (by kernel_rfl) (fun w1 c1 => (op_load rfl (by kernel_rfl) (c1.cell 0 (u := .int .i64 _) rfl rfl))) ?_
            refine wq_val 63 (by kernel_rfl) (fun w1 c1 => (op_fieldL (m := 1) (k := 1) rfl (by kernel_rfl) rfl)) ?_
            refine wq_val 64 (by kernel_rfl) (fun w1 c1 => (op_load rfl (by kernel_rfl) (c1.cell 2 (u := .int .i64 _) rfl rfl))) ?_
            refine wq_val 65 (by kernel_rfl) (fun w1 c1 => (op_gtr rfl rfl)) ?_
            refine wq_val 66 (by kernel_rfl) (fun w1 c1 => (op_pick_f (v := .bool _) rfl rfl)) ?_
            exact leaf_q (sub_out 21 _ rfl (by kernel_rfl) ⟨(congrArg Value.bool (by rw [decide_eq_false h16, decide_eq_false h17] <;> rfl)), trivial⟩)
      refine xm_next ?_
      refine cm_condB (by kernel_rfl) rfl (fun h18 => ?_) (fun h18 => ?_)
      · skip
        refine cm_seq ?_
        refine cm_region ?_
        refine lm_val 4 (by kernel_rfl) (fun w1 c1 => (op_assign (v := .bool false) rfl)) ?_
        refine lm_nil ?_
        refine xm_next ?_
        refine cm_ret ?_
        refine xm_thenR ?_
        exact xm_retT rfl (by kernel_rfl) (show _ = Value.bool false from rfl) fun w1 c1 => ⟨(), rfl, hsub [] (by kernel_rfl) rfl w1 c1⟩
      · skip
        refine cm_skip ?_
        refine xm_next ?_
        refine cm_join (σ := Unit) (ξ := Unit) (fun s40 u41 => []) (fun s40 u41 => []) ?_ ?_
        · skip
          refine cm_seq ?_
          refine cm_region ?_
          refine lm_val 9 (by kernel_rfl) (fun w1 c1 => (op_assign (v := .int .i64 _) rfl)) ?_
          refine lm_nil ?_
          refine xm_next ?_
          refine cm_block ?_
          refine cm_loop (σ := Int) (ξ := Unit) (fun s56 u57 => [(0, .slice A_p0 n_p0 c_p0), (5, .pointer (some ⟨b8, 0, none⟩)), (7, .pointer (some ⟨b11, 0, none⟩)), (9, .int .i64 s56)]) (fun s56 u57 => [blkE b8 29 [.slice u7.1 u7.2.1 u7.2.2, .int .i64 r6.1.Price], ownE 3 1 encI u7.1 u7.2.1 u7.2.2 r6.1.Won, blkE b11 29 [.slice u10.1 u10.2.1 u10.2.2, .int .i64 r9.1.Price], ownE 3 1 encI u10.1 u10.2.1 u10.2.2 r9.1.Won]) () ?_ ?_ ?_
          · exact (sub_cons (by kernel_rfl) rfl (sub_cons (by kernel_rfl) rfl (sub_cons (by kernel_rfl) rfl (sub_cons (by kernel_rfl) rfl sub_nil))))
          · exact hsub [2, 3, 0, 1] (by kernel_rfl) rfl
          intro s56 u57
          refine cm_seq ?_
          refine cm_seq ?_
          refine cm_region ?_
          refine lm_val 67 (by kernel_rfl) (fun w1 c1 => (op_move (v := .int .i64 _) rfl)) ?_
          refine lm_val 68 (by kernel_rfl) (fun w1 c1 => (op_move (v := .slice _ _ _) rfl)) ?_
          refine lm_val 69 (by kernel_rfl) (fun w1 c1 => (op_lenN rfl (by kernel_rfl) hz_p0.2.2)) ?_
          refine lm_val 70 (by kernel_rfl) (fun w1 c1 => (op_lss rfl rfl)) ?_
          refine lm_nil ?_
          refine xm_next ?_
          refine cm_cond (by kernel_rfl) rfl (fun h58 => ?_) (fun h58 => ?_)
          · skip
            refine cm_skip ?_
            refine xm_next ?_
            refine cm_seq ?_
            refine cm_block ?_
            refine cm_seq ?_
            refine cm_ck (fun h59 => ?_)
            refine cm_ck (fun h60 => ?_)
            refine cm_drawn [(83, .bool (decide ((ix r9.1.Won s56) < (ix r6.1.Won s56))))] (by kernel_rfl) (by kernel_rfl) ?_ ?_
            · skip
              refine wq_val 73 (by kernel_rfl) (fun w1 c1 => (op_fieldL (m := 0) (k := 0) rfl (by kernel_rfl) rfl)) ?_
              refine wq_val 74 (by kernel_rfl) (fun w1 c1 => (op_load rfl (by kernel_rfl) (c1.cell 2 (u := .slice _ _ _) rfl rfl))) ?_
              refine wq_val 75 (by kernel_rfl) (fun w1 c1 => (op_move (v := .int .i64 _) rfl)) ?_
              refine wq_val 76 (by kernel_rfl) (fun w1 c1 => (op_indexA 1 rfl rfl (by kernel_rfl) ((c1.own 3 rfl encI_len).addr h59.1 h59.2) (c1.ownZ 3 rfl).2.2 h59.1 h59.2)) ?_
              refine wq_val 77 (by kernel_rfl) (fun w1 c1 => (op_load (v := .int .i64 (ix r9.1.Won s56)) rfl (by kernel_rfl) ((c1.own 3 rfl encI_len).cell0 h59.1 h59.2 rfl))) ?_
              refine wq_val 78 (by kernel_rfl) (fun w1 c1 => (op_fieldL (m := 0) (k := 0) rfl (by kernel_rfl) rfl)) ?_
              refine wq_val 79 (by kernel_rfl) (fun w1 c1 => (op_load rfl (by kernel_rfl) (c1.cell 0 (u := .slice _ _ _) rfl rfl))) ?_
              refine wq_val 80 (by kernel_rfl) (fun w1 c1 => (op_move (v := .int .i64 _) rfl)) ?_
              refine wq_val 81 (by kernel_rfl) (fun w1 c1 => (op_indexA 1 rfl rfl (by kernel_rfl) ((c1.own 1 rfl encI_len).addr h60.1 h60.2) (c1.ownZ 1 rfl).2.2 h60.1 h60.2)) ?_
              refine wq_val 82 (by kernel_rfl) (fun w1 c1 => (op_load (v := .int .i64 (ix r6.1.Won s56)) rfl (by kernel_rfl) ((c1.own 1 rfl encI_len).cell0 h60.1 h60.2 rfl))) ?_
              refine wq_val 83 (by kernel_rfl) (fun w1 c1 => (op_lss rfl rfl)) ?_
              exact leaf_q (sub_out 11 _ rfl (by kernel_rfl) ⟨rfl, trivial⟩)
            refine xm_next ?_
            refine cm_cond (by kernel_rfl) rfl (fun h61 => ?_) (fun h61 => ?_)
            · skip
              refine cm_seq ?_
              refine cm_region ?_
              refine lm_val 4 (by kernel_rfl) (fun w1 c1 => (op_assign (v := .bool false) rfl)) ?_
              refine lm_nil ?_
              refine xm_next ?_
              refine cm_ret ?_
              refine xm_inR ?_
              refine xm_thenR ?_
              refine xm_lret ?_
              refine xm_inR ?_
              refine xm_lret ?_
              exact xm_retT rfl (by kernel_rfl) (show _ = Value.bool false from rfl) fun w1 c1 => ⟨(), rfl, hsub [] (by kernel_rfl) rfl w1 c1⟩
            · skip
              refine cm_skip ?_
              refine xm_inN ?_
              refine xm_next ?_
              refine cm_region ?_
              refine lm_val 71 (by kernel_rfl) (fun w1 c1 => (op_move (v := .int .i64 _) rfl)) ?_
              refine lm_ck (fun h62 => ?_)
              refine lm_val 72 (by kernel_rfl) (fun w1 c1 => (op_add rfl rfl h62)) ?_
              refine lm_val 9 (by kernel_rfl) (fun w1 c1 => (op_assign (v := .int .i64 _) rfl)) ?_
              refine lm_nil ?_
              exact xm_lnext () (sub_cons (by kernel_rfl) rfl (sub_cons (by kernel_rfl) rfl (sub_cons (by kernel_rfl) rfl (sub_cons (by kernel_rfl) rfl sub_nil)))) (hsub [0, 1, 2, 3] (by kernel_rfl) rfl)
          · skip
            refine cm_exit ?_
            refine xm_thenE ?_
            refine xm_lexit ?_
            refine xm_here ?_
            exact xm_lnext () sub_nil (hsub [] (by kernel_rfl) rfl)
        intro s40 u41
        refine cm_seq ?_
        refine cm_region ?_
        refine lm_call 84 (V := (fun (r : Bool) (_u : Unit) => .bool r)) (HR := (fun (_r : Bool) (_u : Unit) => [])) (by kernel_rfl) (fun w1 => op_call (by kernel_rfl)) (fun r1 hr1 w1 c1 => m_recyclinglaw51_awake_ok N w1   r1 hr1) ?_
        intro r63 u64
        refine lm_val 4 (by kernel_rfl) (fun w1 c1 => (op_assign (v := .bool _) rfl)) ?_
        refine lm_nil ?_
        refine xm_next ?_
        refine cm_ret ?_
        exact xm_retT rfl (by kernel_rfl) (show _ = Value.bool _ from rfl) fun w1 c1 => ⟨(), rfl, hsub [] (by kernel_rfl) rfl w1 c1⟩
end Go.Proofs.Ytimmifkdocjljaa
